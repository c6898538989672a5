/- The proof's part 33. -/
import Derived.Test.YtnkgknbdaiakgaaGreatDoorY25
set_option maxHeartbeats 16000000
set_option linter.all false
set_option maxRecDepth 100000
namespace Go.Proofs.YtnkgknbdaiakgaaGreatDoor
open Pl Go.Proofs.Tryz Go.RowKit Go.Shelf Go.Joins
attribute [local go_sem] U28
def V9q(X:V35 Nat)(e:Ending):Prop:=match X with
 |.ok m=>e=.returned (.tuple #[m,f0])
 |.bad c p=>e=.returned (.tuple #[(0:Int),fv c p])
theorem O5p(w:World)(o:Obj)(m:Nat)(s:ByteArray)(p:Nat):Gr (w.alloc o) (((w.alloc o).drewN m).iter s p):=((Gr.refl _).drewN m).alloc _
theorem O8y(w:World)(m k:Nat)(s:ByteArray)(p:Nat):((w.drewN m).iter s p).drewN k=(w.drewN (m+k)).iter s p:=by
 simp[World.iter,World.alloc,World.drewN,U2a]
theorem O8z(w:World)(m:Nat)(s:ByteArray)(p k:Nat)(hk:k=w.heap.size):((w.drewN m).iter s p).iterPos k=p:=by
 subst hk;simp[World.iterPos,World.iter,World.alloc,World.drewN]
theorem Ogt(s ae:ByteArray)(hw:∀h:Nat,(h1:h<ae.size)->(ae[h]'h1).toNat<128)(hs:s.size<=20000000)(mh:ae.size<=10)(n:Nat)(i:Int)(hi:i=n)(hn:n<=s.size)(w:World):Calls prog 122 #[.string s,i,.string ae] w λ e w'=>V9q (Pl.isF (bs s) n (bs ae)) e/\Gr w w':=by
 subst hi;obtain⟨X,hX⟩:=ExZ (Pl.isF (bs s) n (bs ae))
 rw[hX];have HX:=U10 hX;have HW:=U10 hw;clear hX hw;go_enter func122,ntmps122;go_wp2_with fail
 go_loopw [8] (λ _ wr=>∃ai m:Nat,wr=((w.alloc (.cells #[(0:Int),(0:Int)] 29)).drewN m).iter ae ai/\ai<=ae.size/\Pl.isF (bs s) (n+ai) ((bs ae).drop ai)=X) (λ _ wr=>ae.size-wr.iterPos (w.heap.size+1))
 case atStart=>exact⟨0,0,rfl,Ya,by simpa using HX.o⟩
 case round =>
  obtain⟨ai,m,rfl,mb,hx⟩:=hrel;have dU:=U10 hx;clear hx;by_cases hp:ai<ae.size
  ·have EF:∀ty,(Instr.next (.pointer (some ⟨w+1,0,none⟩)) true ty).run prog (((w.alloc (.cells #[(0:Int),(0:Int)] 29)).drewN m).iter ae ai)=.ok (.tuple #[.bool true,ai,.int .i32 (ae[ai]'hp).toNat]) (((w.alloc (.cells #[(0:Int),(0:Int)] 29)).drewN m).iter ae (ai+1)):=λ ty=>by
    have:=U4u (P:=prog) ((w.alloc (.cells #[(0:Int),(0:Int)] 29)).drewN m) ae ai ty hp (HW.o ai hp);rw[show ((w.alloc (.cells #[(0:Int),(0:Int)] 29)).drewN m).heap.size=w.heap.size+1 by simp[World.drewN]]at this;exact this
   have fm:=dU.o;rw[O9 ae ai hp]at fm;simp only[Pl.isF]at fm;have w1:IntKind.i64.wrap ((n:Int)+(ai:Int))=(n:Int)+(ai:Int):=U1i _ ⟨Ya,Ya⟩;have k0:(0:Int)<=(ai:Int):=Ya;have k1:(ai:Int)<(ae.size:Int):=Ya;have k2:(0:Int)<=(n:Int)+(ai:Int):=Ya;have k3:((n:Int)+(ai:Int)).toNat=n+ai:=Ya
   by_cases aa:n+ai<s.size
   ·have d1:decide ((s.size:Int)<=(n:Int)+(ai:Int))=false:=by simp;omega
    have k4:(n:Int)+(ai:Int)<(s.size:Int):=Ya;have hg:(bs s)[n+ai]?=some (s[n+ai]'aa):=by
     have h2:=O9 s (n+ai) aa;have h3:(bs s)[n+ai]?=((bs s).drop (n+ai))[0]?:=by rw[U2l];rfl
     rw[h3,h2];rfl
    rw[hg]at fm;cases hq:((s[n+ai]'aa).toNat==(ae[ai]'hp).toNat) with
    |true =>
     obtain⟨q1,q2⟩:=V1q _ _ _ hq;have jJ:s[n+ai]'aa=ae[ai]'hp:=U20.1 (by simpa using hq);rw[U18 (by rw[jJ])]at fm;have nZ:=U10 fm;clear hq hg jJ fm;go_wp2_with fail
     go_quiet (fail)
     go_wp2_with fail;refine⟨⟨ai+1,m+nq,O8y _ _ _ _ _,Ya,nZ.o⟩,?_⟩;rw[O8y,O8z _ _ _ _ _ Yb,O8z _ _ _ _ _ Yb];omega
    |false =>
     obtain⟨q1,q2⟩:=V1q _ _ _ hq;rw[U1b (λ e=>by rw[U2u e]at hq;simp at hq)]at fm;have nZ:=U10 fm;clear hq hg fm;exact J168
   have d1:decide ((s.size:Int)<=(n:Int)+(ai:Int))=true:=Ye;have hg:(bs s)[n+ai]?=none:=U2t (by rw[O0];omega);rw[hg,U1b Yb]at fm;have nZ:=U10 fm;clear hg fm;exact J168
  obtain rfl:ai=ae.size:=Ya;have EF:∀ty,(Instr.next (.pointer (some ⟨w+1,0,none⟩)) true ty).run prog (((w.alloc (.cells #[(0:Int),(0:Int)] 29)).drewN m).iter ae ae.size)=.ok (.tuple #[.bool false]) (((w.alloc (.cells #[(0:Int),(0:Int)] 29)).drewN m).iter ae ae.size):=λ ty=>by
   have:=run_next_end (P:=prog) ((w.alloc (.cells #[(0:Int),(0:Int)] 29)).drewN m) ae ae.size ty hp;rw[show ((w.alloc (.cells #[(0:Int),(0:Int)] 29)).drewN m).heap.size=w.heap.size+1 by simp[World.drewN]]at this;exact this
  have fm:=dU.o;rw[U1w (by rw[O0];omega)]at fm;simp only[Pl.isF]at fm;have nZ:=U10 fm;have w1:IntKind.i64.wrap ((n:Int)+(ae.size:Int))=(n:Int)+(ae.size:Int):=U1i _ ⟨Ya,Ya⟩;clear fm;go_wp2_with fail;obtain⟨W,hW⟩:=ExZ ((((w.alloc (.cells #[(0:Int),(0:Int)] 29)).drewN m).iter ae ae.size))
  have kb:FX w (0:Int) (0:Int) W:=by rw[<-hW];exact (FX.new w (0:Int) (0:Int) 29).gr (O5p w _ m ae ae.size)
  have eP:Gr w W:=by rw[<-hW];exact ((Gr.refl w).alloc _).trans (O5p w _ m ae ae.size)
  rw[hW];clear hW EF;have hF:FX w (0:Int) (0:Int) W.drew:=kb.gr (Gr.refl _).drew;refine Reg.begin' (W:=λ i=>i != 6) (S:=FX w (0:Int) (0:Int)) Yc ?_;refine Z31 ?_;refine Reg.ty 3 ?_;refine Reg.tl 4 hF ?_ (hy:=by intro w ab;obtain⟨q0,q1,qf,ql⟩:=ab;go_simp;try with_reducible rfl);refine Reg.ty 5 ?_;obtain⟨q0,q1,qf,ql⟩:=kb;refine Reg.on 6 ?_;go_simp;refine Z12 ?_;go_wp2_with fail;refine U11 (v:=.tuple #[.int .i64 ((n:Int)+(ae.size:Int)),f0]) (by simp[results,results122,go_sem,q0,q1,qf,ql]) rfl ⟨?_,Gr.auto⟩;rw[<-nZ.o];exact rfl
theorem Ojc(s:ByteArray)(a:Nat)(h:a<s.size):V9 (bs s) a=(s[a]'h).toNat:=by
 unfold V9;have h2:=O9 s a h;have h3:(bs s)[a]?=((bs s).drop a)[0]?:=by rw[U2l];rfl
 rw[h3,h2];rfl
theorem Oo8(c:UInt8)(r:List UInt8):Pl.pre (c::r) [10]=(c.toNat==10):=by
 have h:(c==10)=(c.toNat==10):=U3j.2 (by simp[<-U20]);have h':((10:UInt8)==c)=(c.toNat==10):=U3j.2 (by simp[<-U20];omega)
 first
  |(show ((c==10)&&true)=_;rw[h,Bool.and_true])
  |(show (((10:UInt8)==c)&&true)=_;rw[h',Bool.and_true])
  |(simp[Pl.pre,h,h'])
theorem Ojd(s:ByteArray)(hs:s.size<=20000000)(n:Nat)(i:Int)(hi:i=n)(hn:n<=s.size)(w:World):Calls prog 93 #[.string s,i] w λ e w'=>V9q (V1e (bs s) n) e/\Gr w w':=by
 subst hi;have hb:=V8 (bs s) n (by rw[O0];exact hn);rw[O0]at hb;obtain⟨b,jj⟩:=ExZ (V7 (bs s) n)
 rw[jj]at hb;have hc:=V3y (bs s) b (by rw[O0];exact hb.2);rw[O0]at hc;obtain⟨a,Fd⟩:=ExZ (Vs (bs s) b)
 rw[Fd]at hc;have hX:V1e (bs s) n=if a=s.size then .ok a else if V9 (bs s) a=10 then .ok (a+1) else if V9 (bs s) a=13 then Pl.isF (bs s) a [13,10] else .bad 3 a:=by
  unfold V1e;simp only[jj,Fd,O0]
 have HX:=U10 hX;have HB:=U10 jj;have HA:=U10 Fd;have ay:=hb.2;have aE:=hc.2;clear hX jj Fd hb hc;go_enter func93,ntmps93;go_wp2_with fail;refine (Oa s _ n rfl hn Ya _).mono ?_;rw[HB.o];rintro e w1 ⟨rfl,g1⟩;go_wp2_with fail;refine (O26 s _ b rfl ay Ya _).mono ?_;rw[HA.o];rintro e w2 ⟨rfl,g2⟩;refine Z160 ?_;intro hF hG;have ie:FX w (0:Int) (0:Int) w2.drew:=hF.gr (Gr.refl _).drew;clear g1 g2;by_cases h1:a=s.size
 ·have d1:((a:Int)==(s.size:Int))=true:=by simp;omega
  have HY:Hid (V1e (bs s) n=.ok a):=U10 (by rw[HX.o,U18 h1]);clear h1;go_wp2_with fail;refine Z94 ?_;obtain⟨q0,q1,qf,ql⟩:=hF;refine Z189 ?_;refine Z12 ?_;go_wp2_with fail;refine U11 (v:=.tuple #[a,f0]) (by simp[results,results93,go_sem,q0,q1,qf,ql]) rfl ⟨?_,Gr.auto⟩;rw[HY.o];exact rfl
 have d1:((a:Int)==(s.size:Int))=false:=Ye;have ha:a<s.size:=Ya;have IT:=Ojc s a ha;rw[IT,U1b h1]at HX;have k0:(0:Int)<=(a:Int):=Ya;have k1:(a:Int)<=(s.size:Int):=Ya;have k2:(a:Int)<(s.size:Int):=Ya;refine Z266 ?_;intro w1;have nB:Pl.pre ((bs s).drop a) [10]=((s[a]'ha).toNat==10):=by
  rw[O9 s a ha];exact Oo8 _ _
 cases de:((s[a]'ha).toNat==10) with
 |true =>
  rw[de]at nB;have HP:=U10 nB;have HY:Hid (V1e (bs s) n=.ok (a+1)):=U10 (by rw[HX.o,U18 (by simpa using de)]);clear de nB IT h1;go_wp2_with (go_at_call 56;refine (O6 s ⟨#[10]⟩ a true HP.o _).mono ?_;rintro e w3 ⟨rfl,rfl⟩);refine Reg.begin' (W:=λ i=>i != 4) (S:=FX w (0:Int) (0:Int)) Yc ?_;refine Z55 ?_;refine Reg.tl 2 ie ?_ (hy:=by intro w ab;obtain⟨q0,q1,qf,ql⟩:=ab;go_simp;try with_reducible rfl);refine Reg.ty 3 ?_;obtain⟨q0,q1,qf,ql⟩:=hF;refine Reg.on 4 ?_;go_simp;refine Z12 ?_;go_wp2_with fail;refine U11 (v:=.tuple #[.int .i64 ((a:Int)+1),f0]) (by simp[results,results93,go_sem,q0,q1,qf,ql]) rfl ⟨?_,Gr.auto⟩;rw[HY.o];exact rfl
 |false =>
  rw[de]at nB;have HP:=U10 nB;rw[U1b (by simpa using de)]at HX;clear de nB IT h1;cases fC:((s[a]'ha).toNat==13) with
  |true =>
   have z1:(((s[a]'ha).toNat:Int)==13)=true:=(V1q _ 13 _ fC).1;have HY:Hid (V1e (bs s) n=Pl.isF (bs s) a [13,10]):=U10 (by rw[HX.o,U18 (by simpa using fC)]);clear fC;go_wp2_with (go_at_call 56;refine (O6 s ⟨#[10]⟩ a false HP.o _).mono ?_;rintro e w3 ⟨rfl,rfl⟩);refine (Ogt s ⟨#[13,10]⟩ (O2n _ Yd) hs Yd a _ rfl Ya _).mono ?_;rintro e w4 ⟨hp,g4⟩;rw[show bs ⟨#[13,10]⟩=[13,10] from rfl,<-HY.o]at hp;obtain⟨q0,q1,qf,ql⟩:=hF.gr g4;have dk:=hG.trans g4;clear g4 ie hF;unfold V9q at hp;cases hq:V1e (bs s) n with
   |ok m =>
    rw[hq]at hp;have he:=hp;clear hp;subst he;go_wp2_with fail;refine U11 (v:=.tuple #[m,f0]) (by simp[results,results93,go_sem,q0,q1,qf,ql]) rfl ⟨?_,Gr.auto⟩;rw[hq];exact rfl
   |bad c p =>
    rw[hq]at hp;have he:=hp;clear hp;subst he;go_wp2_with fail;refine U11 (v:=.tuple #[(0:Int),fv c p]) (by simp[results,results93,go_sem,q0,q1,qf,ql]) rfl ⟨?_,Gr.auto⟩;rw[hq];exact rfl
  |false =>
   have z1:(((s[a]'ha).toNat:Int)==13)=false:=(V1q _ 13 _ fC).1;have HY:Hid (V1e (bs s) n=.bad 3 a):=U10 (by rw[HX.o,U1b (by simpa using fC)]);clear fC;go_wp2_with (go_at_call 56;refine (O6 s ⟨#[10]⟩ a false HP.o _).mono ?_;rintro e w3 ⟨rfl,rfl⟩);refine (Obl _ a rfl _).mono ?_;rintro e w4 ⟨rfl,g4⟩;obtain⟨q0,q1,qf,ql⟩:=hF.gr g4;have dk:=hG.trans g4;clear g4 ie hF;go_wp2_with fail;refine U11 (v:=.tuple #[(0:Int),fv 3 a]) (by simp[results,results93,go_sem,q0,q1,qf,ql]) rfl ⟨?_,Gr.auto⟩;rw[HY.o];exact rfl
