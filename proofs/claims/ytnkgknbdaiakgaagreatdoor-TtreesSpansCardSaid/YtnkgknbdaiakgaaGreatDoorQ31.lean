/- The proof's part 31. -/
import Derived.Test.YtnkgknbdaiakgaaGreatDoorQ23
set_option maxHeartbeats 16000000
set_option linter.all false
set_option maxRecDepth 100000
namespace Go.Proofs.YtnkgknbdaiakgaaGreatDoor
open Pl Go.Proofs.Tryz Go.RowKit Go.Shelf Go.Joins
attribute [local go_sem] U22
def V91(X:V2x Nat)(e:Ending):Prop:=match X with
 |.ok m=>e=.returned (.tuple #[m,f0])
 |.bad c p=>e=.returned (.tuple #[(0:Int),fv c p])
theorem O5a(w:World)(o:Obj)(m:Nat)(s:ByteArray)(p:Nat):Gr (w.alloc o) (((w.alloc o).drewN m).iter s p):=((Gr.refl _).drewN m).alloc _
theorem O8c(w:World)(m k:Nat)(s:ByteArray)(p:Nat):((w.drewN m).iter s p).drewN k=(w.drewN (m+k)).iter s p:=by
 simp[World.iter,World.alloc,World.drewN,U28]
theorem O8d(w:World)(m:Nat)(s:ByteArray)(p k:Nat)(hk:k=w.heap.size):((w.drewN m).iter s p).iterPos k=p:=by
 subst hk;simp[World.iterPos,World.iter,World.alloc,World.drewN]
theorem Ofu(s ad:ByteArray)(hw:∀h:Nat,(h1:h<ad.size)->(ad[h]'h1).toNat<128)(hs:s.size<=20000000)(Ct:ad.size<=10)(n:Nat)(i:Int)(hi:i=n)(hn:n<=s.size)(w:World):Calls prog 122 #[.string s,i,.string ad] w λ e w'=>V91 (Pl.isF (bs s) n (bs ad)) e/\Gr w w':=by
 subst hi;obtain⟨X,hX⟩:=ExZ (Pl.isF (bs s) n (bs ad))
 rw[hX];have HX:=U10 hX;have HW:=U10 hw;clear hX hw;go_enter func122,ntmps122;go_wp2_with fail
 go_loopw [8] (λ _ wr=>∃ar m:Nat,wr=((w.alloc (.cells #[(0:Int),(0:Int)] 29)).drewN m).iter ad ar/\ar<=ad.size/\Pl.isF (bs s) (n+ar) ((bs ad).drop ar)=X) (λ _ wr=>ad.size-wr.iterPos (w.heap.size+1))
 case atStart=>exact⟨0,0,rfl,Ya,by simpa using HX.o⟩
 case round =>
  obtain⟨ar,m,rfl,Q2,hx⟩:=hrel;have ek:=U10 hx;clear hx;by_cases hp:ar<ad.size
  ·have F8:∀ty,(Instr.next (.pointer (some ⟨w+1,0,none⟩)) true ty).run prog (((w.alloc (.cells #[(0:Int),(0:Int)] 29)).drewN m).iter ad ar)=.ok (.tuple #[.bool true,ar,.int .i32 (ad[ar]'hp).toNat]) (((w.alloc (.cells #[(0:Int),(0:Int)] 29)).drewN m).iter ad (ar+1)):=λ ty=>by
    have:=U4k (P:=prog) ((w.alloc (.cells #[(0:Int),(0:Int)] 29)).drewN m) ad ar ty hp (HW.o ar hp);rw[show ((w.alloc (.cells #[(0:Int),(0:Int)] 29)).drewN m).heap.size=w.heap.size+1 by simp[World.drewN]]at this;exact this
   have ft:=ek.o;rw[O8 ad ar hp]at ft;simp only[Pl.isF]at ft;have w1:IntKind.i64.wrap ((n:Int)+(ar:Int))=(n:Int)+(ar:Int):=U1k _ ⟨Ya,Ya⟩;have k0:(0:Int)<=(ar:Int):=Ya;have k1:(ar:Int)<(ad.size:Int):=Ya;have k2:(0:Int)<=(n:Int)+(ar:Int):=Ya;have k3:((n:Int)+(ar:Int)).toNat=n+ar:=Ya
   by_cases a9:n+ar<s.size
   ·have d1:decide ((s.size:Int)<=(n:Int)+(ar:Int))=false:=by simp;omega
    have k4:(n:Int)+(ar:Int)<(s.size:Int):=Ya;have hg:(bs s)[n+ar]?=some (s[n+ar]'a9):=by
     have h2:=O8 s (n+ar) a9;have h3:(bs s)[n+ar]?=((bs s).drop (n+ar))[0]?:=by rw[U2y];rfl
     rw[h3,h2];rfl
    rw[hg]at ft;cases hq:((s[n+ar]'a9).toNat==(ad[ar]'hp).toNat) with
    |true =>
     obtain⟨q1,q2⟩:=V1u _ _ _ hq;have ke:s[n+ar]'a9=ad[ar]'hp:=U2d.1 (by simpa using hq);rw[U1a (by rw[ke])]at ft;have pa:=U10 ft;clear hq hg ke ft;go_wp2_with fail
     go_quiet (fail)
     go_wp2_with fail;refine⟨⟨ar+1,m+nq,O8c _ _ _ _ _,Ya,pa.o⟩,?_⟩;rw[O8c,O8d _ _ _ _ _ Yb,O8d _ _ _ _ _ Yb];omega
    |false =>
     obtain⟨q1,q2⟩:=V1u _ _ _ hq;rw[U1c (λ e=>by rw[U2m e]at hq;simp at hq)]at ft;have pa:=U10 ft;clear hq hg ft;exact J171
   have d1:decide ((s.size:Int)<=(n:Int)+(ar:Int))=true:=Ye;have hg:(bs s)[n+ar]?=none:=U2g (by rw[O0];omega);rw[hg,U1c Yb]at ft;have pa:=U10 ft;clear hg ft;exact J171
  obtain rfl:ar=ad.size:=Ya;have F8:∀ty,(Instr.next (.pointer (some ⟨w+1,0,none⟩)) true ty).run prog (((w.alloc (.cells #[(0:Int),(0:Int)] 29)).drewN m).iter ad ad.size)=.ok (.tuple #[.bool false]) (((w.alloc (.cells #[(0:Int),(0:Int)] 29)).drewN m).iter ad ad.size):=λ ty=>by
   have:=run_next_end (P:=prog) ((w.alloc (.cells #[(0:Int),(0:Int)] 29)).drewN m) ad ad.size ty hp;rw[show ((w.alloc (.cells #[(0:Int),(0:Int)] 29)).drewN m).heap.size=w.heap.size+1 by simp[World.drewN]]at this;exact this
  have ft:=ek.o;rw[U1t (by rw[O0];omega)]at ft;simp only[Pl.isF]at ft;have pa:=U10 ft;have w1:IntKind.i64.wrap ((n:Int)+(ad.size:Int))=(n:Int)+(ad.size:Int):=U1k _ ⟨Ya,Ya⟩;clear ft;go_wp2_with fail;obtain⟨W,hW⟩:=ExZ ((((w.alloc (.cells #[(0:Int),(0:Int)] 29)).drewN m).iter ad ad.size))
  have kL:FX w (0:Int) (0:Int) W:=by rw[<-hW];exact (FX.new w (0:Int) (0:Int) 29).gr (O5a w _ m ad ad.size)
  have eV:Gr w W:=by rw[<-hW];exact ((Gr.refl w).alloc _).trans (O5a w _ m ad ad.size)
  rw[hW];clear hW F8;have hF:FX w (0:Int) (0:Int) W.drew:=kL.gr (Gr.refl _).drew;refine Reg.begin' (W:=λ i=>i != 6) (S:=FX w (0:Int) (0:Int)) Yc ?_;refine Z32 ?_;refine Reg.ty 3 ?_;refine Reg.tl 4 hF ?_ (hy:=by intro w ab;obtain⟨q0,q1,qf,ql⟩:=ab;go_simp;try with_reducible rfl);refine Reg.ty 5 ?_;obtain⟨q0,q1,qf,ql⟩:=kL;refine Reg.on 6 ?_;go_simp;refine Z12 ?_;go_wp2_with fail;refine U11 (v:=.tuple #[.int .i64 ((n:Int)+(ad.size:Int)),f0]) (by simp[results,results122,go_sem,q0,q1,qf,ql]) rfl ⟨?_,Gr.auto⟩;rw[<-pa.o];exact rfl
theorem Oii(s:ByteArray)(a:Nat)(h:a<s.size):Va (bs s) a=(s[a]'h).toNat:=by
 unfold Va;have h2:=O8 s a h;have h3:(bs s)[a]?=((bs s).drop a)[0]?:=by rw[U2y];rfl
 rw[h3,h2];rfl
theorem Ong(c:UInt8)(r:List UInt8):Pl.pre (c::r) [10]=(c.toNat==10):=by
 have h:(c==10)=(c.toNat==10):=U3d.2 (by simp[<-U2d]);have h':((10:UInt8)==c)=(c.toNat==10):=U3d.2 (by simp[<-U2d];omega)
 first
  |(show ((c==10)&&true)=_;rw[h,Bool.and_true])
  |(show (((10:UInt8)==c)&&true)=_;rw[h',Bool.and_true])
  |(simp[Pl.pre,h,h'])
theorem Oij(s:ByteArray)(hs:s.size<=20000000)(n:Nat)(i:Int)(hi:i=n)(hn:n<=s.size)(w:World):Calls prog 93 #[.string s,i] w λ e w'=>V91 (V25 (bs s) n) e/\Gr w w':=by
 subst hi;have hb:=V8 (bs s) n (by rw[O0];exact hn);rw[O0]at hb;obtain⟨b,jB⟩:=ExZ (V7 (bs s) n)
 rw[jB]at hb;have hc:=V3i (bs s) b (by rw[O0];exact hb.2);rw[O0]at hc;obtain⟨a,FE⟩:=ExZ (Vx (bs s) b)
 rw[FE]at hc;have hX:V25 (bs s) n=if a=s.size then .ok a else if Va (bs s) a=10 then .ok (a+1) else if Va (bs s) a=13 then Pl.isF (bs s) a [13,10] else .bad 3 a:=by
  unfold V25;simp only[jB,FE,O0]
 have HX:=U10 hX;have HB:=U10 jB;have HA:=U10 FE;have aA:=hb.2;have aF:=hc.2;clear hX jB FE hb hc;go_enter func93,ntmps93;go_wp2_with fail;refine (O9 s _ n rfl hn Ya _).mono ?_;rw[HB.o];rintro e w1 ⟨rfl,g1⟩;go_wp2_with fail;refine (O1z s _ b rfl aA Ya _).mono ?_;rw[HA.o];rintro e w2 ⟨rfl,g2⟩;refine Z162 ?_;intro hF hG;have ip:FX w (0:Int) (0:Int) w2.drew:=hF.gr (Gr.refl _).drew;clear g1 g2;by_cases h1:a=s.size
 ·have d1:((a:Int)==(s.size:Int))=true:=by simp;omega
  have HY:Hid (V25 (bs s) n=.ok a):=U10 (by rw[HX.o,U1a h1]);clear h1;go_wp2_with fail;refine Z95 ?_;obtain⟨q0,q1,qf,ql⟩:=hF;refine Z191 ?_;refine Z12 ?_;go_wp2_with fail;refine U11 (v:=.tuple #[a,f0]) (by simp[results,results93,go_sem,q0,q1,qf,ql]) rfl ⟨?_,Gr.auto⟩;rw[HY.o];exact rfl
 have d1:((a:Int)==(s.size:Int))=false:=Ye;have ha:a<s.size:=Ya;have Jo:=Oii s a ha;rw[Jo,U1c h1]at HX;have k0:(0:Int)<=(a:Int):=Ya;have k1:(a:Int)<=(s.size:Int):=Ya;have k2:(a:Int)<(s.size:Int):=Ya;refine Z263 ?_;intro w1;have oe:Pl.pre ((bs s).drop a) [10]=((s[a]'ha).toNat==10):=by
  rw[O8 s a ha];exact Ong _ _
 cases da:((s[a]'ha).toNat==10) with
 |true =>
  rw[da]at oe;have HP:=U10 oe;have HY:Hid (V25 (bs s) n=.ok (a+1)):=U10 (by rw[HX.o,U1a (by simpa using da)]);clear da oe Jo h1;go_wp2_with (go_at_call 56;refine (O7 s ⟨#[10]⟩ a true HP.o _).mono ?_;rintro e w3 ⟨rfl,rfl⟩);refine Reg.begin' (W:=λ i=>i != 4) (S:=FX w (0:Int) (0:Int)) Yc ?_;refine Z56 ?_;refine Reg.tl 2 ip ?_ (hy:=by intro w ab;obtain⟨q0,q1,qf,ql⟩:=ab;go_simp;try with_reducible rfl);refine Reg.ty 3 ?_;obtain⟨q0,q1,qf,ql⟩:=hF;refine Reg.on 4 ?_;go_simp;refine Z12 ?_;go_wp2_with fail;refine U11 (v:=.tuple #[.int .i64 ((a:Int)+1),f0]) (by simp[results,results93,go_sem,q0,q1,qf,ql]) rfl ⟨?_,Gr.auto⟩;rw[HY.o];exact rfl
 |false =>
  rw[da]at oe;have HP:=U10 oe;rw[U1c (by simpa using da)]at HX;clear da oe Jo h1;cases fF:((s[a]'ha).toNat==13) with
  |true =>
   have z1:(((s[a]'ha).toNat:Int)==13)=true:=(V1u _ 13 _ fF).1;have HY:Hid (V25 (bs s) n=Pl.isF (bs s) a [13,10]):=U10 (by rw[HX.o,U1a (by simpa using fF)]);clear fF;go_wp2_with (go_at_call 56;refine (O7 s ⟨#[10]⟩ a false HP.o _).mono ?_;rintro e w3 ⟨rfl,rfl⟩);refine (Ofu s ⟨#[13,10]⟩ (O2f _ Yd) hs Yd a _ rfl Ya _).mono ?_;rintro e w4 ⟨hp,g4⟩;rw[show bs ⟨#[13,10]⟩=[13,10] from rfl,<-HY.o]at hp;obtain⟨q0,q1,qf,ql⟩:=hF.gr g4;have dw:=hG.trans g4;clear g4 ip hF;unfold V91 at hp;cases hq:V25 (bs s) n with
   |ok m =>
    rw[hq]at hp;have he:=hp;clear hp;subst he;go_wp2_with fail;refine U11 (v:=.tuple #[m,f0]) (by simp[results,results93,go_sem,q0,q1,qf,ql]) rfl ⟨?_,Gr.auto⟩;rw[hq];exact rfl
   |bad c p =>
    rw[hq]at hp;have he:=hp;clear hp;subst he;go_wp2_with fail;refine U11 (v:=.tuple #[(0:Int),fv c p]) (by simp[results,results93,go_sem,q0,q1,qf,ql]) rfl ⟨?_,Gr.auto⟩;rw[hq];exact rfl
  |false =>
   have z1:(((s[a]'ha).toNat:Int)==13)=false:=(V1u _ 13 _ fF).1;have HY:Hid (V25 (bs s) n=.bad 3 a):=U10 (by rw[HX.o,U1c (by simpa using fF)]);clear fF;go_wp2_with (go_at_call 56;refine (O7 s ⟨#[10]⟩ a false HP.o _).mono ?_;rintro e w3 ⟨rfl,rfl⟩);refine (Oav _ a rfl _).mono ?_;rintro e w4 ⟨rfl,g4⟩;obtain⟨q0,q1,qf,ql⟩:=hF.gr g4;have dw:=hG.trans g4;clear g4 ip hF;go_wp2_with fail;refine U11 (v:=.tuple #[(0:Int),fv 3 a]) (by simp[results,results93,go_sem,q0,q1,qf,ql]) rfl ⟨?_,Gr.auto⟩;rw[HY.o];exact rfl
