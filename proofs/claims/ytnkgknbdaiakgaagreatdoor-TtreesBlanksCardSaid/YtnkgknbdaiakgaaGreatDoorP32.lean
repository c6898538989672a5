/- The proof's part 32. -/
import Derived.Test.YtnkgknbdaiakgaaGreatDoorP38
set_option maxHeartbeats 16000000
set_option linter.all false
set_option maxRecDepth 100000
namespace Go.Proofs.YtnkgknbdaiakgaaGreatDoor
open Pl Go.Proofs.Tryz Go.RowKit Go.Shelf Go.Joins
attribute [local go_sem] Uy
def V91(X:V2x Nat)(e:Ending):Prop:=match X with
 |.ok m=>e = .returned (.tuple #[m,f0])
 |.bad c p=>e = .returned (.tuple #[(0:Int),fv c p])
theorem O53(w:World)(o:Obj)(m:Nat)(s:ByteArray)(p:Nat):Gr (w.alloc o) (((w.alloc o).drewN m).iter s p):=((Gr.refl _).drewN m).alloc _
theorem O89(w:World)(m k:Nat)(s:ByteArray)(p:Nat):((w.drewN m).iter s p).drewN k=(w.drewN (m+k)).iter s p:=by
 simp[World.iter,World.alloc,World.drewN,U12]
theorem O8a(w:World)(m:Nat)(s:ByteArray)(p k:Nat)(hk:k=w.heap.size):((w.drewN m).iter s p).iterPos k=p:=by
 subst hk;simp[World.iterPos,World.iter,World.alloc,World.drewN]
theorem Ofi(s ac:ByteArray)(hw:∀h:Nat,(h1:h<ac.size)->(ac[h]'h1).toNat<128)(hs:s.size<=20000000)(xK:ac.size<=10)(n:Nat)(i:Int)(hi:i=n)(hn:n<=s.size)(w:World) :
    Calls prog 122 #[.string s,i,.string ac] w λ e w'=>V91 (Pl.isF (bs s) n (bs ac)) e/\Gr w w':=by
 subst hi;obtain⟨X,hX⟩:=ExZ (Pl.isF (bs s) n (bs ac))
 rw[hX];have HX:=U0 hX;have HW:=U0 hw;clear hX hw;go_enter func122,ntmps122;go_wp2_with fail
 go_loopw [8] (λ _ wr=>∃aq m:Nat,wr=((w.alloc (.cells #[(0:Int),(0:Int)] 29)).drewN m).iter ac aq/\aq<=ac.size/\Pl.isF (bs s) (n+aq) ((bs ac).drop aq)=X) (λ _ wr=>ac.size-wr.iterPos (w.heap.size+1))
 case atStart=>exact⟨0,0,rfl,by omega,by simpa using HX.o⟩
 case round =>
  obtain⟨aq,m,rfl,uL,hx⟩:=hrel;have dX:=U0 hx;clear hx;by_cases hp:aq<ac.size
  ·have DZ:∀ty,(Instr.next (.pointer (some ⟨w.heap.size+1,0,none⟩)) true ty).run prog (((w.alloc (.cells #[(0:Int),(0:Int)] 29)).drewN m).iter ac aq) = .ok (.tuple #[.bool true,aq,.int .i32 (ac[aq]'hp).toNat]) (((w.alloc (.cells #[(0:Int),(0:Int)] 29)).drewN m).iter ac (aq+1)):=λ ty=>by
    have:=U3n (P:=prog) ((w.alloc (.cells #[(0:Int),(0:Int)] 29)).drewN m) ac aq ty hp (HW.o aq hp);rw[show ((w.alloc (.cells #[(0:Int),(0:Int)] 29)).drewN m).heap.size=w.heap.size+1 by simp[World.drewN]]at this;exact this
   have fj:=dX.o;rw[O8 ac aq hp]at fj;simp only[Pl.isF]at fj;have w1:IntKind.i64.wrap ((n:Int)+(aq:Int))=(n:Int)+(aq:Int):=Uk _ ⟨by omega,by omega⟩;have k0:(0:Int)<=(aq:Int):=by omega
   have k1:(aq:Int)<(ac.size:Int):=by omega
   have k2:(0:Int)<=(n:Int)+(aq:Int):=by omega
   have k3:((n:Int)+(aq:Int)).toNat=n+aq:=by omega
   by_cases aa:n+aq<s.size
   ·have d1:decide ((s.size:Int)<=(n:Int)+(aq:Int))=false:=by simp;omega
    have k4:(n:Int)+(aq:Int)<(s.size:Int):=by omega
    have hg:(bs s)[n+aq]?=some (s[n+aq]'aa):=by
     have h2:=O8 s (n+aq) aa;have h3:(bs s)[n+aq]?=((bs s).drop (n+aq))[0]?:=by rw[U1f];rfl
     rw[h3,h2];rfl
    rw[hg]at fj;cases hq:((s[n+aq]'aa).toNat==(ac[aq]'hp).toNat) with
    |true =>
     obtain⟨q1,q2⟩:=V1o _ _ _ hq;have jI:s[n+aq]'aa=ac[aq]'hp:=U1b.1 (by simpa using hq);rw[Ua (by rw[jI])]at fj;have nS:=U0 fj;clear hq hg jI fj;go_wp2_with fail
     go_quiet (fail)
     go_wp2_with fail;refine⟨⟨aq+1,m+nq,O89 _ _ _ _ _,by omega,nS.o⟩,?_⟩;rw[O89,O8a _ _ _ _ _ (by simp),O8a _ _ _ _ _ (by simp)];omega
    |false =>
     obtain⟨q1,q2⟩:=V1o _ _ _ hq;rw[Ud (λ e=>by rw[U1x e]at hq;simp at hq)]at fj;have nS:=U0 fj;clear hq hg fj;exact J170
   have d1:decide ((s.size:Int)<=(n:Int)+(aq:Int))=true:=by simp;omega
   have hg:(bs s)[n+aq]?=none:=U1m (by rw[O0];omega);rw[hg,Ud (by simp)]at fj;have nS:=U0 fj;clear hg fj;exact J170
  obtain rfl:aq=ac.size:=by omega
  have DZ:∀ty,(Instr.next (.pointer (some ⟨w.heap.size+1,0,none⟩)) true ty).run prog (((w.alloc (.cells #[(0:Int),(0:Int)] 29)).drewN m).iter ac ac.size) = .ok (.tuple #[.bool false]) (((w.alloc (.cells #[(0:Int),(0:Int)] 29)).drewN m).iter ac ac.size):=λ ty=>by
   have:=run_next_end (P:=prog) ((w.alloc (.cells #[(0:Int),(0:Int)] 29)).drewN m) ac ac.size ty hp;rw[show ((w.alloc (.cells #[(0:Int),(0:Int)] 29)).drewN m).heap.size=w.heap.size+1 by simp[World.drewN]]at this;exact this
  have fj:=dX.o;rw[Ut (by rw[O0];omega)]at fj;simp only[Pl.isF]at fj;have nS:=U0 fj;have w1:IntKind.i64.wrap ((n:Int)+(ac.size:Int))=(n:Int)+(ac.size:Int):=Uk _ ⟨by omega,by omega⟩;clear fj;go_wp2_with fail;obtain⟨W,hW⟩:=ExZ ((((w.alloc (.cells #[(0:Int),(0:Int)] 29)).drewN m).iter ac ac.size))
  have jT:FX w.heap.size (0:Int) (0:Int) W:=by rw[<-hW];exact (FX.new w (0:Int) (0:Int) 29).gr (O53 w _ m ac ac.size)
  have eR:Gr w W:=by rw[<-hW];exact ((Gr.refl w).alloc _).trans (O53 w _ m ac ac.size)
  rw[hW];clear hW DZ;have hF:FX w.heap.size (0:Int) (0:Int) W.drew:=jT.gr (Gr.refl _).drew;refine Reg.begin' (W:=λ i=>i != 6) (S:=FX w.heap.size (0:Int) (0:Int)) (by kernel_rfl) ?_;refine Z32 ?_;refine Reg.ty 3 ?_;refine Reg.tl 4 hF ?_ (hy:=by intro w ab;obtain⟨q0,q1,qf,ql⟩:=ab;go_simp;try with_reducible rfl);refine Reg.ty 5 ?_;obtain⟨q0,q1,qf,ql⟩:=jT;refine Reg.on 6 ?_;go_simp;refine Z12 ?_;go_wp2_with fail;refine U1 (v := .tuple #[.int .i64 ((n:Int)+(ac.size:Int)),f0]) (by simp[results,results122,go_sem,q0,q1,qf,ql]) rfl ⟨?_,Gr.auto⟩;rw[<-nS.o];exact rfl
theorem Ohm(s:ByteArray)(a:Nat)(h:a<s.size):V9 (bs s) a=(s[a]'h).toNat:=by
 unfold V9;have h2:=O8 s a h;have h3:(bs s)[a]?=((bs s).drop a)[0]?:=by rw[U1f];rfl
 rw[h3,h2];rfl
theorem Omj(c:UInt8)(r:List UInt8):Pl.pre (c::r) [10]=(c.toNat==10):=by
 have h:(c==10)=(c.toNat==10):=U2f.2 (by simp[<-U1b]);have h':((10:UInt8)==c)=(c.toNat==10):=U2f.2 (by simp[<-U1b];omega)
 first
  |(show ((c==10)&&true)=_;rw[h,Bool.and_true])
  |(show (((10:UInt8)==c)&&true)=_;rw[h',Bool.and_true])
  |(simp[Pl.pre,h,h'])
theorem Ohn(s:ByteArray)(hs:s.size<=20000000)(n:Nat)(i:Int)(hi:i=n)(hn:n<=s.size)(w:World) :
    Calls prog 93 #[.string s,i] w λ e w'=>V91 (V1b (bs s) n) e/\Gr w w':=by
 subst hi;have hb:=V8 (bs s) n (by rw[O0];exact hn);rw[O0]at hb;obtain⟨b,jb⟩:=ExZ (V7 (bs s) n)
 rw[jb]at hb;have hc:=V3n (bs s) b (by rw[O0];exact hb.2);rw[O0]at hc;obtain⟨a,El⟩:=ExZ (Vr (bs s) b)
 rw[El]at hc;have hX:V1b (bs s) n=if a=s.size then .ok a else if V9 (bs s) a=10 then .ok (a+1) else if V9 (bs s) a=13 then Pl.isF (bs s) a [13,10] else .bad 3 a:=by
  unfold V1b;simp only[jb,El,O0]
 have HX:=U0 hX;have HB:=U0 jb;have HA:=U0 El;have aA:=hb.2;have aE:=hc.2;clear hX jb El hb hc;go_enter func93,ntmps93;go_wp2_with fail;refine (O9 s _ n rfl hn (by omega) _).mono ?_;rw[HB.o];rintro e w1 ⟨rfl,g1⟩;go_wp2_with fail;refine (O1x s _ b rfl aA (by omega) _).mono ?_;rw[HA.o];rintro e w2 ⟨rfl,g2⟩;refine Z160 ?_;intro hF hG;have ic:FX w.heap.size (0:Int) (0:Int) w2.drew:=hF.gr (Gr.refl _).drew;clear g1 g2;by_cases h1:a=s.size
 ·have d1:((a:Int)==(s.size:Int))=true:=by simp;omega
  have HY:Hid (V1b (bs s) n = .ok a):=U0 (by rw[HX.o,Ua h1]);clear h1;go_wp2_with fail;refine Z95 ?_;obtain⟨q0,q1,qf,ql⟩:=hF;refine Z189 ?_;refine Z12 ?_;go_wp2_with fail;refine U1 (v := .tuple #[a,f0]) (by simp[results,results93,go_sem,q0,q1,qf,ql]) rfl ⟨?_,Gr.auto⟩;rw[HY.o];exact rfl
 have d1:((a:Int)==(s.size:Int))=false:=by simp;omega
 have ha:a<s.size:=by omega
 have He:=Ohm s a ha;rw[He,Ud h1]at HX;have k0:(0:Int)<=(a:Int):=by omega
 have k1:(a:Int)<=(s.size:Int):=by omega
 have k2:(a:Int)<(s.size:Int):=by omega
 refine Z261 ?_;intro w1;have cV:Pl.pre ((bs s).drop a) [10]=((s[a]'ha).toNat==10):=by
  rw[O8 s a ha];exact Omj _ _
 cases bD:((s[a]'ha).toNat==10) with
 |true =>
  rw[bD]at cV;have HP:=U0 cV;have HY:Hid (V1b (bs s) n = .ok (a+1)):=U0 (by rw[HX.o,Ua (by simpa using bD)]);clear bD cV He h1;go_wp2_with (go_at_call 56;refine (O6 s ⟨#[10]⟩ a true HP.o _).mono ?_;rintro e w3 ⟨rfl,rfl⟩);refine Reg.begin' (W:=λ i=>i != 4) (S:=FX w.heap.size (0:Int) (0:Int)) (by kernel_rfl) ?_;refine Z56 ?_;refine Reg.tl 2 ic ?_ (hy:=by intro w ab;obtain⟨q0,q1,qf,ql⟩:=ab;go_simp;try with_reducible rfl);refine Reg.ty 3 ?_;obtain⟨q0,q1,qf,ql⟩:=hF;refine Reg.on 4 ?_;go_simp;refine Z12 ?_;go_wp2_with fail;refine U1 (v := .tuple #[.int .i64 ((a:Int)+1),f0]) (by simp[results,results93,go_sem,q0,q1,qf,ql]) rfl ⟨?_,Gr.auto⟩;rw[HY.o];exact rfl
 |false =>
  rw[bD]at cV;have HP:=U0 cV;rw[Ud (by simpa using bD)]at HX;clear bD cV He h1;cases eS:((s[a]'ha).toNat==13) with
  |true =>
   have z1:(((s[a]'ha).toNat:Int)==13)=true:=(V1o _ 13 _ eS).1;have HY:Hid (V1b (bs s) n=Pl.isF (bs s) a [13,10]):=U0 (by rw[HX.o,Ua (by simpa using eS)]);clear eS;go_wp2_with (go_at_call 56;refine (O6 s ⟨#[10]⟩ a false HP.o _).mono ?_;rintro e w3 ⟨rfl,rfl⟩);refine (Ofi s ⟨#[13,10]⟩ (O2h _ (by decide)) hs (by decide) a _ rfl (by omega) _).mono ?_;rintro e w4 ⟨hp,g4⟩;rw[show bs ⟨#[13,10]⟩=[13,10] from rfl,<-HY.o]at hp;obtain⟨q0,q1,qf,ql⟩:=hF.gr g4;have du:=hG.trans g4;clear g4 ic hF;unfold V91 at hp;cases hq:V1b (bs s) n with
   |ok m =>
    rw[hq]at hp;have he:=hp;clear hp;subst he;go_wp2_with fail;refine U1 (v := .tuple #[m,f0]) (by simp[results,results93,go_sem,q0,q1,qf,ql]) rfl ⟨?_,Gr.auto⟩;rw[hq];exact rfl
   |bad c p =>
    rw[hq]at hp;have he:=hp;clear hp;subst he;go_wp2_with fail;refine U1 (v := .tuple #[(0:Int),fv c p]) (by simp[results,results93,go_sem,q0,q1,qf,ql]) rfl ⟨?_,Gr.auto⟩;rw[hq];exact rfl
  |false =>
   have z1:(((s[a]'ha).toNat:Int)==13)=false:=(V1o _ 13 _ eS).1;have HY:Hid (V1b (bs s) n = .bad 3 a):=U0 (by rw[HX.o,Ud (by simpa using eS)]);clear eS;go_wp2_with (go_at_call 56;refine (O6 s ⟨#[10]⟩ a false HP.o _).mono ?_;rintro e w3 ⟨rfl,rfl⟩);refine (Ob7 _ a rfl _).mono ?_;rintro e w4 ⟨rfl,g4⟩;obtain⟨q0,q1,qf,ql⟩:=hF.gr g4;have du:=hG.trans g4;clear g4 ic hF;go_wp2_with fail;refine U1 (v := .tuple #[(0:Int),fv 3 a]) (by simp[results,results93,go_sem,q0,q1,qf,ql]) rfl ⟨?_,Gr.auto⟩;rw[HY.o];exact rfl
abbrev itO(k:Nat)(a b:Int)(kv sv:Value)(va vb:Int)(nv:Value)(root:Int):Obj := .cells #[.int .u8 k,a,b,kv,sv,va,vb,nv,root] 53 (0,0)
theorem Omk{W:World}{I k:Nat}{a b va vb root:Int}{kv sv nv:Value}(h:W.heap[I]?=some (itO k a b kv sv va vb nv root))(x y:Value):((W.setCell ⟨I,3,none⟩ x).setCell ⟨I,4,none⟩ y).heap[I]?=some (itO k a b x y va vb nv root):=by
 have h1:(W.setCell ⟨I,3,none⟩ x).heap[I]?=some (itO k a b x sv va vb nv root):=by rw[block_setCell h];rfl
 rw[block_setCell h1];rfl
theorem O1v{W:World}{I k:Nat}{a b va vb root:Int}{kv sv nv:Value}(h:W.heap[I]?=some (itO k a b kv sv va vb nv root)) :
    (W.cell? ⟨I,0,none⟩=some (.int .u8 k)/\W.cell? ⟨I,1,none⟩=some (.int .i64 a)/\W.cell? ⟨I,2,none⟩=some (.int .i64 b)/\W.cell? ⟨I,3,none⟩=some kv/\W.cell? ⟨I,4,none⟩=some sv/\W.cell? ⟨I,5,none⟩=some (.int .i64 va)/\W.cell? ⟨I,6,none⟩=some (.int .i64 vb) /\
    W.cell? ⟨I,7,none⟩=some nv/\W.cell? ⟨I,8,none⟩=some (.int .i64 root))/\(∀o,W.frozen? ⟨I,o,none⟩=false)/\I<W.heap.size :=
 ⟨⟨by rw[cell_of_block h];rfl,by rw[cell_of_block h];rfl,by rw[cell_of_block h];rfl,by rw[cell_of_block h];rfl,by rw[cell_of_block h];rfl,by rw[cell_of_block h];rfl,by rw[cell_of_block h];rfl,by rw[cell_of_block h];rfl,by rw[cell_of_block h];rfl⟩,λ o=>unfrozen_of_block h o,(U8.1 h).1⟩
structure ItM(W:World)(base:Nat)(it:Pl.It)(kv sv nv:Value):Prop where
 k:V26 W base 9 1 kv it.ws.length (Oh (O1f it.ws))
 s:V26 W base 38 2 sv it.ws.length (Oc (O19 it.ws))
 n:(nv=Vn/\it.nds=[])\/∃g L,nv = .slice (some ⟨g,0,none⟩) it.nds.length it.nds.length/\L.map (·.nd)=it.nds/\V2n W base g L
theorem ItM.gr{W W':World}{base:Nat}{it:Pl.It}{kv sv nv:Value}(h:ItM W base it kv sv nv)(g:Gr W W'):ItM W' base it kv sv nv :=
 ⟨h.k.of_block λ k e=>g.block (h.k.lt k e).2,h.s.of_block λ k e=>g.block (h.s.lt k e).2,h.n.imp id λ ⟨g0,L,a,b,c⟩=>⟨g0,L,a,b,c.gr g⟩⟩
theorem ItM.set{W:World}{base:Nat}{it:Pl.It}{kv sv nv:Value}(h:ItM W base it kv sv nv){b:Nat}(hb:b<base)(o:Nat)(v:Value):ItM (W.setCell ⟨b,o,none⟩ v) base it kv sv nv:=by
 have hs:∀k,base<=k->(W.setCell ⟨b,o,none⟩ v).heap[k]?=W.heap[k]?:=λ k hk=>U5 _ _ _ _ (by (try simp);omega)
 refine⟨h.k.of_block λ k e=>hs k (h.k.lt k e).1,h.s.of_block λ k e=>hs k (h.s.lt k e).1,h.n.imp id λ ⟨g0,L,a,b',c⟩=>⟨g0,L,a,b',?_⟩⟩;refine⟨⟨c.lt.1,by simpa [World.setCell]using c.lt.2⟩,λ i r hr j v' hv=>?_,λ i r hr=>?_,c.tg⟩;rw[Um _ _ _ _ (by have:=c.lt.1;intro e;have:=U1q Addr.block e;simp only at this;omega)];exact c.cell i r hr j v' hv
 obtain⟨x,y,z⟩:=c.rows i r hr;exact⟨x.of_block λ k e=>hs k (x.lt k e).1,y.of_block λ k e=>hs k (y.lt k e).1,z.of_block λ k e=>hs k (z.lt k e).1⟩
theorem V26.low{w:World}{b b' e size n:Nat}{v:Value}{xs:List Value}(h:V26 w b e size v n xs)(hb:b'<=b):V26 w b' e size v n xs:=by
 obtain⟨v0,⟨h1,h2⟩,h3⟩:=h;exact⟨v0,⟨h1,h2.imp id λ ⟨g,cap,cur,x,y,z⟩=>⟨g,cap,cur,x,Uj hb y,z⟩⟩,h3⟩
theorem ItM.low{W:World}{b b':Nat}{it:Pl.It}{kv sv nv:Value}(h:ItM W b it kv sv nv)(hb:b'<=b):ItM W b' it kv sv nv :=
 ⟨h.k.low hb,h.s.low hb,h.n.imp id λ ⟨g0,L,x,y,z⟩=>⟨g0,L,x,y,⟨⟨Uj hb z.lt.1,z.lt.2⟩,z.cell,λ i r hr=>⟨(z.rows i r hr).1.low hb,(z.rows i r hr).2.1.low hb,(z.rows i r hr).2.2.low hb⟩,z.tg⟩⟩⟩
def O12(s:ByteArray)(I:Nat)(w:World)(X:Va (Nat×Pl.It))(e:Ending)(w':World):Prop:=match X with
 |.non=>True
 |.bad c p=>e = .returned (.tuple #[(0:Int),fv c p])/\c≠0/\St (λ k=>k=I) (λ k=>k=I) w w'/\∃k a b kv sv va vb nv root,w'.heap[I]?=some (itO k a b kv sv va vb nv root)
 |.ok (m,it)=>e = .returned (.tuple #[m,f0])/\m<=s.size/\St (λ k=>k=I) (λ k=>k=I) w w'/\∃kv sv nv,w'.heap[I]?=some (itO it.kind 0 0 kv sv it.va it.vb nv it.root)/\ItM w' w.heap.size it kv sv nv
theorem O3z(W:World):W.drew.heap=W.heap:=rfl
theorem O60{w w2:World}{I F0 k:Nat}{a b va vb root:Int}{kv sv nv x y:Value}(hI:w2.heap[I]?=some (itO k a b kv sv va vb nv root))(hF:FX F0 x y w2)(a8:I≠F0)(jT:w.heap.size<=F0)(hS:St (λ k=>k=I) (λ k=>k=I) w w2)(pS pT x' y':Value) :
    ((((w2.setCell ⟨I,3,none⟩ pS).setCell ⟨I,4,none⟩ pT).setCell ⟨F0,0,none⟩ x').setCell ⟨F0,1,none⟩ y').heap[I]?=some (itO k a b pS pT va vb nv root) /\
    FX F0 x' y' ((((w2.setCell ⟨I,3,none⟩ pS).setCell ⟨I,4,none⟩ pT).setCell ⟨F0,0,none⟩ x').setCell ⟨F0,1,none⟩ y') /\
    St (λ k=>k=I) (λ k=>k=I) w ((((w2.setCell ⟨I,3,none⟩ pS).setCell ⟨I,4,none⟩ pT).setCell ⟨F0,0,none⟩ x').setCell ⟨F0,1,none⟩ y'):=by
 refine⟨?_,?_,?_⟩;rw[U5 _ _ _ _ a8,U5 _ _ _ _ a8];exact Omk hI pS pT;exact ((hF.other a8 _).other a8 _).set x' y'
 exact (((hS.setCell (.inl rfl) _).setCell (.inl rfl) _).setCell (.inr jT) _).setCell (.inr jT) _
theorem O9z(T:Nat->UInt8×UInt8)(E:Vz)(hE:O2f T E)(s:ByteArray)(hs:s.size<=20000000)(I k:Nat)(az:ByteArray)(BB:az.size<=2)(aB:∀h:Nat,(h1:h<az.size)->(az[h]'h1).toNat<128)(n:Nat)(i:Int)(hi:i=n)(hn:n+az.size<=s.size)(w:World)
    (hI:w.heap[I]?=some (itO k 0 0 Vn Vn 0 0 Vn 0))(hQ:QW T w)(X:Va (Nat×Pl.It))(hX:V2e E (bs s) k n (bs az)=X)(a8:X ≠ .non) :
    Calls prog 120 #[.pointer (some ⟨I,0,none⟩),.string s,i,.string az] w (O12 s I w X):=by
 subst hi;have hb:=V8 (bs s) (n+az.size) (by rw[O0];exact hn);rw[O0]at hb;obtain⟨b,jb⟩:=ExZ (V7 (bs s) (n+az.size))
 rw[jb]at hb;have aA:=hb.2;unfold V2e at hX;rw[O0,jb]at hX;obtain⟨Y,hY⟩:=ExZ (V1k E (bs s) b)
 rw[hY]at hX;have bH:Y ≠ .non:=λ e=>a8 (by rw[<-hX,e])
 have Bw:IntKind.i64.wrap ((n:Int)+(az.size:Int))=(n:Int)+(az.size:Int):=Uk _ ⟨by omega,by omega⟩;have zv:I<w.heap.size:=(U8.1 hI).1;have HB:=U0 jb;have HQ:=U0 hQ;have HI:=U0 hI;have HR:=U0 (λ w1 (h:QW T w1)=>O4d T E hE s _ b rfl aA hs Y hY bH w1 h);have HX:=U0 hX;have mO:=U0 a8;clear jb hb hX hY hQ hI a8;go_enter func120,ntmps120;go_wp2_with fail;refine (O9 s _ (n+az.size) (by simp) hn (by omega) _).mono ?_;rw[HB.o];rintro e w1 ⟨rfl,g1⟩;go_wp2_with fail;refine (HR.o _ (HQ.o.gr Gr.auto)).mono ?_;cases Y with
 |non=>exact absurd rfl bH
 |bad c p =>
  rintro e w2 ⟨rfl,hc,g2⟩;refine Z160 ?_;intro hF hG;have mJ:=(hG.block zv).trans HI.o;refine Z171 ?_;intro i0 i1 i2 i3 i4 i5 i6 i7 i8 eZ f7 br jJ q0 q1 qf ql;obtain⟨gJ,ej,fL⟩:=O60 mJ hF br (U2 _) hG.st (.slice none 0 0) (.slice none 0 0) c p;clear g1 g2;go_wp2_with fail;refine Z240 ?_;intro w3 g3;have gL:=(g3.block (U8.1 gJ).1).trans gJ;have df:=ej.gr g3;have aD:=fL.gr g3;have ic:FX w.heap.size c p w3.drew:=df.gr (Gr.refl _).drew;clear g3 gJ ej fL q0 q1 qf ql i0 i1 i2 i3 i4 i5 i6 i7 i8 eZ f7;go_wp2_with fail;refine Reg.begin' (W:=λ i=>i != 2) (S:=FX w.heap.size c p) (by kernel_rfl) ?_;refine Reg.tl 0 ic ?_ (hy:=by intro w ab;obtain⟨q0,q1,qf,ql⟩:=ab;go_simp;try with_reducible rfl);refine Reg.ty 1 ?_;obtain⟨q0,q1,qf,ql⟩:=df;refine Reg.on 2 ?_;go_simp;refine Z12 ?_;go_wp2_with fail;refine U1 (v := .tuple #[(0:Int),fv c p]) (by simp[results,results120,go_sem,q0,q1,qf,ql]) rfl ?_;rw[<-HX.o];refine⟨rfl,hc,St.auto,k,0,0,.slice none 0 0,.slice none 0 0,0,0,Vn,0,?_⟩;exact J58
 |ok r =>
  obtain⟨ws,m⟩:=r;rintro e w2 ⟨kv,sv,rfl,hm,jM,jO,gj,eA,g2⟩;obtain⟨gk,ck,rfl,_,_⟩:=jM.form eA;obtain⟨gs,cs,rfl,_,_⟩:=jO.form eA;refine Z160 ?_;intro hF hG;have mJ:=(hG.block zv).trans HI.o;have ay:w.heap.size<w1.heap.size:=by have:=g1.size;simp at this;omega
  obtain⟨it,hit⟩:∃it:Pl.It,it=⟨k,0,0,ws,0,0,0,[]⟩:=⟨_,rfl⟩
  have vg:ItM w2 w1.heap.size it (.slice (some ⟨gk,0,none⟩) ws.length ck) (.slice (some ⟨gs,0,none⟩) ws.length cs) Vn:=by subst hit;exact⟨jM,jO,.inl ⟨rfl,rfl⟩⟩
  refine Z171 ?_;intro i0 i1 i2 i3 i4 i5 i6 i7 i8 eZ f7 br jJ q0 q1 qf ql;refine Z285 ?_;intro gJ ej fL;have pU:=(((vg.set (b:=I) (by omega) 3 (.slice (some ⟨gk,0,none⟩) ws.length ck)).set (b:=I) (by omega) 4 (.slice (some ⟨gs,0,none⟩) ws.length cs)).set ay 0 (0:Int)).set ay 1 (0:Int);have aO:=V8 (bs s) m (by rw[O0];exact hm);rw[O0]at aO;obtain⟨b3,jc⟩:=ExZ (V7 (bs s) m)
  rw[jc]at aO;have dk:=aO.2;simp only[jc]at HX;have ig:=U0 jc;clear g1 g2 vg jM jO aO jc;go_wp2_with fail;refine (O23 _).mono ?_;rintro e w3 ⟨rfl,g3⟩;have gL:=(g3.block (U8.1 gJ).1).trans gJ;have df:=ej.gr g3;have aD:=fL.gr g3;have rD:=pU.gr g3;clear g3 gJ ej fL pU q0 q1 qf ql i0 i1 i2 i3 i4 i5 i6 i7 i8 eZ f7;go_wp2_with fail;refine (O9 s _ m rfl hm (by omega) _).mono ?_;rw[ig.o];rintro e w4 ⟨rfl,g4⟩;go_wp2_with fail;refine (Ofi s az aB hs (by omega) b3 _ rfl dk _).mono ?_;rintro e w5 ⟨hp,g5⟩;have jl:=(g5.block (by have:=(U8.1 gL).1;have:=g4.size;omega)).trans ((g4.block (U8.1 gL).1).trans gL);have eF:=(df.gr g4).gr g5;have eM:=(aD.gr g4).gr g5;have BH:=(rD.gr g4).gr g5;have jd:=V4h (bs s) (bs az) b3 (by rw[O0];exact dk);obtain⟨q0,q1,qf,ql⟩:=eF;clear g4 g5 gL df aD rD;unfold V91 at hp;cases hz:Pl.isF (bs s) b3 (bs az) with
  |ok q =>
   rw[hz]at hp HX;simp only at HX;have he:=hp;clear hp;subst he;have hq:=(jd.1 q hz).2;rw[O0]at hq;clear hz jd;go_wp2_with fail;refine U1 (v := .tuple #[q,f0]) (by simp[results,results120,go_sem,q0,q1,qf,ql]) rfl ?_;rw[<-HX.o];refine⟨rfl,hq,St.auto,(.slice (some ⟨gk,0,none⟩) ws.length ck),(.slice (some ⟨gs,0,none⟩) ws.length cs),Vn,?_,?_⟩;rw[U5 _ _ _ _ br,U5 _ _ _ _ br];exact jl
   rw[<-hit];exact ((BH.set ay 0 _).set ay 1 _).low (by omega)
  |bad c p =>
   rw[hz]at hp HX;simp only at HX;have he:=hp;clear hp;subst he;obtain rfl:c=3:=(jd.2 c p hz).2;clear hz jd;go_wp2_with fail;refine U1 (v := .tuple #[(0:Int),fv 3 p]) (by simp[results,results120,go_sem,q0,q1,qf,ql]) rfl ?_;rw[<-HX.o];refine⟨rfl,by omega,St.auto,k,0,0,(.slice (some ⟨gk,0,none⟩) ws.length ck),(.slice (some ⟨gs,0,none⟩) ws.length cs),0,0,Vn,0,?_⟩;rw[U5 _ _ _ _ br,U5 _ _ _ _ br];exact jl
end Go.Proofs.YtnkgknbdaiakgaaGreatDoor
namespace Go.Proofs.YtnkgknbdaiakgaaGreatDoor
open Pl Go.Proofs.Tryz Go.ChangeShapes Go.WideShapes Go.ChangeAt Go.RowKit
theorem Olb{W:World}(hS:W.ShapedOpen prog):∃m:Nat->Int,∀j,j<14->W.cell? ⟨0,j,none⟩=some (.int .u8 (m j))/\0<=m j/\m j<=255:=by
 obtain⟨cs,hh,hs,hr⟩:=hS.1 0 #[.int .u8 0,.int .u8 0,.int .u8 0,.int .u8 0,.int .u8 0,.int .u8 0,.int .u8 0,.int .u8 0,.int .u8 0,.int .u8 0,.int .u8 0,.int .u8 0,.int .u8 0,.int .u8 0] 108 (by decide +kernel) (by kernel_rfl);obtain⟨ts,xO,_,bz⟩:=hr (by kernel_rfl);have hc:prog.cellTypes prog.depth 108=some (List.replicate 14 5):=by kernel_rfl
 rw[hc]at xO;cases xO;have d5:cs.size=14:=hs;have key:∀j,∃n:Int,j<14->W.cell? ⟨0,j,none⟩=some (.int .u8 n)/\0<=n/\n<=255:=λ j=>by
  by_cases hj:j<14
  ·have h1:j<cs.size:=by omega
   obtain⟨u,rz,cJ⟩:=bz j cs[j] (by simp[h1]);have:u=5:=by
    rw[List.getElem?_replicate,List.length_replicate,Ua (by omega)]at rz;exact (U1x rz).symm
   subst this;have aV:W.cell? ⟨0,j,none⟩=some cs[j]:=by simp[World.cell?,hh,h1]
   unfold Cell.ok at cJ;rw[underlying5]at cJ;cases hv:cs[j] <;> rw[hv]at cJ <;> simp at cJ
   case int k' n =>
    obtain⟨rfl,h2⟩:=cJ;refine⟨n,λ _=>⟨by rw[aV,hv],?_⟩⟩;simp[IntKind.has,IntKind.min,IntKind.max,IntKind.signed,IntKind.bits]at h2;omega
  exact⟨0,λ h=>absurd h hj⟩
 obtain⟨m,hm⟩:=Classical.axiomOfChoice key;exact⟨m,λ j hj=>hm j hj⟩
theorem Oom{W:World}(hS:W.ShapedOpen prog):∃T,ShW T W:=by
 obtain⟨m,hm⟩:=Olb hS;refine⟨λ k=>(UInt8.ofNat (m (2*k)).toNat,UInt8.ofNat (m (2*k+1)).toNat),λ j v hj=>?_⟩;have key:∀i,i<14->Ob (UInt8.ofNat (m i).toNat) = .int .u8 (m i):=λ i hi=>by
  obtain⟨_,h1,h2⟩:=hm i hi;show Value.int .u8 ((UInt8.ofNat (m i).toNat).toNat:Int)=_;rw[UInt8.toNat_ofNat'];congr 1;omega
 match j,hj with
 |0,hj=>simp[shC]at hj;rw[<-hj,key 0 (by omega)];exact (hm 0 (by omega)).1
 |1,hj=>simp[shC]at hj;rw[<-hj,key 1 (by omega)];exact (hm 1 (by omega)).1
 |2,hj=>simp[shC]at hj;rw[<-hj,key 2 (by omega)];exact (hm 2 (by omega)).1
 |3,hj=>simp[shC]at hj;rw[<-hj,key 3 (by omega)];exact (hm 3 (by omega)).1
 |4,hj=>simp[shC]at hj;rw[<-hj,key 4 (by omega)];exact (hm 4 (by omega)).1
 |5,hj=>simp[shC]at hj;rw[<-hj,key 5 (by omega)];exact (hm 5 (by omega)).1
 |6,hj=>simp[shC]at hj;rw[<-hj,key 6 (by omega)];exact (hm 6 (by omega)).1
 |7,hj=>simp[shC]at hj;rw[<-hj,key 7 (by omega)];exact (hm 7 (by omega)).1
 |8,hj=>simp[shC]at hj;rw[<-hj,key 8 (by omega)];exact (hm 8 (by omega)).1
 |9,hj=>simp[shC]at hj;rw[<-hj,key 9 (by omega)];exact (hm 9 (by omega)).1
 |10,hj=>simp[shC]at hj;rw[<-hj,key 10 (by omega)];exact (hm 10 (by omega)).1
 |11,hj=>simp[shC]at hj;rw[<-hj,key 11 (by omega)];exact (hm 11 (by omega)).1
 |12,hj=>simp[shC]at hj;rw[<-hj,key 12 (by omega)];exact (hm 12 (by omega)).1
 |13,hj=>simp[shC]at hj;rw[<-hj,key 13 (by omega)];exact (hm 13 (by omega)).1
 |j+14,hj=>simp[shC]at hj
end Go.Proofs.YtnkgknbdaiakgaaGreatDoor
namespace Go.Proofs.YtnkgknbdaiakgaaGreatDoor
open Pl Go.Proofs.Tryz Go.RowKit Go.Shelf Go.Joins
attribute [local go_sem] Uy
theorem Oc6{w w2:World}{I F0 k:Nat}{a b va vb root:Int}{kv sv nv x y:Value}(hI:w2.heap[I]?=some (itO k a b kv sv va vb nv root))(hF:FX F0 x y w2)(a8:I≠F0)(jT:w.heap.size<=F0)(hS:St (λ k=>k=I) (λ k=>k=I) w w2)(nv' x' y':Value)(cB A5 Em:Int) :
    ((((((w2.setCell ⟨I,7,none⟩ nv').setCell ⟨I,8,none⟩ cB).setCell ⟨F0,0,none⟩ x').setCell ⟨F0,1,none⟩ y').setCell ⟨I,5,none⟩ A5).setCell ⟨I,6,none⟩ Em).heap[I]?=some (itO k a b kv sv A5 Em nv' cB) /\
    FX F0 x' y' ((((((w2.setCell ⟨I,7,none⟩ nv').setCell ⟨I,8,none⟩ cB).setCell ⟨F0,0,none⟩ x').setCell ⟨F0,1,none⟩ y').setCell ⟨I,5,none⟩ A5).setCell ⟨I,6,none⟩ Em) /\
    St (λ k=>k=I) (λ k=>k=I) w ((((((w2.setCell ⟨I,7,none⟩ nv').setCell ⟨I,8,none⟩ cB).setCell ⟨F0,0,none⟩ x').setCell ⟨F0,1,none⟩ y').setCell ⟨I,5,none⟩ A5).setCell ⟨I,6,none⟩ Em):=by
 refine⟨?_,?_,?_⟩
 have h1:(w2.setCell ⟨I,7,none⟩ nv').heap[I]?=some (itO k a b kv sv va vb nv' root):=by rw[block_setCell hI];rfl
 have h2:((w2.setCell ⟨I,7,none⟩ nv').setCell ⟨I,8,none⟩ cB).heap[I]?=some (itO k a b kv sv va vb nv' cB):=by rw[block_setCell h1];rfl
 have h3:((((w2.setCell ⟨I,7,none⟩ nv').setCell ⟨I,8,none⟩ cB).setCell ⟨F0,0,none⟩ x').setCell ⟨F0,1,none⟩ y').heap[I]?=some (itO k a b kv sv va vb nv' cB):=by
  rw[U5 _ _ _ _ a8,U5 _ _ _ _ a8];exact h2
 have h4:(((((w2.setCell ⟨I,7,none⟩ nv').setCell ⟨I,8,none⟩ cB).setCell ⟨F0,0,none⟩ x').setCell ⟨F0,1,none⟩ y').setCell ⟨I,5,none⟩ A5).heap[I]?=some (itO k a b kv sv A5 vb nv' cB):=by rw[block_setCell h3];rfl
 rw[block_setCell h4];rfl;exact ((((hF.other a8 _).other a8 _).set x' y').other a8 _).other a8 _
 exact (((((hS.setCell (.inl rfl) _).setCell (.inl rfl) _).setCell (.inr jT) _).setCell (.inr jT) _).setCell (.inl rfl) _).setCell (.inl rfl) _
theorem ItM.wsOnly{W:World}{base k:Nat}{ws:List Pl.KW}{kv sv nv:Value}(h:ItM W base ⟨k,0,0,ws,0,0,0,[]⟩ kv sv nv){a b va vb root:Nat}{nds:Vc}{g:Nat}{L:List Vw}(hL:L.map (·.nd)=nds)(hT:V2n W base g L) :
    ItM W base ⟨k,a,b,ws,va,vb,root,nds⟩ kv sv (.slice (some ⟨g,0,none⟩) nds.length nds.length) :=
 ⟨h.k,h.s,.inr ⟨g,L,rfl,hL,hT⟩⟩
theorem V2n.low{W:World}{b b' g:Nat}{L:List Vw}(z:V2n W b g L)(hb:b'<=b):V2n W b' g L :=
 ⟨⟨Uj hb z.lt.1,z.lt.2⟩,z.cell,λ i r hr=>⟨(z.rows i r hr).1.low hb,(z.rows i r hr).2.1.low hb,(z.rows i r hr).2.2.low hb⟩,z.tg⟩
theorem Oml(T:Nat->UInt8×UInt8)(s:ByteArray)(hs:s.size<=20000000)(I:Nat)(n:Nat)(i:Int)(hi:i=n)(hn:n<=s.size)(w0 w:World)(et:Gr w0 w)(A6:w0.heap.size<=I)
    (hI:w.heap[I]?=some (itO 1 0 0 Vn Vn 0 0 Vn 0))(hQ:RW T w0)(X:Va (Nat×Pl.It))(hX:V4b ⟨Vj T,Vd⟩ (bs s) n=X)(a8:X ≠ .non) :
    Calls prog 121 #[.pointer (some ⟨I,0,none⟩),.string s,i] w (O12 s I w X):=by
 subst hi;unfold V4b at hX;obtain⟨Y,hY⟩:=ExZ (V1k ⟨Vj T,Vd⟩ (bs s) n)
 rw[hY]at hX;have bH:Y ≠ .non:=λ e=>a8 (by rw[<-hX,e])
 have zv:I<w.heap.size:=(U8.1 hI).1;have HQ:=U0 hQ;have pV:=U0 et;have HI:=U0 hI;have HR:=U0 (λ w1 (h:QW T w1)=>O4d T ⟨Vj T,Vd⟩ rfl s _ n rfl hn hs Y hY bH w1 h);have HX:=U0 hX;have mO:=U0 a8;clear hX hY hQ hI a8 et;go_enter func121,ntmps121;go_wp2_with fail;refine (HR.o _ ((HQ.o.gr pV.o).q.gr Gr.auto)).mono ?_;cases Y with
 |non=>exact absurd rfl bH
 |bad c p =>
  rintro e w2 ⟨rfl,hc,g2⟩;refine Z266 ?_;intro hF hG mJ;refine Z171 ?_;intro i0 i1 i2 i3 i4 i5 i6 i7 i8 eZ f7 br jJ q0 q1 qf ql;obtain⟨gJ,ej,fL⟩:=O60 mJ hF br (U2 _) hG.st (.slice none 0 0) (.slice none 0 0) c p;clear g2;go_wp2_with fail;refine Z240 ?_;intro w3 g3;have gL:=(g3.block (U8.1 gJ).1).trans gJ;have df:=ej.gr g3;have aD:=fL.gr g3;have ic:FX w.heap.size c p w3.drew:=df.gr (Gr.refl _).drew;clear g3 gJ ej fL q0 q1 qf ql i0 i1 i2 i3 i4 i5 i6 i7 i8 eZ f7;go_wp2_with fail;refine Reg.begin' (W:=λ i=>i != 2) (S:=FX w.heap.size c p) (by kernel_rfl) ?_;refine Reg.tl 0 ic ?_ (hy:=by intro w ab;obtain⟨q0,q1,qf,ql⟩:=ab;go_simp;try with_reducible rfl);refine Reg.ty 1 ?_;obtain⟨q0,q1,qf,ql⟩:=df;refine Reg.on 2 ?_;go_simp;refine Z12 ?_;go_wp2_with fail;refine Z289 ?_;refine⟨rfl,hc,St.auto,1,0,0,.slice none 0 0,.slice none 0 0,0,0,Vn,0,?_⟩;exact J58
 |ok r =>
  obtain⟨ws,m⟩:=r;rintro e w2 ⟨kv,sv,rfl,hm,jM,jO,gj,eA,g2⟩;obtain⟨gk,ck,rfl,_,_⟩:=jM.form eA;obtain⟨gs,cs,rfl,_,_⟩:=jO.form eA;refine Z266 ?_;intro hF hG mJ;obtain⟨it,hit⟩:∃it:Pl.It,it=⟨1,0,0,ws,0,0,0,[]⟩:=⟨_,rfl⟩
  have vg:ItM w2 (w.heap.size+1) it (.slice (some ⟨gk,0,none⟩) ws.length ck) (.slice (some ⟨gs,0,none⟩) ws.length cs) Vn:=by subst hit;exact⟨by simpa using jM,by simpa using jO,.inl ⟨rfl,rfl⟩⟩
  refine Z171 ?_;intro i0 i1 i2 i3 i4 i5 i6 i7 i8 eZ f7 br jJ q0 q1 qf ql;refine Z285 ?_;intro gJ ej fL;have pU:=(((vg.set (b:=I) (by omega) 3 (.slice (some ⟨gk,0,none⟩) ws.length ck)).set (b:=I) (by omega) 4 (.slice (some ⟨gs,0,none⟩) ws.length cs)).set (b:=w.heap.size) (by omega) 0 (0:Int)).set (b:=w.heap.size) (by omega) 1 (0:Int);have aO:=V8 (bs s) m (by rw[O0];exact hm);rw[O0]at aO;obtain⟨b3,jc⟩:=ExZ (V7 (bs s) m)
  rw[jc]at aO;have dk:=aO.2;simp only[jc]at HX;have ig:=U0 jc;clear g2 vg jM jO aO jc;go_wp2_with fail;refine (O23 _).mono ?_;rintro e w3 ⟨rfl,g3⟩;have gL:=(g3.block (U8.1 gJ).1).trans gJ;have df:=ej.gr g3;have aD:=fL.gr g3;have rD:=pU.gr g3;clear g3 gJ ej fL pU q0 q1 qf ql i0 i1 i2 i3 i4 i5 i6 i7 i8 eZ f7;go_wp2_with fail;refine (O9 s _ m rfl hm (by omega) _).mono ?_;rw[ig.o];rintro e w4 ⟨rfl,g4⟩;go_wp2_with fail;refine (Ofi s ⟨#[61]⟩ (O2h _ (by decide)) hs (by decide) b3 _ rfl dk _).mono ?_;rintro e w5 ⟨hp,g5⟩;rw[show bs ⟨#[61]⟩=[61] from rfl]at hp;have jl:=(g5.block (by have:=(U8.1 gL).1;have:=g4.size;omega)).trans ((g4.block (U8.1 gL).1).trans gL);have eF:=(df.gr g4).gr g5;have eM:=(aD.gr g4).gr g5;have BH:=(rD.gr g4).gr g5;have jd:=V4h (bs s) [61] b3 (by rw[O0];exact dk);have LN:¬I=w.heap.size:=br;clear g4 g5 gL df aD rD;unfold V91 at hp;cases hz:Pl.isF (bs s) b3 [61] with
  |bad c p =>
   rw[hz]at hp HX;simp only at HX;have he:=hp;clear hp;subst he;obtain rfl:c=3:=(jd.2 c p hz).2;have ej:=eF.set (3:Int) p;have fL:=(eM.setCell (p:=⟨w.heap.size,0,none⟩) (.inr (U2 _)) (3:Int)).setCell (p:=⟨w.heap.size,1,none⟩) (.inr (U2 _)) p;obtain⟨q0,q1,qf,ql⟩:=eF;clear hz jd;go_wp2_with fail;refine (O7p 3 p (by omega) _).mono ?_;rintro e w6 ⟨rfl,g6⟩;have pW:=ej.gr g6;have kh:=fL.gr g6;have mc:=(g6.block (by simpa [World.setCell]using (U8.1 jl).1)).trans (((U5 _ _ _ _ br).trans (U5 _ _ _ _ br)).trans jl);have ic:FX w.heap.size (3:Int) p w6.drew:=pW.gr (Gr.refl _).drew;clear g6 ej fL q0 q1 qf ql;go_wp2_with fail;refine Reg.begin' (W:=λ i=>i != 2) (S:=FX w.heap.size (3:Int) p) (by kernel_rfl) ?_;refine Reg.tl 0 ic ?_ (hy:=by intro w ab;obtain⟨q0,q1,qf,ql⟩:=ab;go_simp;try with_reducible rfl);refine Reg.ty 1 ?_;obtain⟨q0,q1,qf,ql⟩:=pW;refine Reg.on 2 ?_;go_simp;refine Z12 ?_;go_wp2_with fail;refine U1 (v := .tuple #[(0:Int),fv 3 p]) (by simp[results,results121,go_sem,q0,q1,qf,ql]) rfl ?_;rw[<-HX.o];refine⟨rfl,by omega,St.auto,1,0,0,(.slice (some ⟨gk,0,none⟩) ws.length ck),(.slice (some ⟨gs,0,none⟩) ws.length cs),0,0,Vn,0,?_⟩;rw[O3z,U5 _ _ _ _ br,U5 _ _ _ _ br];exact mc
  |ok q =>
   rw[hz]at hp HX;simp only at HX;have he:=hp;clear hp;subst he;have hq:=(jd.1 q hz).2;rw[O0]at hq;have ej:=eF.set (0:Int) (0:Int);have fL:=(eM.setCell (p:=⟨w.heap.size,0,none⟩) (.inr (U2 _)) (0:Int)).setCell (p:=⟨w.heap.size,1,none⟩) (.inr (U2 _)) (0:Int);have pU:=(BH.set (b:=w.heap.size) (by omega) 0 (0:Int)).set (b:=w.heap.size) (by omega) 1 (0:Int);obtain⟨q0,q1,qf,ql⟩:=eF;have ie:=V8 (bs s) q (by rw[O0];exact hq);rw[O0]at ie;obtain⟨b5,tq⟩:=ExZ (V7 (bs s) q)
   rw[tq]at ie;have kR:=ie.2;simp only[tq]at HX;have sR:=U0 tq;obtain⟨V,hV⟩:=ExZ (V1l ⟨Vj T,Vd⟩ (bs s) b5 0)
   rw[hV]at HX;have LO:V ≠ .non:=λ e=>mO.o (by rw[<-HX.o,e])
   have HV:=U0 (λ W (hw:RW T W)=>Oeh W hw s hs _ b5 rfl kR 0 0 (by decide) V hV LO);clear hz jd ie tq hV;go_wp2_with fail;refine (O23 _).mono ?_;rintro e w6 ⟨rfl,g6⟩;have pW:=ej.gr g6;have kh:=fL.gr g6;have Hf:=pU.gr g6;have mc:=(g6.block (by simpa [World.setCell]using (U8.1 jl).1)).trans (((U5 _ _ _ _ br).trans (U5 _ _ _ _ br)).trans jl);clear g6 ej fL pU q0 q1 qf ql;go_wp2_with fail;refine (O9 s _ q rfl hq (by omega) _).mono ?_;rw[sR.o];rintro e w7 ⟨rfl,g7⟩;have bO:RW T w7:=HQ.o.gr (((kh.gr g7).below pV.o (λ k e=>by rw[e];exact A6)));go_wp2_with fail;refine (HV.o _ bO).mono ?_;cases V with
   |non=>exact absurd rfl LO
   |bad c p =>
    rintro e w8 ⟨rfl,hc,g8⟩;have rE:=(g8.block (by have:=(U8.1 mc).1;have:=g7.size;omega)).trans ((g7.block (U8.1 mc).1).trans mc);have rF:=(pW.gr g7).gr g8;have Hg:=(kh.gr g7).gr g8;obtain⟨⟨i0,i1,i2,i3,i4,i5,i6,i7,i8⟩,eZ,f7⟩:=O1v rE;obtain⟨q0,q1,qf,ql⟩:=id rF;obtain⟨gJ,ej,fL⟩:=Oc6 rE rF br (U2 _) Hg Vn c p 0 b5 0;clear g7 g8 mc pW kh Hf bO jl eM BH;go_wp2_with fail;obtain⟨W,hW⟩:=ExZ (((((((w8.setCell ⟨I,7,none⟩ Vn).setCell ⟨I,8,none⟩ (0:Int)).setCell ⟨w.heap.size,0,none⟩ c).setCell ⟨w.heap.size,1,none⟩ p).setCell ⟨I,5,none⟩ b5).setCell ⟨I,6,none⟩ (0:Int)))
    rw[hW]at gJ ej fL⊢;have ic:FX w.heap.size c p W.drew:=ej.gr (Gr.refl _).drew;clear hW q0 q1 qf ql i0 i1 i2 i3 i4 i5 i6 i7 i8 eZ f7;refine Reg.begin' (W:=λ i=>i != 3) (S:=FX w.heap.size c p) (by kernel_rfl) ?_;refine Z316 ?_;obtain⟨q0,q1,qf,ql⟩:=ej;refine Z189 ?_;refine Z12 ?_;go_wp2_with fail;refine Z289 ?_;refine⟨rfl,hc,St.auto,1,0,0,(.slice (some ⟨gk,0,none⟩) ws.length ck),(.slice (some ⟨gs,0,none⟩) ws.length cs),b5,0,Vn,0,?_⟩;exact J59
   |ok r =>
    obtain⟨root,m2,st⟩:=r;rintro e w8 ⟨g,L,rfl,jn,pX,hL,hT,g8⟩;have rE:=(g8.block (by have:=(U8.1 mc).1;have:=g7.size;omega)).trans ((g7.block (U8.1 mc).1).trans mc);have rF:=(pW.gr g7).gr g8;have Hg:=(kh.gr g7).gr g8;have LQ:=(Hf.gr g7).gr g8;obtain⟨⟨i0,i1,i2,i3,i4,i5,i6,i7,i8⟩,eZ,f7⟩:=O1v rE;obtain⟨q0,q1,qf,ql⟩:=id rF;obtain⟨gJ,ej,fL⟩:=Oc6 rE rF br (U2 _) Hg (.slice (some ⟨g,0,none⟩) st.length st.length) (0:Int) (0:Int) root b5 m2;have xP:=LQ;rw[hit]at xP;have LR:=ItM.wsOnly xP (a:=0) (b:=0) (va:=b5) (vb:=m2) (root:=root) hL (hT.low (by have:=pW.2.2.2;have:=g7.size;omega));have pU:=(((((LR.set (b:=I) (by omega) 7 (.slice (some ⟨g,0,none⟩) st.length st.length)).set (b:=I) (by omega) 8 root).set (b:=w.heap.size) (by omega) 0 (0:Int)).set (b:=w.heap.size) (by omega) 1 (0:Int)).set (b:=I) (by omega) 5 b5).set (b:=I) (by omega) 6 m2;clear LQ xP LR hT hL g8 mc pW kh Hf bO jl eM BH;go_wp2_with fail;obtain⟨W,hW⟩:=ExZ (((((((w8.setCell ⟨I,7,none⟩ (.slice (some ⟨g,0,none⟩) st.length st.length)).setCell ⟨I,8,none⟩ root).setCell ⟨w.heap.size,0,none⟩ (0:Int)).setCell ⟨w.heap.size,1,none⟩ (0:Int)).setCell ⟨I,5,none⟩ b5).setCell ⟨I,6,none⟩ m2))
    rw[hW]at gJ ej fL pU⊢;have ic:FX w.heap.size (0:Int) (0:Int) W.drew:=ej.gr (Gr.refl _).drew;clear hW q0 q1 qf ql i0 i1 i2 i3 i4 i5 i6 i7 i8 eZ f7;refine Z95 ?_;obtain⟨q0,q1,qf,ql⟩:=ej;refine Z189 ?_;refine Z12 ?_;go_wp2_with fail;refine U1 (v := .tuple #[m2,fv 0 0]) (by simp[results,results121,go_sem,q0,q1,qf,ql]) rfl ?_;rw[<-HX.o];refine⟨rfl,jn,St.auto,(.slice (some ⟨gk,0,none⟩) ws.length ck),(.slice (some ⟨gs,0,none⟩) ws.length cs),(.slice (some ⟨g,0,none⟩) st.length st.length),?_,?_⟩;exact J59
    exact (((pU.gr (Gr.refl _).drew).set (b:=w.heap.size) (by omega) 0 _).set (b:=w.heap.size) (by omega) 1 _).low (by omega)
theorem O12.form{s:ByteArray}{I:Nat}{w w':World}{X:Va (Nat×Pl.It)}{e:Ending}(h:O12 s I w X e w')(a8:X ≠ .non):∃x y z:Int,e = .returned (.tuple #[x,.agg #[y,z]]):=by
 cases X with
 |non=>exact absurd rfl a8
 |bad c p=>exact⟨_,_,_,h.1⟩
 |ok r=>exact⟨_,_,_,h.1⟩
theorem O12.up{s:ByteArray}{I:Nat}{w wA w':World}{X:Va (Nat×Pl.It)}{e:Ending}(h:O12 s I wA X e w')(hA:St (λ k=>k=I) (λ k=>k=I) w wA):O12 s I w X e w':=by
 cases X with
 |non=>trivial
 |bad c p=>exact⟨h.1,h.2.1,hA.trans h.2.2.1,h.2.2.2⟩
 |ok r =>
  obtain⟨h1,h2,h3,kv,sv,nv,h4,h5⟩:=h;exact⟨h1,h2,hA.trans h3,kv,sv,nv,h4,h5.low hA.size⟩
theorem O12.setF2{s:ByteArray}{I:Nat}{w wA w':World}{X:Va (Nat×Pl.It)}{e:Ending}(h:O12 s I wA X e w')(hA:St (λ k=>k=I) (λ k=>k=I) w wA){F0:Nat}(h0:w.heap.size<=F0)(h1:F0<wA.heap.size)(a8:I≠F0)(x y:Value) :
    O12 s I w X e ((w'.setCell ⟨F0,0,none⟩ x).setCell ⟨F0,1,none⟩ y):=by
 cases X with
 |non=>trivial
 |bad c p =>
  obtain⟨a1,a2,a3,k,a,b,kv,sv,va,vb,nv,root,a4⟩:=h;exact⟨a1,a2,((hA.trans a3).setCell (.inr h0) _).setCell (.inr h0) _,k,a,b,kv,sv,va,vb,nv,root,by rw[U5 _ _ _ _ a8,U5 _ _ _ _ a8];exact a4⟩
 |ok r =>
  obtain⟨a1,a2,a3,kv,sv,nv,a4,a5⟩:=h;exact⟨a1,a2,((hA.trans a3).setCell (.inr h0) _).setCell (.inr h0) _,kv,sv,nv,by rw[U5 _ _ _ _ a8,U5 _ _ _ _ a8];exact a4,((a5.set h1 _ _).set h1 _ _).low hA.size⟩
theorem O12.st{s:ByteArray}{I:Nat}{w w':World}{X:Va (Nat×Pl.It)}{e:Ending}(h:O12 s I w X e w')(a8:X ≠ .non):St (λ k=>k=I) (λ k=>k=I) w w':=by
 cases X with
 |non=>exact absurd rfl a8
 |bad c p=>exact h.2.2.1
 |ok r=>exact h.2.2.1
theorem Ocd(c:UInt8):(bs ⟨#[35,13,10]⟩).contains c=(c.toNat==35 || c.toNat==13 || c.toNat==10):=by
 have h:∀n:Fin 256,(bs ⟨#[35,13,10]⟩).contains (UInt8.ofNat n.val)=((UInt8.ofNat n.val).toNat==35 || (UInt8.ofNat n.val).toNat==13 || (UInt8.ofNat n.val).toNat==10):=by decide +kernel
 exact J29
theorem Oel(s:ByteArray)(a:Nat)(h1:a<s.size):∃rest,s.extract a s.size=rest/\¬rest.toList=[]/\rest.toList.isEmpty=false/\(0:Int)<(rest.size:Int)/\∃h0:0<rest.size,rest[0]=s[a]:=by
 refine⟨_,rfl,?_⟩;have hb:=O3 s a;have hz:(s.extract a s.size).size=s.size-a:=by simp
 generalize s.extract a s.size=rest at hb hz⊢;have h0:0<rest.size:=by omega
 have a8:¬rest.toList=[]:=λ e=>by
  rw[Uz]at e;have h2:=O0 rest;rw[show bs rest=[] from e]at h2;simp at h2;omega
 refine⟨a8,by simpa using a8,by omega,h0,?_⟩;have e1:=O8 rest 0 h0;have e2:=O8 s a h1;exact J30
theorem O55{w:World}{I:Nat}(hI:w.heap[I]?=some (itO 0 0 0 Vn Vn 0 0 Vn 0))(j:Nat)(jv:Int)(hj:jv=j) :
    ((w.setCell ⟨I,0,none⟩ (.int .u8 jv)).alloc (.cells #[(0:Int),(0:Int)] 29)).heap[I]?=some (itO j 0 0 Vn Vn 0 0 Vn 0) /\
    St (λ k=>k=I) (λ k=>k=I) w ((w.setCell ⟨I,0,none⟩ (.int .u8 jv)).alloc (.cells #[(0:Int),(0:Int)] 29)) /\
    FX w.heap.size (0:Int) (0:Int) ((w.setCell ⟨I,0,none⟩ (.int .u8 jv)).alloc (.cells #[(0:Int),(0:Int)] 29)) /\
    w.heap.size<((w.setCell ⟨I,0,none⟩ (.int .u8 jv)).alloc (.cells #[(0:Int),(0:Int)] 29)).heap.size:=by
 subst hj;have hz:(w.setCell ⟨I,0,none⟩ (.int .u8 j)).heap.size=w.heap.size:=by simp[World.setCell]
 have h1:(w.setCell ⟨I,0,none⟩ (.int .u8 j)).heap[I]?=some (itO j 0 0 Vn Vn 0 0 Vn 0):=by rw[block_setCell hI];rfl
 refine⟨(((Gr.refl _).alloc _).block (by rw[hz];exact (U8.1 hI).1)).trans h1,((St.refl (λ k=>k=I) w).setCell (p:=⟨I,0,none⟩) (.inl rfl) _).alloc _,?_,by simp[hz]⟩;have:=FX.new (w.setCell ⟨I,0,none⟩ (.int .u8 j)) (0:Int) (0:Int) 29
 rwa [hz]at this
theorem Omq(T:Nat->UInt8×UInt8)(s:ByteArray)(hs:s.size<=20000000)(I:Nat)(n:Nat)(i:Int)(hi:i=n)(hn:n<=s.size)(w0 w:World)(et:Gr w0 w)(A6:w0.heap.size<=I)
    (hI:w.heap[I]?=some (itO 0 0 0 Vn Vn 0 0 Vn 0))(hQ:RW T w0)(X:Va (Nat×Pl.It))(hX:V2d ⟨Vj T,Vd⟩ (bs s) n=X)(a8:X ≠ .non) :
    Calls prog 91 #[.pointer (some ⟨I,0,none⟩),.string s,i] w (O12 s I w X):=by
 subst hi;have zv:I<w.heap.size:=(U8.1 hI).1;have br:I≠w.heap.size:=by omega
 obtain⟨⟨i0,i1,i2,i3,i4,i5,i6,i7,i8⟩,eZ,f7⟩:=O1v hI;have DN:(w.alloc (.cells #[(0:Int),(0:Int)] 29)).heap[I]?=some (itO 0 0 0 Vn Vn 0 0 Vn 0):=(((Gr.refl w).alloc _).block zv).trans hI;have k0:(0:Int)<=(n:Int):=by omega
 have k1:(n:Int)<=(s.size:Int):=by omega
 have HQ:=U0 hQ;have pV:=U0 et;have HX:=U0 hX;have mO:=U0 a8;have Fp:=FX.new w (0:Int) (0:Int) 29;unfold V2d at HX;clear hX hQ a8 et;cases h2:Pl.pre ((bs s).drop n) [91,91] with
 |true =>
  have hl:=V18 _ _ h2;rw[U3,O0]at hl;simp only[Ub,Ur]at hl;have HP:=U0 h2;rw[h2,Ua rfl]at HX;obtain⟨BI,zE,uG,A'⟩:=O55 hI 3 3 rfl;have Hh:=U0 (HQ.o.gr (zE.below pV.o (λ k e=>by rw[e];exact A6)));clear h2;go_enter func91,ntmps91;go_wp2_with (go_at_call 56;refine (O6 s ⟨#[91,91]⟩ n true HP.o _).mono ?_;rintro e w3 ⟨rfl,rfl⟩);refine (O9z T ⟨Vj T,Vd⟩ rfl s hs I 3 ⟨#[93,93]⟩ (by decide) (O2h _ (by decide)) n _ rfl (by show n+2<=s.size;omega) _ BI Hh.o.q X HX.o mO.o).mono ?_;exact J123
 |false =>
  have HP:=U0 h2;rw[h2,Ud (by simp)]at HX;clear h2;cases h1:Pl.pre ((bs s).drop n) [91] with
  |true =>
   have hl:=V18 _ _ h1;rw[U3,O0]at hl;simp only[Ub,Ur]at hl;have En:=U0 h1;rw[h1,Ua rfl]at HX;obtain⟨BI,zE,uG,A'⟩:=O55 hI 2 2 rfl;have Hh:=U0 (HQ.o.gr (zE.below pV.o (λ k e=>by rw[e];exact A6)));clear h1;go_enter func91,ntmps91;go_wp2_with (go_at_call 56;first|(refine (O6 s ⟨#[91,91]⟩ n false HP.o _).mono ?_;rintro e w3 ⟨rfl,rfl⟩)|(refine (O6 s ⟨#[91]⟩ n true En.o _).mono ?_;rintro e w3 ⟨rfl,rfl⟩));refine (O9z T ⟨Vj T,Vd⟩ rfl s hs I 2 ⟨#[93]⟩ (by decide) (O2h _ (by decide)) n _ rfl (by show n+1<=s.size;omega) _ BI Hh.o.q X HX.o mO.o).mono ?_;exact J123
  |false =>
   have En:=U0 h1;rw[h1,Ud (by simp)]at HX;clear h1;by_cases bY:n=s.size
   ·have aN:V14 ((bs s).drop n)=true:=by rw[Ut (by rw[O0];omega)];rfl
    rw[aN,Ua rfl]at HX;have aG:s.extract n s.size=ByteArray.empty:=by
     apply U1y;apply U21.1;rw[show (s.extract n s.size).data.toList=(bs s).drop n from O3 s n,Ut (by rw[O0];omega)];rfl
    have nr:=U0 (O6 s ⟨#[91]⟩ n false En.o);have A7:=U0 (O6 s ⟨#[91,91]⟩ n false HP.o);rw[aG]at nr A7;clear aN bY;go_enter func91,ntmps91;clear i0 i1 i2 i3 i4 i5 i6 i7 i8 eZ f7;go_wp2_with (go_at_call 56;first|(refine (A7.o _).mono ?_;rintro e w3 ⟨rfl,rfl⟩)|(refine (nr.o _).mono ?_;rintro e w3 ⟨rfl,rfl⟩));exact J71
   obtain⟨rest,aG,r1,r2,r3,r0,r4⟩:=Oel s n (by omega);have nr:=U0 (O6 s ⟨#[91]⟩ n false En.o);have A7:=U0 (O6 s ⟨#[91,91]⟩ n false HP.o);rw[aG]at nr A7;have jP:V14 ((bs s).drop n)=(bs ⟨#[35,13,10]⟩).contains (rest[0]'r0):=by
    rw[Ocd,r4,O8 s n (by omega)];rfl
   cases aN:V14 ((bs s).drop n) with
   |true =>
    rw[aN,Ua rfl]at HX;rw[aN]at jP;have HB:=U0 jP.symm;clear aN jP r4;go_enter func91,ntmps91;go_wp2_with (first|(go_at_call 56;first|(refine (A7.o _).mono ?_;rintro e w3 ⟨rfl,rfl⟩)|(refine (nr.o _).mono ?_;rintro e w3 ⟨rfl,rfl⟩))|(go_at_call 85;refine (Oo ⟨#[35,13,10]⟩ _ true HB.o _).mono ?_;rintro e w3 ⟨⟨i,rfl,hi⟩,rfl⟩;have ei:decide (i<0)=false:=by (simp at hi⊢;omega)))
    try clear aG
    exact J71
   |false =>
    rw[aN,Ud (by simp)]at HX;rw[aN]at jP;have HB:=U0 jP.symm;obtain⟨BI,zE,uG,A'⟩:=O55 hI 1 1 rfl;clear aN jP r4;go_enter func91,ntmps91;go_wp2_with (first|(go_at_call 56;first|(refine (A7.o _).mono ?_;rintro e w3 ⟨rfl,rfl⟩)|(refine (nr.o _).mono ?_;rintro e w3 ⟨rfl,rfl⟩))|(go_at_call 85;refine (Oo ⟨#[35,13,10]⟩ _ false HB.o _).mono ?_;rintro e w3 ⟨⟨i,rfl,hi⟩,rfl⟩;have ei:decide (i<0)=true:=by (simp at hi⊢;omega)))
    try clear aG
    refine (Oml T s hs I n _ rfl hn w0 _ (zE.below pV.o (λ k e=>by rw[e];exact A6)) A6 BI HQ.o X HX.o mO.o).mono ?_;exact J123
abbrev itV(k:Nat)(a b:Int)(kv sv:Value)(va vb:Int)(nv:Value)(root:Int):Value := .agg #[.int .u8 k,a,b,kv,sv,va,vb,nv,root]
abbrev itZ:Value := .agg #[.int .u8 0,(0:Int),(0:Int),Vn,Vn,(0:Int),(0:Int),Vn,(0:Int)]
abbrev Vd8:Obj := .cells #[.int .u8 0,(0:Int),(0:Int),Vn,Vn,(0:Int),(0:Int),Vn,(0:Int)] 53 (0,0)
def Oox(s:ByteArray)(w:World)(X:Va Pl.It)(e:Ending)(w':World):Prop:=match X with
 |.non=>True
 |.bad c p=>e = .returned (.tuple #[itZ,fv c p])/\c≠0/\Gr w w'
 |.ok it=>∃kv sv nv,e = .returned (.tuple #[itV it.kind it.a it.b kv sv it.va it.vb nv it.root,f0])/\ItM w' w.heap.size it kv sv nv/\Gr w w'
theorem ItM.forms{W:World}{lo:Nat}{it:Pl.It}{kv sv nv:Value}(h:ItM W lo it kv sv nv):(∃a n c,kv = .slice a n c)/\(∃a n c,sv = .slice a n c)/\(∃a n c,nv = .slice a n c):=by
 refine⟨?_,?_,?_⟩
 rcases Or h.k with⟨rfl,_⟩|⟨g,c,rfl,_⟩
 exact⟨_,_,_,rfl⟩
 exact⟨_,_,_,rfl⟩
 rcases Or h.s with⟨rfl,_⟩|⟨g,c,rfl,_⟩
 exact⟨_,_,_,rfl⟩
 exact⟨_,_,_,rfl⟩
 rcases h.n with⟨rfl,_⟩|⟨g,L,rfl,_⟩
 exact⟨_,_,_,rfl⟩
 exact⟨_,_,_,rfl⟩
theorem V26.keptC{V W:World}{base e size n:Nat}{v:Value}{xs:List Value}(h:V26 V base e size v n xs)(hk:∀(k:Nat)(o:Obj),base<=k->V.heap[k]?=some o->o.isCells=true->W.heap[k]?=some o):V26 W base e size v n xs:=by
 obtain⟨v0,⟨h1,h2⟩,h3⟩:=h;exact⟨v0,⟨h1,h2.imp id λ ⟨g,cap,cur,x,y,z,r⟩=>⟨g,cap,cur,x,y,hk g _ y z rfl,r⟩⟩,h3⟩
theorem ItM.kept{V W:World}{lo:Nat}{it:Pl.It}{kv sv nv:Value}(h:ItM V lo it kv sv nv)(hk:∀(k:Nat)(o:Obj),lo<=k->V.heap[k]?=some o->o.isCells=true->W.heap[k]?=some o)(hz:V.heap.size<=W.heap.size):ItM W lo it kv sv nv:=by
 refine⟨h.k.keptC hk,h.s.keptC hk,h.n.imp id λ ⟨g0,L,a,b,c⟩=>⟨g0,L,a,b,⟨⟨c.lt.1,U4 c.lt.2 hz⟩,λ i r hr j v hv=>?_,λ i r hr=>?_,c.tg⟩⟩⟩;have h1:=c.cell i r hr j v hv;obtain⟨o,ho,hc⟩:=cells_of_cell h1;exact (Us (w:=V) (a:=⟨g0,i*7+j,none⟩) ((hk g0 o c.lt.1 ho hc).trans ho.symm)).trans h1
 obtain⟨x,y,z⟩:=c.rows i r hr;exact⟨x.keptC hk,y.keptC hk,z.keptC hk⟩
