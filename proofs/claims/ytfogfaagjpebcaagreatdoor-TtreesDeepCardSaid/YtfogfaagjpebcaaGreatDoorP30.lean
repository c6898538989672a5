/-
 The walks and plain laws that the claim rests on, part 30.
-/
import Derived.Test.YtfogfaagjpebcaaGreatDoorP00
import Derived.Test.YtfogfaagjpebcaaGreatDoorP06
import Derived.Test.YtfogfaagjpebcaaGreatDoorP08
import Derived.Test.YtfogfaagjpebcaaGreatDoorP11
import Derived.Test.YtfogfaagjpebcaaGreatDoorP13
import Derived.Test.YtfogfaagjpebcaaGreatDoorP28
import Derived.Test.YtfogfaagjpebcaaGreatDoorP34
import Derived.Test.YtfogfaagjpebcaaGreatDoorP37
set_option maxHeartbeats 16000000
set_option linter.all false
set_option linter.unusedVariables false
set_option linter.unusedSimpArgs false
namespace Go.Proofs.YtfogfaagjpebcaaGreatDoor
open Go.RowKit Go.Shelf Go.Joins
attribute [local go_sem] Oper.semAt_some
def OutI (X:Pl.Out Nat) (e:Ending):Prop:=match X with
 | .ok m=>e = .returned (.tuple #[.int .i64 m,f0])
 | .bad c p=>e = .returned (.tuple #[.int .i64 0,fv c p])
theorem gr_iterD (w:World) (o:Obj) (m:Nat) (s:ByteArray) (p:Nat):Gr (w.alloc o) (((w.alloc o).drewN m).iter s p):=((Gr.refl _).drewN m).alloc _
theorem iter_drewN (w:World) (m k:Nat) (s:ByteArray) (p:Nat):((w.drewN m).iter s p).drewN k=(w.drewN (m+k)).iter s p:=by
 simp[World.iter,World.alloc,World.drewN,Nat.add_assoc]
theorem iterPos_at (w:World) (m:Nat) (s:ByteArray) (p k:Nat) (hk:k=w.heap.size):((w.drewN m).iter s p).iterPos k=p:=by
 subst hk;simp[World.iterPos,World.iter,World.alloc,World.drewN]
set_option maxRecDepth 100000 in
theorem tl_is (s want:ByteArray) (hw:∀h:Nat,(h1:h<want.size)→(want[h]'h1).toNat<128) (hs:s.size≤20000000) (hws:want.size≤10) (n:Nat) (i:Int) (hi:i=n) (hn:n≤s.size) (w:World) :
    Calls Tryz.prog 73 #[.string s,.int .i64 i,.string want] w fun e w'=>OutI (Pl.isF (bs s) n (bs want)) e∧Gr w w':=by
 subst hi;obtain⟨X,hX⟩:∃X,Pl.isF (bs s) n (bs want)=X:=⟨_,rfl⟩
 rw[hX];have HX:=Lib.hid hX;have HW:=Lib.hid hw;clear hX hw;go_enter Tryz.func73,Tryz.ntmps73;go_wp2_with fail
 go_loopw [8] (fun _ wr=>∃pos m:Nat,wr=((w.alloc (.cells #[.int .i64 0,.int .i64 0] 31)).drewN m).iter want pos∧pos≤want.size∧Pl.isF (bs s) (n+pos) ((bs want).drop pos)=X) (fun _ wr=>want.size-wr.iterPos (w.heap.size+1))
 case atStart=>exact⟨0,0,rfl,by omega,by simpa using HX.out⟩
 case round =>
  obtain⟨pos,m,rfl,hpl,hx⟩:=hrel;have HX2:=Lib.hid hx;clear hx;by_cases hp:pos<want.size
  · have hnx:∀ty,(Instr.next (.pointer (some ⟨w.heap.size+1,0,none⟩)) true ty).run Tryz.prog (((w.alloc (.cells #[.int .i64 0,.int .i64 0] 31)).drewN m).iter want pos) = .ok (.tuple #[.bool true,.int .i64 pos,.int .i32 (want[pos]'hp).toNat]) (((w.alloc (.cells #[.int .i64 0,.int .i64 0] 31)).drewN m).iter want (pos+1)):=fun ty=>by
     have:=run_next_ascii (P:=Tryz.prog) ((w.alloc (.cells #[.int .i64 0,.int .i64 0] 31)).drewN m) want pos ty hp (HW.out pos hp);rw[show ((w.alloc (.cells #[.int .i64 0,.int .i64 0] 31)).drewN m).heap.size=w.heap.size+1 by simp[World.drewN]]at this;exact this
    have hx2:=HX2.out;rw[idx_bs want pos hp]at hx2;simp only[Pl.isF]at hx2;have w1:IntKind.i64.wrap ((n:Int)+(pos:Int))=(n:Int)+(pos:Int):=IntWalk.i64_in _ ⟨by omega,by omega⟩;have k0:(0:Int)≤(pos:Int):=by omega
    have k1:(pos:Int)<(want.size:Int):=by omega
    have k2:(0:Int)≤(n:Int)+(pos:Int):=by omega
    have k3:((n:Int)+(pos:Int)).toNat=n+pos:=by omega
    by_cases hlt:n+pos<s.size
    · have d1:decide ((s.size:Int)≤(n:Int)+(pos:Int))=false:=by simp;omega
      have k4:(n:Int)+(pos:Int)<(s.size:Int):=by omega
      have hg:(bs s)[n+pos]?=some (s[n+pos]'hlt):=by
       have h2:=idx_bs s (n+pos) hlt;have h3:(bs s)[n+pos]?=((bs s).drop (n+pos))[0]?:=by rw[List.getElem?_drop];rfl
       rw[h3,h2];rfl
      rw[hg]at hx2;cases hq:((s[n+pos]'hlt).toNat==(want[pos]'hp).toNat) with
      | true =>
       obtain⟨q1,q2⟩:=beqs _ _ _ hq;have hcc:s[n+pos]'hlt=want[pos]'hp:=UInt8.toNat_inj.1 (by simpa using hq);rw[if_pos (by rw[hcc])]at hx2;have HX3:=Lib.hid hx2;clear hq hg hcc hx2;go_wp2_with fail
       go_quiet (fail)
       go_wp2_with fail;refine⟨⟨pos+1,m+nq,iter_drewN _ _ _ _ _,by omega,HX3.out⟩,?_⟩;rw[iter_drewN,iterPos_at _ _ _ _ _ (by simp),iterPos_at _ _ _ _ _ (by simp)];omega
      | false =>
       obtain⟨q1,q2⟩:=beqs _ _ _ hq;rw[if_neg (fun e=>by rw[Option.some.inj e]at hq;simp at hq)]at hx2;have HX3:=Lib.hid hx2;clear hq hg hx2;exact J134
    have d1:decide ((s.size:Int)≤(n:Int)+(pos:Int))=true:=by simp;omega
    have hg:(bs s)[n+pos]?=none:=List.getElem?_eq_none (by rw[bs_length];omega);rw[hg,if_neg (by simp)]at hx2;have HX3:=Lib.hid hx2;clear hg hx2;exact J134
  obtain rfl:pos=want.size:=by omega
  have hnx:∀ty,(Instr.next (.pointer (some ⟨w.heap.size+1,0,none⟩)) true ty).run Tryz.prog (((w.alloc (.cells #[.int .i64 0,.int .i64 0] 31)).drewN m).iter want want.size) = .ok (.tuple #[.bool false]) (((w.alloc (.cells #[.int .i64 0,.int .i64 0] 31)).drewN m).iter want want.size):=fun ty=>by
   have:=run_next_end (P:=Tryz.prog) ((w.alloc (.cells #[.int .i64 0,.int .i64 0] 31)).drewN m) want want.size ty hp;rw[show ((w.alloc (.cells #[.int .i64 0,.int .i64 0] 31)).drewN m).heap.size=w.heap.size+1 by simp[World.drewN]]at this;exact this
  have hx2:=HX2.out;rw[List.drop_eq_nil_of_le (by rw[bs_length];omega)]at hx2;simp only[Pl.isF]at hx2;have HX3:=Lib.hid hx2;have w1:IntKind.i64.wrap ((n:Int)+(want.size:Int))=(n:Int)+(want.size:Int):=IntWalk.i64_in _ ⟨by omega,by omega⟩;clear hx2;go_wp2_with fail;obtain⟨W,hW⟩:∃W,(((w.alloc (.cells #[.int .i64 0,.int .i64 0] 31)).drewN m).iter want want.size)=W:=⟨_,rfl⟩
  have hF0:FX w.heap.size (.int .i64 0) (.int .i64 0) W:=by rw[←hW];exact (FX.new w (.int .i64 0) (.int .i64 0) 31).gr (gr_iterD w _ m want want.size)
  have hG0:Gr w W:=by rw[←hW];exact ((Gr.refl w).alloc _).trans (gr_iterD w _ m want want.size)
  rw[hW];clear hW hnx;have hF:FX w.heap.size (.int .i64 0) (.int .i64 0) W.drew:=hF0.gr (Gr.refl _).drew;refine Reg.begin' (W:=fun i=>i != 6) (S:=FX w.heap.size (.int .i64 0) (.int .i64 0)) (by kernel_rfl) ?_;refine Z40 ?_;refine Reg.ty 3 ?_;refine Reg.tl 4 hF ?_ (hy:=by intro w hSw;obtain⟨q0,q1,qf,ql⟩:=hSw;go_simp;try with_reducible rfl);refine Reg.ty 5 ?_;obtain⟨q0,q1,qf,ql⟩:=hF0;refine Reg.on 6 ?_;go_simp;refine Z12 ?_;go_wp2_with fail;refine bodyPost_ret (v := .tuple #[.int .i64 ((n:Int)+(want.size:Int)),f0]) (by simp[results,Tryz.results73,go_sem,q0,q1,qf,ql]) rfl ⟨?_,Gr.auto⟩;rw[←HX3.out];exact rfl
end Go.Proofs.YtfogfaagjpebcaaGreatDoor
namespace Go.Proofs.YtfogfaagjpebcaaGreatDoor
open Go.RowKit Go.Shelf Go.Joins
attribute [local go_sem] Oper.semAt_some
theorem byteAt_in (s:ByteArray) (a:Nat) (h:a<s.size):Pl.byteAt (bs s) a=(s[a]'h).toNat:=by
 unfold Pl.byteAt;have h2:=idx_bs s a h;have h3:(bs s)[a]?=((bs s).drop a)[0]?:=by rw[List.getElem?_drop];rfl
 rw[h3,h2];rfl
theorem pre_one (c:UInt8) (r:List UInt8):Pl.pre (c::r) [10]=(c.toNat==10):=by
 have h:(c==10)=(c.toNat==10):=Bool.eq_iff_iff.2 (by simp[←UInt8.toNat_inj]);have h':((10:UInt8)==c)=(c.toNat==10):=Bool.eq_iff_iff.2 (by simp[←UInt8.toNat_inj];omega)
 first
  | (show ((c==10) && true)=_;rw[h,Bool.and_true])
  | (show (((10:UInt8)==c) && true)=_;rw[h',Bool.and_true])
  | (simp[Pl.pre,h,h'])
set_option maxRecDepth 100000 in
theorem tl_closed (s:ByteArray) (hs:s.size≤20000000) (n:Nat) (i:Int) (hi:i=n) (hn:n≤s.size) (w:World) :
    Calls Tryz.prog 53 #[.string s,.int .i64 i] w fun e w'=>OutI (Pl.closedS (bs s) n) e∧Gr w w':=by
 subst hi;have hb:=Pl.blanksAt_le (bs s) n (by rw[bs_length];exact hn);rw[bs_length]at hb;obtain⟨b,hbe⟩:∃b,Pl.blanksAt (bs s) n=b:=⟨_,rfl⟩
 rw[hbe]at hb;have hc:=Pl.commentAt_le (bs s) b (by rw[bs_length];exact hb.2);rw[bs_length]at hc;obtain⟨a,hae⟩:∃a,Pl.commentAt (bs s) b=a:=⟨_,rfl⟩
 rw[hae]at hc;have hX:Pl.closedS (bs s) n=if a=s.size then .ok a else if Pl.byteAt (bs s) a=10 then .ok (a+1) else if Pl.byteAt (bs s) a=13 then Pl.isF (bs s) a [13,10] else .bad 3 a:=by
  unfold Pl.closedS;simp only[hbe,hae,bs_length]
 have HX:=Lib.hid hX;have HB:=Lib.hid hbe;have HA:=Lib.hid hae;have hb2:=hb.2;have hc2:=hc.2;clear hX hbe hae hb hc;go_enter Tryz.func53,Tryz.ntmps53;go_wp2_with fail;refine (tk_Blanks s _ n rfl hn (by omega) _).mono ?_;rw[HB.out];rintro e w1 ⟨rfl,g1⟩;go_wp2_with fail;refine (tv_Comment s _ b rfl hb2 (by omega) _).mono ?_;rw[HA.out];rintro e w2 ⟨rfl,g2⟩;refine Z162 ?_;intro hF hG;have hFd:FX w.heap.size (.int .i64 0) (.int .i64 0) w2.drew:=hF.gr (Gr.refl _).drew;clear g1 g2;by_cases h1:a=s.size
 · have d1:((a:Int)==(s.size:Int))=true:=by simp;omega
   have HY:Hid (Pl.closedS (bs s) n = .ok a):=Lib.hid (by rw[HX.out,if_pos h1]);clear h1;go_wp2_with fail;refine Z98 ?_;obtain⟨q0,q1,qf,ql⟩:=hF;refine Z189 ?_;refine Z12 ?_;go_wp2_with fail;refine bodyPost_ret (v := .tuple #[.int .i64 a,f0]) (by simp[results,Tryz.results53,go_sem,q0,q1,qf,ql]) rfl ⟨?_,Gr.auto⟩;rw[HY.out];exact rfl
 have d1:((a:Int)==(s.size:Int))=false:=by simp;omega
 have ha:a<s.size:=by omega
 have hba:=byteAt_in s a ha;rw[hba,if_neg h1]at HX;have k0:(0:Int)≤(a:Int):=by omega
 have k1:(a:Int)≤(s.size:Int):=by omega
 have k2:(a:Int)<(s.size:Int):=by omega
 refine Z260 ?_;intro w1;have hpre:Pl.pre ((bs s).drop a) [10]=((s[a]'ha).toNat==10):=by
  rw[idx_bs s a ha];exact pre_one _ _
 cases h10:((s[a]'ha).toNat==10) with
 | true =>
  rw[h10]at hpre;have HP:=Lib.hid hpre;have HY:Hid (Pl.closedS (bs s) n = .ok (a+1)):=Lib.hid (by rw[HX.out,if_pos (by simpa using h10)]);clear h10 hpre hba h1;go_wp2_with (go_at_call 9;refine (prefix_at s ⟨#[10]⟩ a true HP.out _).mono ?_;rintro e w3 ⟨rfl,rfl⟩);refine Reg.begin' (W:=fun i=>i != 4) (S:=FX w.heap.size (.int .i64 0) (.int .i64 0)) (by kernel_rfl) ?_;refine Z57 ?_;refine Reg.tl 2 hFd ?_ (hy:=by intro w hSw;obtain⟨q0,q1,qf,ql⟩:=hSw;go_simp;try with_reducible rfl);refine Reg.ty 3 ?_;obtain⟨q0,q1,qf,ql⟩:=hF;refine Reg.on 4 ?_;go_simp;refine Z12 ?_;go_wp2_with fail;refine bodyPost_ret (v := .tuple #[.int .i64 ((a:Int)+1),f0]) (by simp[results,Tryz.results53,go_sem,q0,q1,qf,ql]) rfl ⟨?_,Gr.auto⟩;rw[HY.out];exact rfl
 | false =>
  rw[h10]at hpre;have HP:=Lib.hid hpre;rw[if_neg (by simpa using h10)]at HX;clear h10 hpre hba h1;cases h13:((s[a]'ha).toNat==13) with
  | true =>
   have z1:(((s[a]'ha).toNat:Int)==13)=true:=(beqs _ 13 _ h13).1;have HY:Hid (Pl.closedS (bs s) n=Pl.isF (bs s) a [13,10]):=Lib.hid (by rw[HX.out,if_pos (by simpa using h13)]);clear h13;go_wp2_with (go_at_call 9;refine (prefix_at s ⟨#[10]⟩ a false HP.out _).mono ?_;rintro e w3 ⟨rfl,rfl⟩);refine (tl_is s ⟨#[13,10]⟩ (low_of _ (by decide)) hs (by decide) a _ rfl (by omega) _).mono ?_;rintro e w4 ⟨hp,g4⟩;rw[show bs ⟨#[13,10]⟩=[13,10] from rfl,←HY.out]at hp;obtain⟨q0,q1,qf,ql⟩:=hF.gr g4;have hG4:=hG.trans g4;clear g4 hFd hF;unfold OutI at hp;cases hq:Pl.closedS (bs s) n with
   | ok m =>
    rw[hq]at hp;have he:=hp;clear hp;subst he;go_wp2_with fail;refine bodyPost_ret (v := .tuple #[.int .i64 m,f0]) (by simp[results,Tryz.results53,go_sem,q0,q1,qf,ql]) rfl ⟨?_,Gr.auto⟩;rw[hq];exact rfl
   | bad c p =>
    rw[hq]at hp;have he:=hp;clear hp;subst he;go_wp2_with fail;refine bodyPost_ret (v := .tuple #[.int .i64 0,fv c p]) (by simp[results,Tryz.results53,go_sem,q0,q1,qf,ql]) rfl ⟨?_,Gr.auto⟩;rw[hq];exact rfl
  | false =>
   have z1:(((s[a]'ha).toNat:Int)==13)=false:=(beqs _ 13 _ h13).1;have HY:Hid (Pl.closedS (bs s) n = .bad 3 a):=Lib.hid (by rw[HX.out,if_neg (by simpa using h13)]);clear h13;go_wp2_with (go_at_call 9;refine (prefix_at s ⟨#[10]⟩ a false HP.out _).mono ?_;rintro e w3 ⟨rfl,rfl⟩);refine (tl_wrong _ a rfl _).mono ?_;rintro e w4 ⟨rfl,g4⟩;obtain⟨q0,q1,qf,ql⟩:=hF.gr g4;have hG4:=hG.trans g4;clear g4 hFd hF;go_wp2_with fail;refine bodyPost_ret (v := .tuple #[.int .i64 0,fv 3 a]) (by simp[results,Tryz.results53,go_sem,q0,q1,qf,ql]) rfl ⟨?_,Gr.auto⟩;rw[HY.out];exact rfl
end Go.Proofs.YtfogfaagjpebcaaGreatDoor
namespace Go.Proofs.YtfogfaagjpebcaaGreatDoor
open Go.RowKit Go.Shelf Go.Joins
attribute [local go_sem] Oper.semAt_some
abbrev itO (k:Nat) (a b:Int) (kv sv:Value) (va vb:Int) (nv:Value) (root:Int):Obj := .cells #[.int .u8 k,.int .i64 a,.int .i64 b,kv,sv,.int .i64 va,.int .i64 vb,nv,.int .i64 root] 79 (0,0)
theorem itO_key {W:World} {I k:Nat} {a b va vb root:Int} {kv sv nv:Value} (h:W.heap[I]?=some (itO k a b kv sv va vb nv root)) (x y:Value):((W.setCell ⟨I,3,none⟩ x).setCell ⟨I,4,none⟩ y).heap[I]?=some (itO k a b x y va vb nv root):=by
 have h1:(W.setCell ⟨I,3,none⟩ x).heap[I]?=some (itO k a b x sv va vb nv root):=by rw[block_setCell h];rfl
 rw[block_setCell h1];rfl
theorem itO_facts {W:World} {I k:Nat} {a b va vb root:Int} {kv sv nv:Value} (h:W.heap[I]?=some (itO k a b kv sv va vb nv root)) :
    (W.cell? ⟨I,0,none⟩=some (.int .u8 k)∧W.cell? ⟨I,1,none⟩=some (.int .i64 a)∧W.cell? ⟨I,2,none⟩=some (.int .i64 b)∧W.cell? ⟨I,3,none⟩=some kv∧W.cell? ⟨I,4,none⟩=some sv∧W.cell? ⟨I,5,none⟩=some (.int .i64 va)∧W.cell? ⟨I,6,none⟩=some (.int .i64 vb) ∧
    W.cell? ⟨I,7,none⟩=some nv∧W.cell? ⟨I,8,none⟩=some (.int .i64 root))∧(∀o,W.frozen? ⟨I,o,none⟩=false)∧I<W.heap.size :=
 ⟨⟨by rw[cell_of_block h];rfl,by rw[cell_of_block h];rfl,by rw[cell_of_block h];rfl,by rw[cell_of_block h];rfl,by rw[cell_of_block h];rfl,by rw[cell_of_block h];rfl,by rw[cell_of_block h];rfl,by rw[cell_of_block h];rfl,by rw[cell_of_block h];rfl⟩,fun o=>unfrozen_of_block h o,(Array.getElem?_eq_some_iff.1 h).1⟩
structure ItM (W:World) (base:Nat) (it:Pl.It) (kv sv nv:Value):Prop where
 k:RowC W base 9 1 kv it.ws.length (keysV (keyWords it.ws))
 s:RowC W base 73 2 sv it.ws.length (spotsV (keySpans it.ws))
 n:(nv=nilV∧it.nds=[])∨∃g L,nv = .slice (some ⟨g,0,none⟩) it.nds.length it.nds.length∧L.map (·.nd)=it.nds∧TreeV W base g L
theorem ItM.gr {W W':World} {base:Nat} {it:Pl.It} {kv sv nv:Value} (h:ItM W base it kv sv nv) (g:Gr W W'):ItM W' base it kv sv nv :=
 ⟨h.k.of_block fun k e=>g.block (h.k.lt k e).2,h.s.of_block fun k e=>g.block (h.s.lt k e).2,h.n.imp id fun ⟨g0,L,a,b,c⟩=>⟨g0,L,a,b,c.gr g⟩⟩
theorem ItM.set {W:World} {base:Nat} {it:Pl.It} {kv sv nv:Value} (h:ItM W base it kv sv nv) {b:Nat} (hb:b<base) (o:Nat) (v:Value):ItM (W.setCell ⟨b,o,none⟩ v) base it kv sv nv:=by
 have hs:∀k,base≤k→(W.setCell ⟨b,o,none⟩ v).heap[k]?=W.heap[k]?:=fun k hk=>Below.heap_setCell _ _ _ _ (by (try simp);omega)
 refine⟨h.k.of_block fun k e=>hs k (h.k.lt k e).1,h.s.of_block fun k e=>hs k (h.s.lt k e).1,h.n.imp id fun ⟨g0,L,a,b',c⟩=>⟨g0,L,a,b',?_⟩⟩;refine⟨⟨c.lt.1,by simpa [World.setCell]using c.lt.2⟩,fun i r hr j v' hv=>?_,fun i r hr=>?_,c.tg⟩
 · rw[World.cell?_setCell_other _ _ _ _ (by have:=c.lt.1;intro e;have:=congrArg Addr.block e;simp only at this;omega)];exact c.cell i r hr j v' hv
 obtain⟨x,y,z⟩:=c.rows i r hr;exact⟨x.of_block fun k e=>hs k (x.lt k e).1,y.of_block fun k e=>hs k (y.lt k e).1,z.of_block fun k e=>hs k (z.lt k e).1⟩
theorem RowC.low {w:World} {b b' e size n:Nat} {v:Value} {xs:List Value} (h:RowC w b e size v n xs) (hb:b'≤b):RowC w b' e size v n xs:=by
 obtain⟨v0,⟨h1,h2⟩,h3⟩:=h;exact⟨v0,⟨h1,h2.imp id fun ⟨g,cap,cur,x,y,z⟩=>⟨g,cap,cur,x,Nat.le_trans hb y,z⟩⟩,h3⟩
theorem ItM.low {W:World} {b b':Nat} {it:Pl.It} {kv sv nv:Value} (h:ItM W b it kv sv nv) (hb:b'≤b):ItM W b' it kv sv nv :=
 ⟨h.k.low hb,h.s.low hb,h.n.imp id fun ⟨g0,L,x,y,z⟩=>⟨g0,L,x,y,⟨⟨Nat.le_trans hb z.lt.1,z.lt.2⟩,z.cell,fun i r hr=>⟨(z.rows i r hr).1.low hb,(z.rows i r hr).2.1.low hb,(z.rows i r hr).2.2.low hb⟩,z.tg⟩⟩⟩
def BodyPost (s:ByteArray) (I:Nat) (w:World) (X:Pl.Res (Nat × Pl.It)) (e:Ending) (w':World):Prop:=match X with
 | .non=>True
 | .bad c p=>e = .returned (.tuple #[.int .i64 0,fv c p])∧c≠0∧St (fun k=>k=I) (fun k=>k=I) w w'∧∃k a b kv sv va vb nv root,w'.heap[I]?=some (itO k a b kv sv va vb nv root)
 | .ok (m,it)=>e = .returned (.tuple #[.int .i64 m,f0])∧m≤s.size∧St (fun k=>k=I) (fun k=>k=I) w w'∧∃kv sv nv,w'.heap[I]?=some (itO it.kind 0 0 kv sv it.va it.vb nv it.root)∧ItM w' w.heap.size it kv sv nv
theorem heap_drew (W:World):W.drew.heap=W.heap:=rfl
theorem hdr_chain {w w2:World} {I F0 k:Nat} {a b va vb root:Int} {kv sv nv x y:Value} (hI:w2.heap[I]?=some (itO k a b kv sv va vb nv root)) (hF:FX F0 x y w2) (hne:I≠F0) (hF0:w.heap.size≤F0) (hS:St (fun k=>k=I) (fun k=>k=I) w w2) (kv' sv' x' y':Value) :
    ((((w2.setCell ⟨I,3,none⟩ kv').setCell ⟨I,4,none⟩ sv').setCell ⟨F0,0,none⟩ x').setCell ⟨F0,1,none⟩ y').heap[I]?=some (itO k a b kv' sv' va vb nv root) ∧
    FX F0 x' y' ((((w2.setCell ⟨I,3,none⟩ kv').setCell ⟨I,4,none⟩ sv').setCell ⟨F0,0,none⟩ x').setCell ⟨F0,1,none⟩ y') ∧
    St (fun k=>k=I) (fun k=>k=I) w ((((w2.setCell ⟨I,3,none⟩ kv').setCell ⟨I,4,none⟩ sv').setCell ⟨F0,0,none⟩ x').setCell ⟨F0,1,none⟩ y'):=by
 refine⟨?_,?_,?_⟩
 · rw[Below.heap_setCell _ _ _ _ hne,Below.heap_setCell _ _ _ _ hne];exact itO_key hI kv' sv'
 · exact ((hF.other hne _).other hne _).set x' y'
 exact (((hS.setCell (.inl rfl) _).setCell (.inl rfl) _).setCell (.inr hF0) _).setCell (.inr hF0) _
set_option maxRecDepth 100000 in
theorem tl_header (T:Nat→UInt8 × UInt8) (E:Pl.Env) (hE:EnvStr T E) (s:ByteArray) (hs:s.size≤20000000) (I k:Nat) (ends:ByteArray) (hends:ends.size≤2) (hlow:∀h:Nat,(h1:h<ends.size)→(ends[h]'h1).toNat<128) (n:Nat) (i:Int) (hi:i=n) (hn:n+ends.size≤s.size) (w:World)
    (hI:w.heap[I]?=some (itO k 0 0 nilV nilV 0 0 nilV 0)) (hQ:QW T w) (X:Pl.Res (Nat × Pl.It)) (hX:Pl.headerS E (bs s) k n (bs ends)=X) (hne:X ≠ .non) :
    Calls Tryz.prog 70 #[.pointer (some ⟨I,0,none⟩),.string s,.int .i64 i,.string ends] w (BodyPost s I w X):=by
 subst hi;have hb:=Pl.blanksAt_le (bs s) (n+ends.size) (by rw[bs_length];exact hn);rw[bs_length]at hb;obtain⟨b,hbe⟩:∃b,Pl.blanksAt (bs s) (n+ends.size)=b:=⟨_,rfl⟩
 rw[hbe]at hb;have hb2:=hb.2;unfold Pl.headerS at hX;rw[bs_length,hbe]at hX;obtain⟨Y,hY⟩:∃Y,Pl.keyS E (bs s) b=Y:=⟨_,rfl⟩
 rw[hY]at hX;have hYn:Y ≠ .non:=fun e=>hne (by rw[←hX,e])
 have hwn:IntKind.i64.wrap ((n:Int)+(ends.size:Int))=(n:Int)+(ends.size:Int):=IntWalk.i64_in _ ⟨by omega,by omega⟩;have hIl:I<w.heap.size:=(Array.getElem?_eq_some_iff.1 hI).1;have HB:=Lib.hid hbe;have HQ:=Lib.hid hQ;have HI:=Lib.hid hI;have HR:=Lib.hid (fun w1 (h:QW T w1)=>tk_Read T E hE s _ b rfl hb2 hs Y hY hYn w1 h);have HX:=Lib.hid hX;have HNE:=Lib.hid hne;clear hbe hb hX hY hQ hI hne;go_enter Tryz.func70,Tryz.ntmps70;go_wp2_with fail;refine (tk_Blanks s _ (n+ends.size) (by simp) hn (by omega) _).mono ?_;rw[HB.out];rintro e w1 ⟨rfl,g1⟩;go_wp2_with fail;refine (HR.out _ (HQ.out.gr Gr.auto)).mono ?_;cases Y with
 | non=>exact absurd rfl hYn
 | bad c p =>
  rintro e w2 ⟨rfl,hc,g2⟩;refine Z162 ?_;intro hF hG;have hI2:=(hG.block hIl).trans HI.out;refine Z172 ?_;intro i0 i1 i2 i3 i4 i5 i6 i7 i8 ifz ilt hIne hIne' q0 q1 qf ql;obtain⟨hIW,hFW,hSW⟩:=hdr_chain hI2 hF hIne (Nat.le_refl _) hG.st (.slice none 0 0) (.slice none 0 0) (.int .i64 c) (.int .i64 p);clear g1 g2;go_wp2_with fail;refine Z242 ?_;intro w3 g3;have hI3:=(g3.block (Array.getElem?_eq_some_iff.1 hIW).1).trans hIW;have hF3:=hFW.gr g3;have hS3:=hSW.gr g3;have hFd:FX w.heap.size (.int .i64 c) (.int .i64 p) w3.drew:=hF3.gr (Gr.refl _).drew;clear g3 hIW hFW hSW q0 q1 qf ql i0 i1 i2 i3 i4 i5 i6 i7 i8 ifz ilt;go_wp2_with fail;refine Reg.begin' (W:=fun i=>i != 2) (S:=FX w.heap.size (.int .i64 c) (.int .i64 p)) (by kernel_rfl) ?_;refine Reg.tl 0 hFd ?_ (hy:=by intro w hSw;obtain⟨q0,q1,qf,ql⟩:=hSw;go_simp;try with_reducible rfl);refine Reg.ty 1 ?_;obtain⟨q0,q1,qf,ql⟩:=hF3;refine Reg.on 2 ?_;go_simp;refine Z12 ?_;go_wp2_with fail;refine bodyPost_ret (v := .tuple #[.int .i64 0,fv c p]) (by simp[results,Tryz.results70,go_sem,q0,q1,qf,ql]) rfl ?_;rw[←HX.out];refine⟨rfl,hc,St.auto,k,0,0,.slice none 0 0,.slice none 0 0,0,0,nilV,0,?_⟩;exact J54
 | ok r =>
  obtain⟨ws,m⟩:=r;rintro e w2 ⟨kv,sv,rfl,hm,hrk,hrs,hl1,hl2,g2⟩;obtain⟨gk,ck,rfl,_,_⟩:=hrk.form hl2;obtain⟨gs,cs,rfl,_,_⟩:=hrs.form hl2;refine Z162 ?_;intro hF hG;have hI2:=(hG.block hIl).trans HI.out;have hz1:w.heap.size<w1.heap.size:=by have:=g1.size;simp at this;omega
  obtain⟨it,hit⟩:∃it:Pl.It,it=⟨k,0,0,ws,0,0,0,[]⟩:=⟨_,rfl⟩
  have hM2:ItM w2 w1.heap.size it (.slice (some ⟨gk,0,none⟩) ws.length ck) (.slice (some ⟨gs,0,none⟩) ws.length cs) nilV:=by subst hit;exact⟨hrk,hrs,.inl ⟨rfl,rfl⟩⟩
  refine Z172 ?_;intro i0 i1 i2 i3 i4 i5 i6 i7 i8 ifz ilt hIne hIne' q0 q1 qf ql;refine Z282 ?_;intro hIW hFW hSW;have hMW:=(((hM2.set (b:=I) (by omega) 3 (.slice (some ⟨gk,0,none⟩) ws.length ck)).set (b:=I) (by omega) 4 (.slice (some ⟨gs,0,none⟩) ws.length cs)).set hz1 0 (.int .i64 0)).set hz1 1 (.int .i64 0);have hb3:=Pl.blanksAt_le (bs s) m (by rw[bs_length];exact hm);rw[bs_length]at hb3;obtain⟨b3,hbe3⟩:∃b,Pl.blanksAt (bs s) m=b:=⟨_,rfl⟩
  rw[hbe3]at hb3;have hb4:=hb3.2;simp only[hbe3]at HX;have HB3:=Lib.hid hbe3;clear g1 g2 hM2 hrk hrs hb3 hbe3;go_wp2_with fail;refine (tl_fine_yes _).mono ?_;rintro e w3 ⟨rfl,g3⟩;have hI3:=(g3.block (Array.getElem?_eq_some_iff.1 hIW).1).trans hIW;have hF3:=hFW.gr g3;have hS3:=hSW.gr g3;have hM3:=hMW.gr g3;clear g3 hIW hFW hSW hMW q0 q1 qf ql i0 i1 i2 i3 i4 i5 i6 i7 i8 ifz ilt;go_wp2_with fail;refine (tk_Blanks s _ m rfl hm (by omega) _).mono ?_;rw[HB3.out];rintro e w4 ⟨rfl,g4⟩;go_wp2_with fail;refine (tl_is s ends hlow hs (by omega) b3 _ rfl hb4 _).mono ?_;rintro e w5 ⟨hp,g5⟩;have hI5:=(g5.block (by have:=(Array.getElem?_eq_some_iff.1 hI3).1;have:=g4.size;omega)).trans ((g4.block (Array.getElem?_eq_some_iff.1 hI3).1).trans hI3);have hF5:=(hF3.gr g4).gr g5;have hS5:=(hS3.gr g4).gr g5;have hM5:=(hM3.gr g4).gr g5;have hlem:=Pl.isF_le (bs s) (bs ends) b3 (by rw[bs_length];exact hb4);obtain⟨q0,q1,qf,ql⟩:=hF5;clear g4 g5 hI3 hF3 hS3 hM3;unfold OutI at hp;cases hz:Pl.isF (bs s) b3 (bs ends) with
  | ok q =>
   rw[hz]at hp HX;simp only at HX;have he:=hp;clear hp;subst he;have hq:=(hlem.1 q hz).2;rw[bs_length]at hq;clear hz hlem;go_wp2_with fail;refine bodyPost_ret (v := .tuple #[.int .i64 q,f0]) (by simp[results,Tryz.results70,go_sem,q0,q1,qf,ql]) rfl ?_;rw[←HX.out];refine⟨rfl,hq,St.auto,(.slice (some ⟨gk,0,none⟩) ws.length ck),(.slice (some ⟨gs,0,none⟩) ws.length cs),nilV,?_,?_⟩
   · rw[Below.heap_setCell _ _ _ _ hIne,Below.heap_setCell _ _ _ _ hIne];exact hI5
   rw[←hit];exact ((hM5.set hz1 0 _).set hz1 1 _).low (by omega)
  | bad c p =>
   rw[hz]at hp HX;simp only at HX;have he:=hp;clear hp;subst he;obtain rfl:c=3:=(hlem.2 c p hz).2;clear hz hlem;go_wp2_with fail;refine bodyPost_ret (v := .tuple #[.int .i64 0,fv 3 p]) (by simp[results,Tryz.results70,go_sem,q0,q1,qf,ql]) rfl ?_;rw[←HX.out];refine⟨rfl,by omega,St.auto,k,0,0,(.slice (some ⟨gk,0,none⟩) ws.length ck),(.slice (some ⟨gs,0,none⟩) ws.length cs),0,0,nilV,0,?_⟩;rw[Below.heap_setCell _ _ _ _ hIne,Below.heap_setCell _ _ _ _ hIne];exact hI5
end Go.Proofs.YtfogfaagjpebcaaGreatDoor
namespace Go.Proofs.YtfogfaagjpebcaaGreatDoor
open Go.ChangeShapes Go.WideShapes Go.ChangeAt Go.RowKit
set_option maxRecDepth 100000 in
theorem sh_cells {W:World} (hS:W.ShapedOpen Tryz.prog):∃m:Nat→Int,∀j,j<14→W.cell? ⟨15,j,none⟩=some (.int .u8 (m j))∧0≤m j∧m j≤255:=by
 obtain⟨cs,hh,hs,hr⟩:=hS.1 15 #[.int .u8 0,.int .u8 0,.int .u8 0,.int .u8 0,.int .u8 0,.int .u8 0,.int .u8 0,.int .u8 0,.int .u8 0,.int .u8 0,.int .u8 0,.int .u8 0,.int .u8 0,.int .u8 0] 307 (by decide +kernel) (by kernel_rfl);obtain⟨ts,hts,_,hall⟩:=hr (by kernel_rfl);have hc:Tryz.prog.cellTypes Tryz.prog.depth 307=some (List.replicate 14 5):=by kernel_rfl
 rw[hc]at hts;cases hts;have hsz:cs.size=14:=hs;have key:∀j,∃n:Int,j<14→W.cell? ⟨15,j,none⟩=some (.int .u8 n)∧0≤n∧n≤255:=fun j=>by
  by_cases hj:j<14
  · have h1:j<cs.size:=by omega
    obtain⟨u,hu',hok⟩:=hall j cs[j] (by simp[h1]);have:u=5:=by
     rw[List.getElem?_replicate,List.length_replicate,if_pos (by omega)]at hu';exact (Option.some.inj hu').symm
    subst this;have hcell:W.cell? ⟨15,j,none⟩=some cs[j]:=by simp[World.cell?,hh,h1]
    unfold Cell.ok at hok;rw[Tryz.underlying5]at hok;cases hv:cs[j] <;> rw[hv]at hok <;> simp at hok
    case int k' n =>
     obtain⟨rfl,h2⟩:=hok;refine⟨n,fun _=>⟨by rw[hcell,hv],?_⟩⟩;simp[IntKind.has,IntKind.min,IntKind.max,IntKind.signed,IntKind.bits]at h2;omega
  exact⟨0,fun h=>absurd h hj⟩
 obtain⟨m,hm⟩:=Classical.axiomOfChoice key;exact⟨m,fun j hj=>hm j hj⟩
theorem sh_any {W:World} (hS:W.ShapedOpen Tryz.prog):∃T,ShW T W:=by
 obtain⟨m,hm⟩:=sh_cells hS;refine⟨fun k=>(UInt8.ofNat (m (2*k)).toNat,UInt8.ofNat (m (2*k+1)).toNat),fun j v hj=>?_⟩;have key:∀i,i<14→byteV (UInt8.ofNat (m i).toNat) = .int .u8 (m i):=fun i hi=>by
  obtain⟨_,h1,h2⟩:=hm i hi;show Value.int .u8 ((UInt8.ofNat (m i).toNat).toNat:Int)=_;rw[UInt8.toNat_ofNat'];congr 1;omega
 match j,hj with
 | 0,hj=>simp[shC]at hj;rw[←hj,key 0 (by omega)];exact (hm 0 (by omega)).1
 | 1,hj=>simp[shC]at hj;rw[←hj,key 1 (by omega)];exact (hm 1 (by omega)).1
 | 2,hj=>simp[shC]at hj;rw[←hj,key 2 (by omega)];exact (hm 2 (by omega)).1
 | 3,hj=>simp[shC]at hj;rw[←hj,key 3 (by omega)];exact (hm 3 (by omega)).1
 | 4,hj=>simp[shC]at hj;rw[←hj,key 4 (by omega)];exact (hm 4 (by omega)).1
 | 5,hj=>simp[shC]at hj;rw[←hj,key 5 (by omega)];exact (hm 5 (by omega)).1
 | 6,hj=>simp[shC]at hj;rw[←hj,key 6 (by omega)];exact (hm 6 (by omega)).1
 | 7,hj=>simp[shC]at hj;rw[←hj,key 7 (by omega)];exact (hm 7 (by omega)).1
 | 8,hj=>simp[shC]at hj;rw[←hj,key 8 (by omega)];exact (hm 8 (by omega)).1
 | 9,hj=>simp[shC]at hj;rw[←hj,key 9 (by omega)];exact (hm 9 (by omega)).1
 | 10,hj=>simp[shC]at hj;rw[←hj,key 10 (by omega)];exact (hm 10 (by omega)).1
 | 11,hj=>simp[shC]at hj;rw[←hj,key 11 (by omega)];exact (hm 11 (by omega)).1
 | 12,hj=>simp[shC]at hj;rw[←hj,key 12 (by omega)];exact (hm 12 (by omega)).1
 | 13,hj=>simp[shC]at hj;rw[←hj,key 13 (by omega)];exact (hm 13 (by omega)).1
 | j+14,hj=>simp[shC]at hj
end Go.Proofs.YtfogfaagjpebcaaGreatDoor
namespace Go.Proofs.YtfogfaagjpebcaaGreatDoor
open Go.RowKit Go.Shelf Go.Joins
attribute [local go_sem] Oper.semAt_some
theorem pr_chain {w w2:World} {I F0 k:Nat} {a b va vb root:Int} {kv sv nv x y:Value} (hI:w2.heap[I]?=some (itO k a b kv sv va vb nv root)) (hF:FX F0 x y w2) (hne:I≠F0) (hF0:w.heap.size≤F0) (hS:St (fun k=>k=I) (fun k=>k=I) w w2) (nv' x' y':Value) (root' va' vb':Int) :
    ((((((w2.setCell ⟨I,7,none⟩ nv').setCell ⟨I,8,none⟩ (.int .i64 root')).setCell ⟨F0,0,none⟩ x').setCell ⟨F0,1,none⟩ y').setCell ⟨I,5,none⟩ (.int .i64 va')).setCell ⟨I,6,none⟩ (.int .i64 vb')).heap[I]?=some (itO k a b kv sv va' vb' nv' root') ∧
    FX F0 x' y' ((((((w2.setCell ⟨I,7,none⟩ nv').setCell ⟨I,8,none⟩ (.int .i64 root')).setCell ⟨F0,0,none⟩ x').setCell ⟨F0,1,none⟩ y').setCell ⟨I,5,none⟩ (.int .i64 va')).setCell ⟨I,6,none⟩ (.int .i64 vb')) ∧
    St (fun k=>k=I) (fun k=>k=I) w ((((((w2.setCell ⟨I,7,none⟩ nv').setCell ⟨I,8,none⟩ (.int .i64 root')).setCell ⟨F0,0,none⟩ x').setCell ⟨F0,1,none⟩ y').setCell ⟨I,5,none⟩ (.int .i64 va')).setCell ⟨I,6,none⟩ (.int .i64 vb')):=by
 refine⟨?_,?_,?_⟩
 · have h1:(w2.setCell ⟨I,7,none⟩ nv').heap[I]?=some (itO k a b kv sv va vb nv' root):=by rw[block_setCell hI];rfl
   have h2:((w2.setCell ⟨I,7,none⟩ nv').setCell ⟨I,8,none⟩ (.int .i64 root')).heap[I]?=some (itO k a b kv sv va vb nv' root'):=by rw[block_setCell h1];rfl
   have h3:((((w2.setCell ⟨I,7,none⟩ nv').setCell ⟨I,8,none⟩ (.int .i64 root')).setCell ⟨F0,0,none⟩ x').setCell ⟨F0,1,none⟩ y').heap[I]?=some (itO k a b kv sv va vb nv' root'):=by
    rw[Below.heap_setCell _ _ _ _ hne,Below.heap_setCell _ _ _ _ hne];exact h2
   have h4:(((((w2.setCell ⟨I,7,none⟩ nv').setCell ⟨I,8,none⟩ (.int .i64 root')).setCell ⟨F0,0,none⟩ x').setCell ⟨F0,1,none⟩ y').setCell ⟨I,5,none⟩ (.int .i64 va')).heap[I]?=some (itO k a b kv sv va' vb nv' root'):=by rw[block_setCell h3];rfl
   rw[block_setCell h4];rfl
 · exact ((((hF.other hne _).other hne _).set x' y').other hne _).other hne _
 exact (((((hS.setCell (.inl rfl) _).setCell (.inl rfl) _).setCell (.inr hF0) _).setCell (.inr hF0) _).setCell (.inl rfl) _).setCell (.inl rfl) _
theorem ItM.wsOnly {W:World} {base k:Nat} {ws:List Pl.KW} {kv sv nv:Value} (h:ItM W base ⟨k,0,0,ws,0,0,0,[]⟩ kv sv nv) {a b va vb root:Nat} {nds:Pl.Nds} {g:Nat} {L:List NdR} (hL:L.map (·.nd)=nds) (hT:TreeV W base g L) :
    ItM W base ⟨k,a,b,ws,va,vb,root,nds⟩ kv sv (.slice (some ⟨g,0,none⟩) nds.length nds.length) :=
 ⟨h.k,h.s,.inr ⟨g,L,rfl,hL,hT⟩⟩
theorem TreeV.low {W:World} {b b' g:Nat} {L:List NdR} (z:TreeV W b g L) (hb:b'≤b):TreeV W b' g L :=
 ⟨⟨Nat.le_trans hb z.lt.1,z.lt.2⟩,z.cell,fun i r hr=>⟨(z.rows i r hr).1.low hb,(z.rows i r hr).2.1.low hb,(z.rows i r hr).2.2.low hb⟩,z.tg⟩
set_option maxRecDepth 100000 in
theorem tl_pair (T:Nat→UInt8 × UInt8) (s:ByteArray) (hs:s.size≤20000000) (I:Nat) (n:Nat) (i:Int) (hi:i=n) (hn:n≤s.size) (w0 w:World) (hg0:Gr w0 w) (hI0:w0.heap.size≤I)
    (hI:w.heap[I]?=some (itO 1 0 0 nilV nilV 0 0 nilV 0)) (hQ:RW T w0) (X:Pl.Res (Nat × Pl.It)) (hX:Pl.pairI ⟨Pl.strS T,Pl.scalS⟩ (bs s) n=X) (hne:X ≠ .non) :
    Calls Tryz.prog 71 #[.pointer (some ⟨I,0,none⟩),.string s,.int .i64 i] w (BodyPost s I w X):=by
 subst hi;unfold Pl.pairI at hX;obtain⟨Y,hY⟩:∃Y,Pl.keyS ⟨Pl.strS T,Pl.scalS⟩ (bs s) n=Y:=⟨_,rfl⟩
 rw[hY]at hX;have hYn:Y ≠ .non:=fun e=>hne (by rw[←hX,e])
 have hIl:I<w.heap.size:=(Array.getElem?_eq_some_iff.1 hI).1;have HQ:=Lib.hid hQ;have HG0:=Lib.hid hg0;have HI:=Lib.hid hI;have HR:=Lib.hid (fun w1 (h:QW T w1)=>tk_Read T ⟨Pl.strS T,Pl.scalS⟩ rfl s _ n rfl hn hs Y hY hYn w1 h);have HX:=Lib.hid hX;have HNE:=Lib.hid hne;clear hX hY hQ hI hne hg0;go_enter Tryz.func71,Tryz.ntmps71;go_wp2_with fail;refine (HR.out _ ((HQ.out.gr HG0.out).q.gr Gr.auto)).mono ?_;cases Y with
 | non=>exact absurd rfl hYn
 | bad c p =>
  rintro e w2 ⟨rfl,hc,g2⟩;refine Z265 ?_;intro hF hG hI2;refine Z172 ?_;intro i0 i1 i2 i3 i4 i5 i6 i7 i8 ifz ilt hIne hIne' q0 q1 qf ql;obtain⟨hIW,hFW,hSW⟩:=hdr_chain hI2 hF hIne (Nat.le_refl _) hG.st (.slice none 0 0) (.slice none 0 0) (.int .i64 c) (.int .i64 p);clear g2;go_wp2_with fail;refine Z242 ?_;intro w3 g3;have hI3:=(g3.block (Array.getElem?_eq_some_iff.1 hIW).1).trans hIW;have hF3:=hFW.gr g3;have hS3:=hSW.gr g3;have hFd:FX w.heap.size (.int .i64 c) (.int .i64 p) w3.drew:=hF3.gr (Gr.refl _).drew;clear g3 hIW hFW hSW q0 q1 qf ql i0 i1 i2 i3 i4 i5 i6 i7 i8 ifz ilt;go_wp2_with fail;refine Reg.begin' (W:=fun i=>i != 2) (S:=FX w.heap.size (.int .i64 c) (.int .i64 p)) (by kernel_rfl) ?_;refine Reg.tl 0 hFd ?_ (hy:=by intro w hSw;obtain⟨q0,q1,qf,ql⟩:=hSw;go_simp;try with_reducible rfl);refine Reg.ty 1 ?_;obtain⟨q0,q1,qf,ql⟩:=hF3;refine Reg.on 2 ?_;go_simp;refine Z12 ?_;go_wp2_with fail;refine Z290 ?_;refine⟨rfl,hc,St.auto,1,0,0,.slice none 0 0,.slice none 0 0,0,0,nilV,0,?_⟩;exact J54
 | ok r =>
  obtain⟨ws,m⟩:=r;rintro e w2 ⟨kv,sv,rfl,hm,hrk,hrs,hl1,hl2,g2⟩;obtain⟨gk,ck,rfl,_,_⟩:=hrk.form hl2;obtain⟨gs,cs,rfl,_,_⟩:=hrs.form hl2;refine Z265 ?_;intro hF hG hI2;obtain⟨it,hit⟩:∃it:Pl.It,it=⟨1,0,0,ws,0,0,0,[]⟩:=⟨_,rfl⟩
  have hM2:ItM w2 (w.heap.size+1) it (.slice (some ⟨gk,0,none⟩) ws.length ck) (.slice (some ⟨gs,0,none⟩) ws.length cs) nilV:=by subst hit;exact⟨by simpa using hrk,by simpa using hrs,.inl ⟨rfl,rfl⟩⟩
  refine Z172 ?_;intro i0 i1 i2 i3 i4 i5 i6 i7 i8 ifz ilt hIne hIne' q0 q1 qf ql;refine Z282 ?_;intro hIW hFW hSW;have hMW:=(((hM2.set (b:=I) (by omega) 3 (.slice (some ⟨gk,0,none⟩) ws.length ck)).set (b:=I) (by omega) 4 (.slice (some ⟨gs,0,none⟩) ws.length cs)).set (b:=w.heap.size) (by omega) 0 (.int .i64 0)).set (b:=w.heap.size) (by omega) 1 (.int .i64 0);have hb3:=Pl.blanksAt_le (bs s) m (by rw[bs_length];exact hm);rw[bs_length]at hb3;obtain⟨b3,hbe3⟩:∃b,Pl.blanksAt (bs s) m=b:=⟨_,rfl⟩
  rw[hbe3]at hb3;have hb4:=hb3.2;simp only[hbe3]at HX;have HB3:=Lib.hid hbe3;clear g2 hM2 hrk hrs hb3 hbe3;go_wp2_with fail;refine (tl_fine_yes _).mono ?_;rintro e w3 ⟨rfl,g3⟩;have hI3:=(g3.block (Array.getElem?_eq_some_iff.1 hIW).1).trans hIW;have hF3:=hFW.gr g3;have hS3:=hSW.gr g3;have hM3:=hMW.gr g3;clear g3 hIW hFW hSW hMW q0 q1 qf ql i0 i1 i2 i3 i4 i5 i6 i7 i8 ifz ilt;go_wp2_with fail;refine (tk_Blanks s _ m rfl hm (by omega) _).mono ?_;rw[HB3.out];rintro e w4 ⟨rfl,g4⟩;go_wp2_with fail;refine (tl_is s ⟨#[61]⟩ (low_of _ (by decide)) hs (by decide) b3 _ rfl hb4 _).mono ?_;rintro e w5 ⟨hp,g5⟩;rw[show bs ⟨#[61]⟩=[61] from rfl]at hp;have hI5:=(g5.block (by have:=(Array.getElem?_eq_some_iff.1 hI3).1;have:=g4.size;omega)).trans ((g4.block (Array.getElem?_eq_some_iff.1 hI3).1).trans hI3);have hF5:=(hF3.gr g4).gr g5;have hS5:=(hS3.gr g4).gr g5;have hM5:=(hM3.gr g4).gr g5;have hlem:=Pl.isF_le (bs s) [61] b3 (by rw[bs_length];exact hb4);have hIne2:¬I=w.heap.size:=hIne;clear g4 g5 hI3 hF3 hS3 hM3;unfold OutI at hp;cases hz:Pl.isF (bs s) b3 [61] with
  | bad c p =>
   rw[hz]at hp HX;simp only at HX;have he:=hp;clear hp;subst he;obtain rfl:c=3:=(hlem.2 c p hz).2;have hFW:=hF5.set (.int .i64 3) (.int .i64 p);have hSW:=(hS5.setCell (p:=⟨w.heap.size,0,none⟩) (.inr (Nat.le_refl _)) (.int .i64 3)).setCell (p:=⟨w.heap.size,1,none⟩) (.inr (Nat.le_refl _)) (.int .i64 p);obtain⟨q0,q1,qf,ql⟩:=hF5;clear hz hlem;go_wp2_with fail;refine (tl_fine_no 3 p (by omega) _).mono ?_;rintro e w6 ⟨rfl,g6⟩;have hF6:=hFW.gr g6;have hS6:=hSW.gr g6;have hI6:=(g6.block (by simpa [World.setCell]using (Array.getElem?_eq_some_iff.1 hI5).1)).trans (((Below.heap_setCell _ _ _ _ hIne).trans (Below.heap_setCell _ _ _ _ hIne)).trans hI5);have hFd:FX w.heap.size (.int .i64 3) (.int .i64 p) w6.drew:=hF6.gr (Gr.refl _).drew;clear g6 hFW hSW q0 q1 qf ql;go_wp2_with fail;refine Reg.begin' (W:=fun i=>i != 2) (S:=FX w.heap.size (.int .i64 3) (.int .i64 p)) (by kernel_rfl) ?_;refine Reg.tl 0 hFd ?_ (hy:=by intro w hSw;obtain⟨q0,q1,qf,ql⟩:=hSw;go_simp;try with_reducible rfl);refine Reg.ty 1 ?_;obtain⟨q0,q1,qf,ql⟩:=hF6;refine Reg.on 2 ?_;go_simp;refine Z12 ?_;go_wp2_with fail;refine bodyPost_ret (v := .tuple #[.int .i64 0,fv 3 p]) (by simp[results,Tryz.results71,go_sem,q0,q1,qf,ql]) rfl ?_;rw[←HX.out];refine⟨rfl,by omega,St.auto,1,0,0,(.slice (some ⟨gk,0,none⟩) ws.length ck),(.slice (some ⟨gs,0,none⟩) ws.length cs),0,0,nilV,0,?_⟩;rw[heap_drew,Below.heap_setCell _ _ _ _ hIne,Below.heap_setCell _ _ _ _ hIne];exact hI6
  | ok q =>
   rw[hz]at hp HX;simp only at HX;have he:=hp;clear hp;subst he;have hq:=(hlem.1 q hz).2;rw[bs_length]at hq;have hFW:=hF5.set (.int .i64 0) (.int .i64 0);have hSW:=(hS5.setCell (p:=⟨w.heap.size,0,none⟩) (.inr (Nat.le_refl _)) (.int .i64 0)).setCell (p:=⟨w.heap.size,1,none⟩) (.inr (Nat.le_refl _)) (.int .i64 0);have hMW:=(hM5.set (b:=w.heap.size) (by omega) 0 (.int .i64 0)).set (b:=w.heap.size) (by omega) 1 (.int .i64 0);obtain⟨q0,q1,qf,ql⟩:=hF5;have hb5:=Pl.blanksAt_le (bs s) q (by rw[bs_length];exact hq);rw[bs_length]at hb5;obtain⟨b5,hbe5⟩:∃b,Pl.blanksAt (bs s) q=b:=⟨_,rfl⟩
   rw[hbe5]at hb5;have hb6:=hb5.2;simp only[hbe5]at HX;have HB5:=Lib.hid hbe5;obtain⟨V,hV⟩:∃V,Pl.readS ⟨Pl.strS T,Pl.scalS⟩ (bs s) b5 0=V:=⟨_,rfl⟩
   rw[hV]at HX;have hVn:V ≠ .non:=fun e=>HNE.out (by rw[←HX.out,e])
   have HV:=Lib.hid (fun W (hw:RW T W)=>tv_Read W hw s hs _ b5 rfl hb6 0 0 (by decide) V hV hVn);clear hz hlem hb5 hbe5 hV;go_wp2_with fail;refine (tl_fine_yes _).mono ?_;rintro e w6 ⟨rfl,g6⟩;have hF6:=hFW.gr g6;have hS6:=hSW.gr g6;have hM6:=hMW.gr g6;have hI6:=(g6.block (by simpa [World.setCell]using (Array.getElem?_eq_some_iff.1 hI5).1)).trans (((Below.heap_setCell _ _ _ _ hIne).trans (Below.heap_setCell _ _ _ _ hIne)).trans hI5);clear g6 hFW hSW hMW q0 q1 qf ql;go_wp2_with fail;refine (tk_Blanks s _ q rfl hq (by omega) _).mono ?_;rw[HB5.out];rintro e w7 ⟨rfl,g7⟩;have hRW:RW T w7:=HQ.out.gr (((hS6.gr g7).below HG0.out (fun k e=>by rw[e];exact hI0)));go_wp2_with fail;refine (HV.out _ hRW).mono ?_;cases V with
   | non=>exact absurd rfl hVn
   | bad c p =>
    rintro e w8 ⟨rfl,hc,g8⟩;have hI8:=(g8.block (by have:=(Array.getElem?_eq_some_iff.1 hI6).1;have:=g7.size;omega)).trans ((g7.block (Array.getElem?_eq_some_iff.1 hI6).1).trans hI6);have hF8:=(hF6.gr g7).gr g8;have hS8:=(hS6.gr g7).gr g8;obtain⟨⟨i0,i1,i2,i3,i4,i5,i6,i7,i8⟩,ifz,ilt⟩:=itO_facts hI8;obtain⟨q0,q1,qf,ql⟩:=id hF8;obtain⟨hIW,hFW,hSW⟩:=pr_chain hI8 hF8 hIne (Nat.le_refl _) hS8 nilV (.int .i64 c) (.int .i64 p) 0 b5 0;clear g7 g8 hI6 hF6 hS6 hM6 hRW hI5 hS5 hM5;go_wp2_with fail;obtain⟨W,hW⟩:∃W,((((((w8.setCell ⟨I,7,none⟩ nilV).setCell ⟨I,8,none⟩ (.int .i64 0)).setCell ⟨w.heap.size,0,none⟩ (.int .i64 c)).setCell ⟨w.heap.size,1,none⟩ (.int .i64 p)).setCell ⟨I,5,none⟩ (.int .i64 b5)).setCell ⟨I,6,none⟩ (.int .i64 0))=W:=⟨_,rfl⟩
    rw[hW]at hIW hFW hSW ⊢;have hFd:FX w.heap.size (.int .i64 c) (.int .i64 p) W.drew:=hFW.gr (Gr.refl _).drew;clear hW q0 q1 qf ql i0 i1 i2 i3 i4 i5 i6 i7 i8 ifz ilt;refine Reg.begin' (W:=fun i=>i != 3) (S:=FX w.heap.size (.int .i64 c) (.int .i64 p)) (by kernel_rfl) ?_;refine Z314 ?_;obtain⟨q0,q1,qf,ql⟩:=hFW;refine Z189 ?_;refine Z12 ?_;go_wp2_with fail;refine Z290 ?_;refine⟨rfl,hc,St.auto,1,0,0,(.slice (some ⟨gk,0,none⟩) ws.length ck),(.slice (some ⟨gs,0,none⟩) ws.length cs),b5,0,nilV,0,?_⟩;exact J55
   | ok r =>
    obtain⟨root,m2,st⟩:=r;rintro e w8 ⟨g,L,rfl,hm2,hroot,hL,hT,g8⟩;have hI8:=(g8.block (by have:=(Array.getElem?_eq_some_iff.1 hI6).1;have:=g7.size;omega)).trans ((g7.block (Array.getElem?_eq_some_iff.1 hI6).1).trans hI6);have hF8:=(hF6.gr g7).gr g8;have hS8:=(hS6.gr g7).gr g8;have hM8:=(hM6.gr g7).gr g8;obtain⟨⟨i0,i1,i2,i3,i4,i5,i6,i7,i8⟩,ifz,ilt⟩:=itO_facts hI8;obtain⟨q0,q1,qf,ql⟩:=id hF8;obtain⟨hIW,hFW,hSW⟩:=pr_chain hI8 hF8 hIne (Nat.le_refl _) hS8 (.slice (some ⟨g,0,none⟩) st.length st.length) (.int .i64 0) (.int .i64 0) root b5 m2;have hMit:=hM8;rw[hit]at hMit;have hMn:=ItM.wsOnly hMit (a:=0) (b:=0) (va:=b5) (vb:=m2) (root:=root) hL (hT.low (by have:=hF6.2.2.2;have:=g7.size;omega));have hMW:=(((((hMn.set (b:=I) (by omega) 7 (.slice (some ⟨g,0,none⟩) st.length st.length)).set (b:=I) (by omega) 8 (.int .i64 root)).set (b:=w.heap.size) (by omega) 0 (.int .i64 0)).set (b:=w.heap.size) (by omega) 1 (.int .i64 0)).set (b:=I) (by omega) 5 (.int .i64 b5)).set (b:=I) (by omega) 6 (.int .i64 m2);clear hM8 hMit hMn hT hL g8 hI6 hF6 hS6 hM6 hRW hI5 hS5 hM5;go_wp2_with fail;obtain⟨W,hW⟩:∃W,((((((w8.setCell ⟨I,7,none⟩ (.slice (some ⟨g,0,none⟩) st.length st.length)).setCell ⟨I,8,none⟩ (.int .i64 root)).setCell ⟨w.heap.size,0,none⟩ (.int .i64 0)).setCell ⟨w.heap.size,1,none⟩ (.int .i64 0)).setCell ⟨I,5,none⟩ (.int .i64 b5)).setCell ⟨I,6,none⟩ (.int .i64 m2))=W:=⟨_,rfl⟩
    rw[hW]at hIW hFW hSW hMW ⊢;have hFd:FX w.heap.size (.int .i64 0) (.int .i64 0) W.drew:=hFW.gr (Gr.refl _).drew;clear hW q0 q1 qf ql i0 i1 i2 i3 i4 i5 i6 i7 i8 ifz ilt;refine Z98 ?_;obtain⟨q0,q1,qf,ql⟩:=hFW;refine Z189 ?_;refine Z12 ?_;go_wp2_with fail;refine bodyPost_ret (v := .tuple #[.int .i64 m2,fv 0 0]) (by simp[results,Tryz.results71,go_sem,q0,q1,qf,ql]) rfl ?_;rw[←HX.out];refine⟨rfl,hm2,St.auto,(.slice (some ⟨gk,0,none⟩) ws.length ck),(.slice (some ⟨gs,0,none⟩) ws.length cs),(.slice (some ⟨g,0,none⟩) st.length st.length),?_,?_⟩
    · exact J55
    exact (((hMW.gr (Gr.refl _).drew).set (b:=w.heap.size) (by omega) 0 _).set (b:=w.heap.size) (by omega) 1 _).low (by omega)
end Go.Proofs.YtfogfaagjpebcaaGreatDoor
