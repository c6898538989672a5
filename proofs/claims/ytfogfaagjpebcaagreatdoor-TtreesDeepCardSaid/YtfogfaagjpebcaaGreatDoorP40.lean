/-
 The walks and plain laws that the claim rests on, part 40.
-/
import Derived.Test.YtfogfaagjpebcaaGreatDoorP00
import Derived.Test.YtfogfaagjpebcaaGreatDoorP32
import Derived.Test.YtfogfaagjpebcaaGreatDoorP39
set_option maxHeartbeats 16000000
set_option linter.all false
set_option linter.unusedVariables false
set_option linter.unusedSimpArgs false
namespace Go.Proofs.YtfogfaagjpebcaaGreatDoor
open Go.RowKit Go.Shelf Go.Joins
attribute [local go_sem] Oper.semAt_some
theorem bx2 (w:World) (a b:Value) (T:TypeId):FX w.heap.size a b (w.alloc (.cells #[a,b] T))∧Gr w (w.alloc (.cells #[a,b] T))∧(w.alloc (.cells #[a,b] T)).heap.size=w.heap.size+1 :=
 ⟨FX.new w _ _ _,(Gr.refl _).alloc _,by simp⟩
structure WayB (z:Nat) (R fo:Nat) (an d:Nat) (k1 k2:Value) (t:Nat × Nat) (w:World):Prop where
 p:FX z (.int .i64 an) (.int .i64 d) w
 k:FX (z+1) k1 k2 w
 s:FX (z+1+1) (.int .u8 t.1) (.int .i64 t.2) w
 o:w.cell? ⟨z+1+1+1,0,none⟩=some (.func (.func fo) #[.pointer (some ⟨R,0,none⟩)] #[])
 ol:z+1+1+1<w.heap.size
 r1:FX (z+1+1+1+1) (.int .i64 0) (.int .i64 0) w
 r2:FX (z+1+1+1+1+1) (.int .i64 0) (.int .i64 0) w
 f:FX (z+1+1+1+1+1+1) (.int .i64 0) (.int .i64 0) w
theorem WayB.st {z R fo an d:Nat} {k1 k2:Value} {t:Nat × Nat} {w w':World} {F F':Nat→Prop} (h:WayB z R fo an d k1 k2 t w) (g:St F F' w w') (hF:∀k,z≤k→k≤z+1+1+1+1+1+1→¬F k):WayB z R fo an d k1 k2 t w' :=
 ⟨h.p.st g (hF _ (by omega) (by omega)),h.k.st g (hF _ (by omega) (by omega)),h.s.st g (hF _ (by omega) (by omega)),((g.use (z+1+1+1) h.ol (hF (z+1+1+1) (by omega) (by omega))).1 _).trans h.o,Nat.lt_of_lt_of_le h.ol g.size,
  h.r1.st g (hF _ (by omega) (by omega)),h.r2.st g (hF _ (by omega) (by omega)),h.f.st g (hF _ (by omega) (by omega))⟩
theorem WayB.stored {z R fo an d an2 d2:Nat} {k1 k2:Value} {t:Nat × Nat} {w w':World} (h:WayB z R fo an d k1 k2 t w) (hb:∀k,k≠z→k≠z+1+1+1+1+1+1→w'.heap[k]?=w.heap[k]?) (hz:w.heap.size≤w'.heap.size)
    (hp:FX z (.int .i64 an2) (.int .i64 d2) w') (hf:FX (z+1+1+1+1+1+1) (.int .i64 0) (.int .i64 0) w'):WayB z R fo an2 d2 k1 k2 t w' :=
 ⟨hp,h.k.of_block (hb _ (by omega) (by omega)) hz,h.s.of_block (hb _ (by omega) (by omega)) hz,(World.cell?_of_block (w:=w) (a:=⟨z+1+1+1,0,none⟩) (hb (z+1+1+1) (by omega) (by omega))).trans h.o,Nat.lt_of_lt_of_le h.ol hz,
  h.r1.of_block (hb _ (by omega) (by omega)) hz,h.r2.of_block (hb _ (by omega) (by omega)) hz,hf⟩
theorem KeyC.stored {z bK gk gs ck cs:Nat} {ws:List Pl.KW} {w w':World} (h:KeyC (z+1+1+1+1+1+1) bK gk gs ck cs ws w) (hb:∀k,k≠z→k≠z+1+1+1+1+1+1→w'.heap[k]?=w.heap[k]?) (hz:w.heap.size≤w'.heap.size)
    (hf:FX (z+1+1+1+1+1+1) (.int .i64 0) (.int .i64 0) w') (h1:bK≠z∧bK≠z+1+1+1+1+1+1) (h2:gk<z) (h3:gs<z):KeyC (z+1+1+1+1+1+1) bK gk gs ck cs ws w' :=
 have e:∀k,k≠z→k≠z+1+1+1+1+1+1→∀o,w'.cell? ⟨k,o,none⟩=w.cell? ⟨k,o,none⟩:=fun k a b o=>World.cell?_of_block (w:=w) (a:=⟨k,o,none⟩) (hb k a b)
 ⟨hf,(e _ h1.1 h1.2 _).trans h.k0,(e _ h1.1 h1.2 _).trans h.k1,Nat.lt_of_lt_of_le h.kl hz,Nat.lt_of_lt_of_le h.gkl hz,Nat.lt_of_lt_of_le h.gsl hz,fun j t a b hj=>by
  obtain⟨a1,a2,a3⟩:=h.w j t a b hj;exact⟨(e gk (by omega) (by omega) _).trans a1,(e gs (by omega) (by omega) _).trans a2,(e gs (by omega) (by omega) _).trans a3⟩⟩
theorem stepG_ok {g g2:Pl.Gst} {an d n d2:Nat} {w:Pl.Bs} {a b:Nat} {t:Nat × Nat} {over:Nat→Pl.Ov} (h:Pl.stepG g an d w a b t over = .ok (n,d2,g2)) (hov:∀i n' d',over i = .go n' d'→d'≤d+2) (hl:g.nds.length≤20000001) :
    g2.nds.length≤20000001∧d2≤d+2:=by
 unfold Pl.stepG at h
 split at h
 · cases h
 · split at h
   · cases h
   · cases h
   rename_i h1
   cases h;exact⟨hl,hov _ _ _ h1⟩
 split at h
 · cases h
 split at h
 · rename_i h1
   cases h;rw[Bool.and_eq_true]at h1;have h2:=h1.2;unfold Pl.room at h2;rw[decide_eq_true_eq]at h2;refine⟨?_,by omega⟩;simp[Pl.putG,Pl.growG,Pl.putAt];exact h2
 cases h
theorem WayB.gr {z R fo an d:Nat} {k1 k2:Value} {t:Nat × Nat} {w w':World} (h:WayB z R fo an d k1 k2 t w) (g:Gr w w'):WayB z R fo an d k1 k2 t w' :=
 h.st (F:=fun _=>False) (F':=fun _=>False) g.st (fun _ _ _ e=>e)
theorem wayB_new (w:World) (R fo an d:Nat) (k1 k2:Value) (t:Nat × Nat) (T0 T1 T2 T3 T4 T5 T6:TypeId) :
    WayB w.heap.size R fo an d k1 k2 t (((((((w.alloc (.cells #[.int .i64 an,.int .i64 d] T0)).alloc (.cells #[k1,k2] T1)).alloc (.cells #[.int .u8 t.1,.int .i64 t.2] T2)).alloc (.cells #[.func (.func fo) #[.pointer (some ⟨R,0,none⟩)] #[]] T3)).alloc (.cells #[.int .i64 0,.int .i64 0] T4)).alloc (.cells #[.int .i64 0,.int .i64 0] T5)).alloc (.cells #[.int .i64 0,.int .i64 0] T6)) ∧
    Gr w (((((((w.alloc (.cells #[.int .i64 an,.int .i64 d] T0)).alloc (.cells #[k1,k2] T1)).alloc (.cells #[.int .u8 t.1,.int .i64 t.2] T2)).alloc (.cells #[.func (.func fo) #[.pointer (some ⟨R,0,none⟩)] #[]] T3)).alloc (.cells #[.int .i64 0,.int .i64 0] T4)).alloc (.cells #[.int .i64 0,.int .i64 0] T5)).alloc (.cells #[.int .i64 0,.int .i64 0] T6)) ∧
    (((((((w.alloc (.cells #[.int .i64 an,.int .i64 d] T0)).alloc (.cells #[k1,k2] T1)).alloc (.cells #[.int .u8 t.1,.int .i64 t.2] T2)).alloc (.cells #[.func (.func fo) #[.pointer (some ⟨R,0,none⟩)] #[]] T3)).alloc (.cells #[.int .i64 0,.int .i64 0] T4)).alloc (.cells #[.int .i64 0,.int .i64 0] T5)).alloc (.cells #[.int .i64 0,.int .i64 0] T6)).heap.size=w.heap.size+1+1+1+1+1+1+1:=by
 obtain⟨w1,h1⟩:∃w1,w.alloc (.cells #[.int .i64 an,.int .i64 d] T0)=w1:=⟨_,rfl⟩
 obtain⟨w2,h2⟩:∃w2,w1.alloc (.cells #[k1,k2] T1)=w2:=⟨_,rfl⟩
 obtain⟨w3,h3⟩:∃w3,w2.alloc (.cells #[.int .u8 t.1,.int .i64 t.2] T2)=w3:=⟨_,rfl⟩
 obtain⟨w4,h4⟩:∃w4,w3.alloc (.cells #[.func (.func fo) #[.pointer (some ⟨R,0,none⟩)] #[]] T3)=w4:=⟨_,rfl⟩
 obtain⟨w5,h5⟩:∃w5,w4.alloc (.cells #[.int .i64 0,.int .i64 0] T4)=w5:=⟨_,rfl⟩
 obtain⟨w6,h6⟩:∃w6,w5.alloc (.cells #[.int .i64 0,.int .i64 0] T5)=w6:=⟨_,rfl⟩
 obtain⟨w7,h7⟩:∃w7,w6.alloc (.cells #[.int .i64 0,.int .i64 0] T6)=w7:=⟨_,rfl⟩
 rw[h1,h2,h3,h4,h5,h6,h7];obtain⟨f0,g1,z1⟩:=bx2 w (.int .i64 an) (.int .i64 d) T0;rw[h1]at f0 g1 z1;obtain⟨f1,g2,z2⟩:=bx2 w1 k1 k2 T1;rw[h2]at f1 g2 z2;obtain⟨f2,g3,z3⟩:=bx2 w2 (.int .u8 t.1) (.int .i64 t.2) T2;rw[h3]at f2 g3 z3;have g4:Gr w3 w4:=by rw[←h4];exact (Gr.refl _).alloc _
 have z4:w4.heap.size=w3.heap.size+1:=by rw[←h4];simp
 have f3:w4.cell? ⟨w3.heap.size,0,none⟩=some (.func (.func fo) #[.pointer (some ⟨R,0,none⟩)] #[]):=by rw[←h4];simp
 obtain⟨f4,g5,z5⟩:=bx2 w4 (.int .i64 0) (.int .i64 0) T4;rw[h5]at f4 g5 z5;obtain⟨f5,g6,z6⟩:=bx2 w5 (.int .i64 0) (.int .i64 0) T5;rw[h6]at f5 g6 z6;obtain⟨f6,g7,z7⟩:=bx2 w6 (.int .i64 0) (.int .i64 0) T6;rw[h7]at f6 g7 z7;have k7:=g7;have k6:=g6.trans k7;have k5:=g5.trans k6;have k4:=g4.trans k5;have k3:=g3.trans k4;have k2:=g2.trans k3;rw[z1]at f1 z2;rw[z2]at f2 z3;rw[z3]at f3 z4;rw[z4]at f4 z5;rw[z5]at f5 z6;rw[z6]at f6 z7;exact⟨⟨f0.gr k2,f1.gr k3,f2.gr k4,(k5.use.1 _ _ (by omega)).trans f3,by omega,f4.gr k6,f5.gr k7,f6⟩,g1.trans k2,z7⟩
def WayR (w:World) (z:Nat) (R B base fo:Nat) (s:ByteArray) (own:Nat→Nat) (x:GrX) (d0:Nat) (t:Nat × Nat) (over:Pl.Gst→Nat→Nat→Pl.Ov) (gk gs ck cs:Nat) (ws ks:List Pl.KW) (Y:Pl.Res (Nat × Nat × Pl.Gst)) (v19:Value) (wr:World):Prop :=
 ∃(done rest:List Pl.KW) (j an d:Nat) (nv':Value) (L':List NdR) (own':Nat→Nat) (g':Pl.Gst),v19 = .int .i64 j∧done.length=j∧ks=done++rest∧d≤d0+2*j∧GM wr R B base s nv' L' own' x g'∧L'.length≤20000001 ∧
  Pl.wayG t over rest an d g'=Y∧KeyC (z+1+1+1+1+1+1) (z+1) gk gs ck cs ws wr∧WayB z R fo an d (.slice (some ⟨gk,0,none⟩) ws.length ck) (.slice (some ⟨gs,0,none⟩) ws.length cs) t wr ∧
  St (FV own) (FV own') w wr∧(∀k,own' k≠0→own k≠0∨z+1+1+1+1+1+1+1≤k)∧z+1+1+1+1+1+1+1≤wr.heap.size
structure WayS (z gk gs n ck cs j:Nat) (wd:Value) (a b:Nat) (an d:Nat) (t:Nat × Nat) (w:World):Prop where
 p:FX z (.int .i64 an) (.int .i64 d) w
 k0:w.cell? ⟨z+1,0,none⟩=some (.slice (some ⟨gk,0,none⟩) n ck)
 k1:w.cell? ⟨z+1,1,none⟩=some (.slice (some ⟨gs,0,none⟩) n cs)
 w0:w.cell? ⟨gk,j,none⟩=some wd
 w1:w.cell? ⟨gs,j*2,none⟩=some (.int .i64 a)
 w2:w.cell? ⟨gs,j*2+1,none⟩=some (.int .i64 b)
 s:FX (z+1+1) (.int .u8 t.1) (.int .i64 t.2) w
set_option maxRecDepth 100000 in
theorem gr_way (fo:Nat) (hent:∀args w,(callFunc fo args).run Tryz.prog w = .ok (.enter fo args) w) (over:Pl.Gst→Nat→Nat→Pl.Ov) (hd2:∀g d i n d',over g d i = .go n d'→d'≤d+2)
    (w:World) (R B base:Nat) (s:ByteArray) (nv:Value) (L:List NdR) (own:Nat→Nat) (x:GrX) (g:Pl.Gst) (h:GM w R B base s nv L own x g)
    (HO:∀W nv' L' own' g',GM W R B base s nv' L' own' x g'→L'.length≤30000000→∀(an d i:Nat),i<L'.length→d≤1000000000→over g' d i ≠ .non→Calls Tryz.prog fo #[.pointer (some ⟨R,0,none⟩),.agg #[.int .i64 an,.int .i64 d],.int .i64 i] W fun e W'=>OvPost (over g' d i) e∧Gr W W')
    (an d:Nat) (t:Nat × Nat) (hL:L.length≤20000001) (hm:x.many≤30000000) (hd:d≤100000000) (gk gs ck cs:Nat) (ws:List Pl.KW) (la:Nat) (hla:ws.length=la+1) (hl2:la≤30000000)
    (hgk:gk<w.heap.size) (hgs:gs<w.heap.size) (hk0:own gk=0) (hs0:own gs=0) 
    (hrows:∀(j:Nat) (t:Pl.Bs) (a b:Nat),ws[j]?=some (t,a,b)→w.cell? ⟨gk,j,none⟩=some (strV t)∧w.cell? ⟨gs,j*2,none⟩=some (.int .i64 a)∧w.cell? ⟨gs,j*2+1,none⟩=some (.int .i64 b))
    (Y:Pl.Res (Nat × Nat × Pl.Gst)) (hY:Pl.wayG t over ws.dropLast an d g=Y) (hne:Y ≠ .non) :
    Calls Tryz.prog 60 #[.pointer (some ⟨R,0,none⟩),.agg #[.int .i64 an,.int .i64 d],.agg #[.slice (some ⟨gk,0,none⟩) ws.length ck,.slice (some ⟨gs,0,none⟩) ws.length cs],.agg #[.int .u8 t.1,.int .i64 t.2],.func (.func fo) #[.pointer (some ⟨R,0,none⟩)] #[]] w (StepG w R B base s own x Y):=by
 have H:=Lib.hid h;have HYY:=Lib.hid hY;have HOV:=Lib.hid HO;have HRO:=Lib.hid hrows;clear h hY HO hrows;have hwr:IntKind.i64.wrap ((ws.length:Int)-1)=(la:Int):=by rw[IntWalk.i64_in _ ⟨by omega,by omega⟩];omega
 have HLA:=Lib.hid hla;clear hla;go_enter Tryz.func60,Tryz.ntmps60
 go_upto_region 2 with fail
 obtain⟨W,hW⟩:∃W,(((((((w.alloc (.cells #[.int .i64 an,.int .i64 d] 60)).alloc (.cells #[.slice (some ⟨gk,0,none⟩) ws.length ck,.slice (some ⟨gs,0,none⟩) ws.length cs] 77)).alloc (.cells #[.int .u8 t.1,.int .i64 t.2] 86)).alloc (.cells #[.func (.func fo) #[.pointer (some ⟨R,0,none⟩)] #[]] 126)).alloc (.cells #[.int .i64 0,.int .i64 0] 60)).alloc (.cells #[.int .i64 0,.int .i64 0] 31)).alloc (.cells #[.int .i64 0,.int .i64 0] 31))=W:=⟨_,rfl⟩
 have hWB:=wayB_new w R fo an d (.slice (some ⟨gk,0,none⟩) ws.length ck) (.slice (some ⟨gs,0,none⟩) ws.length cs) t 60 77 86 126 60 31 31;rw[hW]at hWB;rw[hW];clear hW;obtain⟨hB,gW,hz⟩:=hWB;have hK:KeyC (w.heap.size+1+1+1+1+1+1) (w.heap.size+1) gk gs ck cs ws W :=
  ⟨hB.f,hB.k.1,hB.k.2.1,hB.k.2.2.2,Nat.lt_of_lt_of_le hgk gW.size,Nat.lt_of_lt_of_le hgs gW.size,fun j t a b hj=>by
   obtain⟨a1,a2,a3⟩:=HRO.out j t a b hj;exact⟨(gW.use.1 _ _ hgk).trans a1,(gW.use.1 _ _ hgs).trans a2,(gW.use.1 _ _ hgs).trans a3⟩⟩
 have HB:=Lib.hid hB;have HK:=Lib.hid hK;have HG:=Lib.hid gW;obtain⟨k0,k1,kf,kl⟩:=hB.k;clear hB hK gW;go_wp2_with fail
 go_loopw [19] (fun v19 wr=>WayR w w.heap.size R B base fo s own x d t over gk gs ck cs ws ws.dropLast Y v19 wr) (fun v19 _=>ws.length-(intOf v19).toNat)
 case atStart =>
  exact⟨[],ws.dropLast,0,an,d,nv,L,own,g,rfl,rfl,rfl,by omega,H.out.gr HG.out,hL,HYY.out,HK.out,HB.out,(St.refl _ _).gr HG.out,fun k hk => .inl hk,by omega⟩
 case round =>
  obtain⟨done,rest,j,an',d',nv',L',own',g',rfl,hdj,hks,hdd,hgm,hLL,hwg,hkc,hwb,hst,hown,hz0⟩:=hrel;have hlk:la=j+rest.length:=by
   have h1:=congrArg List.length hks;rw[List.length_dropLast,List.length_append,HLA.out]at h1;omega
  have HGM:=Lib.hid hgm;have HWG:=Lib.hid hwg;have HKC:=Lib.hid hkc;have HWB:=Lib.hid hwb;have HST:=Lib.hid hst;have HOWN:=Lib.hid hown;have HKS:=Lib.hid hks;have HDJ:=Lib.hid hdj;have HZ0:=Lib.hid hz0;refine Z287 ?_;intro i1;have i2:(j:Int)<(ws.length:Int):=by have:=HLA.out;omega
  have hj64:j<9223372036854775807:=by omega
  refine Z194 ?_;intro wj;clear hdj hks hgm hwg hkc hst hown;cases rest with
  | nil =>
   have i0:decide (j<la)=false:=by simp at hlk;simp;omega
   clear hlk hwb
   go_upto_region 10 with fail
   have hS:FX w.heap.size (.int .i64 an') (.int .i64 d') wr.drew∧FX (w.heap.size+1+1+1+1+1+1) (.int .i64 0) (.int .i64 0) wr.drew:=⟨HWB.out.p.gr (Gr.refl wr).drew,HWB.out.f.gr (Gr.refl wr).drew⟩
   have hS0:=And.intro HWB.out.p HWB.out.f;obtain⟨r0,r1,rf,rl⟩:=HWB.out.r1;obtain⟨k0',k1',kf',kl'⟩:=HWB.out.r2;have le3:w.heap.size≤w.heap.size+1+1+1+1:=by omega
   have le4:w.heap.size≤w.heap.size+1+1+1+1+1:=by omega
   refine Reg.begin' (W:=fun i=>i != 3) (S:=fun W=>FX w.heap.size (.int .i64 an') (.int .i64 d') W∧FX (w.heap.size+1+1+1+1+1+1) (.int .i64 0) (.int .i64 0) W) (by kernel_rfl) ?_;refine Z83 ?_;go_simp;refine⟨by first|exact⟨((hS0.1.other (by omega) _).other (by omega) _).gr (Gr.refl _).drew,((hS0.2.other (by omega) _).other (by omega) _).gr (Gr.refl _).drew⟩|exact fun _=>⟨((hS0.1.other (by omega) _).other (by omega) _).gr (Gr.refl _).drew,((hS0.2.other (by omega) _).other (by omega) _).gr (Gr.refl _).drew⟩|exact fun _ _=>⟨((hS0.1.other (by omega) _).other (by omega) _).gr (Gr.refl _).drew,((hS0.2.other (by omega) _).other (by omega) _).gr (Gr.refl _).drew⟩,?_⟩;refine Reg.pt ?_;refine Z189 ?_;refine Z2 ?_;refine Z12 ?_;go_wp2_with fail;have hXF:=fx2s ⟨r0,r1,rf,rl⟩ ⟨k0',k1',kf',kl'⟩ (by omega) HST.out le3 le4 (.int .i64 an') (.int .i64 d') (.int .i64 0) (.int .i64 0);obtain⟨WF,hWF⟩:∃W',((((wr.setCell ⟨w.heap.size+1+1+1+1,0,none⟩ (.int .i64 an')).setCell ⟨w.heap.size+1+1+1+1,1,none⟩ (.int .i64 d')).setCell ⟨w.heap.size+1+1+1+1+1,0,none⟩ (.int .i64 0)).setCell ⟨w.heap.size+1+1+1+1+1,1,none⟩ (.int .i64 0))=W':=⟨_,rfl⟩
   rw[hWF]at hXF;rw[hWF];clear hWF;obtain⟨hF3,hF4,sF,bF,zF⟩:=hXF;obtain⟨q0,q1,qf,ql⟩:=hF3.gr (Gr.refl WF).drew;obtain⟨y0,y1,yf,yl⟩:=hF4.gr (Gr.refl WF).drew;have hnz:∀k,own' k≠0→k≠w.heap.size+1+1+1+1∧k≠w.heap.size+1+1+1+1+1:=fun k hk=>by
    rcases HOWN.out k hk with h|h
    · have:=(H.out.v.lt k h).2;omega
    omega
   have GVF:=(HGM.out.v.kept (w':=WF) (fun k hk=>bF k (hnz k hk).1 (hnz k hk).2) zF).drew;have hYe:Y = .ok (an',d',g'):=by rw[←HWG.out];rfl
   rw[hYe];refine bodyPost_ret (v := .tuple #[.agg #[.int .i64 an',.int .i64 d'],f0]) (by simp[results,Tryz.results60,go_sem,q0,q1,qf,ql,y0,y1,yf,yl]) rfl ⟨rfl,nv',L',own',⟨GVF,HGM.out.nd,HGM.out.sec,HGM.out.dep,HGM.out.many⟩,sF.drew,fun k hk=>?_⟩;rcases HOWN.out k hk with h|h
   · exact .inl h
   exact J38
  | cons kw rest' =>
   obtain⟨wt,a,b⟩:=kw;have i0:decide (j<la)=true:=by simp at hlk;simp;omega
   have hjw:ws[j]?=some (wt,a,b):=by
    have h1:ws.dropLast[j]?=some (wt,a,b):=by rw[HKS.out,←HDJ.out];simp
    rw[List.getElem?_dropLast]at h1
    split at h1
    · exact h1
    cases h1
   obtain⟨y1,y2,y3⟩:=HKC.out.w j wt a b hjw;obtain⟨p0,p1,pf,pl⟩:=hwb.p;have HJW:=Lib.hid hjw;have HLK:=Lib.hid hlk;clear hwb hjw hlk
   go_upto_region 6 with fail
   obtain⟨WA,hWA⟩:∃W',wr.alloc (.cells #[.int .i64 an',.int .i64 d'] 60)=W':=⟨_,rfl⟩
   obtain⟨hfr,gA,zA⟩:=bx2 wr (.int .i64 an') (.int .i64 d') 60;rw[hWA]at hfr gA zA;rw[hWA];have gD:Gr wr WA.drew:=gA.drew;have hS:WayS w.heap.size gk gs ws.length ck cs j (strV wt) a b an' d' t WA.drew :=
    ⟨HWB.out.p.gr gD,(HKC.out.gr gD).k0,(HKC.out.gr gD).k1,((HKC.out.gr gD).w j wt a b HJW.out).1,((HKC.out.gr gD).w j wt a b HJW.out).2.1,((HKC.out.gr gD).w j wt a b HJW.out).2.2,HWB.out.s.gr gD⟩
   have HGD:=Lib.hid gD;have HFR:=Lib.hid (hfr.gr (Gr.refl WA).drew);have hgk':gk<WA.heap.size:=Nat.lt_of_lt_of_le HKC.out.gkl gA.size;have hgs':gs<WA.heap.size:=Nat.lt_of_lt_of_le HKC.out.gsl gA.size;clear hWA hfr gA gD y1 y2 y3 p0 p1 pf pl k0 k1 kf kl;refine Reg.begin' (W:=fun i=>i != 14 && i != 18 && i != 19) (S:=WayS w.heap.size gk gs ws.length ck cs j (strV wt) a b an' d' t) (by kernel_rfl) ?_;refine Reg.ty 0 ?_;refine Reg.tl 1 hS ?_ (hy:=by intro w hSw;obtain⟨⟨s0,s1,s2,s3⟩,s4,s5,s6,s7,s8,⟨s9,s10,s11,s12⟩⟩:=hSw;go_simp;try with_reducible rfl);refine Reg.ty 2 ?_;refine Reg.tl 3 hS ?_ (hy:=by intro w hSw;obtain⟨⟨s0,s1,s2,s3⟩,s4,s5,s6,s7,s8,⟨s9,s10,s11,s12⟩⟩:=hSw;go_simp;try with_reducible rfl);refine Z92 ?_;refine Reg.tl 6 hS ?_ (hy:=by intro w hSw;obtain⟨⟨s0,s1,s2,s3⟩,s4,s5,s6,s7,s8,⟨s9,s10,s11,s12⟩⟩:=hSw;go_simp;try with_reducible rfl);refine Reg.ty 7 ?_;refine Reg.tl 8 hS ?_ (hy:=by intro w hSw;obtain⟨⟨s0,s1,s2,s3⟩,s4,s5,s6,s7,s8,⟨s9,s10,s11,s12⟩⟩:=hSw;go_simp;try with_reducible rfl);refine Reg.ty 9 ?_;refine Reg.ty 10 ?_;refine Reg.tl 11 hS ?_ (hy:=by intro w hSw;obtain⟨⟨s0,s1,s2,s3⟩,s4,s5,s6,s7,s8,⟨s9,s10,s11,s12⟩⟩:=hSw;go_simp;try with_reducible rfl);refine Reg.tl 12 hS ?_ (hy:=by intro w hSw;obtain⟨⟨s0,s1,s2,s3⟩,s4,s5,s6,s7,s8,⟨s9,s10,s11,s12⟩⟩:=hSw;go_simp;try with_reducible rfl);refine Reg.ty 13 ?_;refine Reg.on 14 ?_;go_simp;have hWG:=HWG.out;unfold Pl.wayG at hWG;obtain⟨X',hX'⟩:∃X',Pl.stepG g' an' d' wt a b t (over g' d')=X':=⟨_,rfl⟩
   rw[hX']at hWG;have hXn:X' ≠ .non:=fun e=>by rw[e]at hWG;exact hne hWG.symm
   have hbt:bs (⟨wt.toArray⟩:ByteArray)=wt:=by simp[bs]
   have hjl:j≤30000000:=by have:=HLK.out;omega
   have hSTEP:=gr_step 88 (fun _ _=>rfl) (.pointer (some ⟨w.heap.size+1+1+1,0,none⟩)) (.pointer (some ⟨wr.heap.size,0,none⟩)) (over g' d') WA.drew R B base s nv' L' own' x g' (HGM.out.gr HGD.out)
    (fun W2 q2 i hi hov=>gr_way1 fo hent (over g' d' i) hov W2 R (w.heap.size+1+1+1) wr.heap.size an' d' i ((q2.use.1 _ _ (HWB.out.gr HGD.out).ol).trans (HWB.out.gr HGD.out).o) (Nat.lt_of_lt_of_le (HWB.out.gr HGD.out).ol q2.size) (HFR.out.gr q2)
     (fun W3 q3=>HOV.out W3 nv' L' own' g' (HGM.out.gr (HGD.out.trans (q2.trans q3))) (by omega) an' d' i hi (by omega) hov))
    an' d' ⟨wt.toArray⟩ a b t hLL hm (by omega) X' (by rw[hbt];exact hX') hXn
   refine hSTEP.mono ?_;cases X' with
   | non=>exact absurd rfl hXn
   | bad c q =>
    rintro e w3 ⟨⟨n2,d2,he⟩,hc0,own2,hst2,hs2,hon2⟩;subst he;have hnF:∀k,w.heap.size≤k→k≤w.heap.size+1+1+1+1+1+1→¬FV own' k:=fun k h1 h2 e=>by
     rcases HOWN.out k e with h|h
     · have:=(H.out.v.lt k h).2;omega
     omega
    have hgk1:¬FV own' gk:=fun e=>by
     rcases HOWN.out gk e with h|h
     · exact h hk0
     omega
    have hgs1:¬FV own' gs:=fun e=>by
     rcases HOWN.out gs e with h|h
     · exact h hs0
     omega
    refine Z262 ?_;intro hb3 hkc3 p0 p1 pf pl v0 v1 vf vl;refine Z190 ?_;refine Z2 ?_;refine Z175 ?_;refine Z2 ?_;refine Z12 ?_;have hXF:=fx2s hb3.p hb3.f (by omega) (HST.out.trans ((HGD.out.st).trans hst2)) (Nat.le_refl _) (by omega) (.int .i64 n2) (.int .i64 d2) (.int .i64 c) (.int .i64 q);obtain⟨W4,hW4⟩:∃W',((((w3.setCell ⟨w.heap.size,0,none⟩ (.int .i64 n2)).setCell ⟨w.heap.size,1,none⟩ (.int .i64 d2)).setCell ⟨w.heap.size+1+1+1+1+1+1,0,none⟩ (.int .i64 c)).setCell ⟨w.heap.size+1+1+1+1+1+1,1,none⟩ (.int .i64 q))=W':=⟨_,rfl⟩
    rw[hW4]at hXF;rw[hW4];clear hW4;obtain⟨hP4,hF4,sF4,bF4,zF4⟩:=hXF;have HB3:=Lib.hid hb3;have HP4:=Lib.hid hP4;have HF4:=Lib.hid hF4;have HS4:=Lib.hid sF4;have HH4:=Lib.hid bF4;have HKC3:=Lib.hid hkc3;obtain⟨f0',f1',ff',fl'⟩:=hF4;clear hb3 hP4 sF4 bF4 hkc3 p0 p1 pf pl v0 v1 vf vl hnF;go_wp2_with fail;refine (tt_fine_no c q (by omega) W4).mono ?_;rintro e w5 ⟨rfl,g5⟩;have hF5:=HF4.out.gr g5;have hr1:=(HB3.out.r1.of_block (HH4.out _ (by omega) (by omega)) zF4).gr g5;have hr2:=(HB3.out.r2.of_block (HH4.out _ (by omega) (by omega)) zF4).gr g5;have hst5:=HS4.out.gr g5;have hS5:FX (w.heap.size+1+1+1+1+1+1) (.int .i64 c) (.int .i64 q) w5.drew:=hF5.gr (Gr.refl w5).drew
    go_upto_region 8 with fail
    obtain⟨r0,r1,rf,rl⟩:=id hr1;obtain⟨k0',k1',kf',kl'⟩:=id hr2;refine Reg.begin' (W:=fun _=>true) (S:=FX (w.heap.size+1+1+1+1+1+1) (.int .i64 c) (.int .i64 q)) (by kernel_rfl) ?_;refine Reg.ty 0 ?_;refine Reg.tl 1 hS5 ?_ (hy:=by intro w hSw;obtain⟨s0,s1,sf,sl⟩:=hSw;go_simp;try with_reducible rfl);refine Reg.on 2 ?_;go_simp;refine⟨by first|exact ((hF5.other (by omega) _).other (by omega) _).gr (Gr.refl _).drew|exact fun _=>((hF5.other (by omega) _).other (by omega) _).gr (Gr.refl _).drew|exact fun _ _=>((hF5.other (by omega) _).other (by omega) _).gr (Gr.refl _).drew,?_⟩;refine Reg.pt ?_;refine Z189 ?_;refine⟨by first|exact ((((hF5.other (by omega) _).other (by omega) _).other (by omega) _).other (by omega) _).gr (Gr.refl _).drew|exact fun _=>((((hF5.other (by omega) _).other (by omega) _).other (by omega) _).other (by omega) _).gr (Gr.refl _).drew|exact fun _ _=>((((hF5.other (by omega) _).other (by omega) _).other (by omega) _).other (by omega) _).gr (Gr.refl _).drew,?_⟩;refine Reg.pt ?_;refine Z12 ?_;go_wp2_with fail;have hXF:=fx2s hr1 hr2 (by omega) hst5 (by omega) (by omega) (.int .i64 0) (.int .i64 0) (.int .i64 c) (.int .i64 q);obtain⟨WF,hWF⟩:∃W',((((w5.setCell ⟨w.heap.size+1+1+1+1,0,none⟩ (.int .i64 0)).setCell ⟨w.heap.size+1+1+1+1,1,none⟩ (.int .i64 0)).setCell ⟨w.heap.size+1+1+1+1+1,0,none⟩ (.int .i64 c)).setCell ⟨w.heap.size+1+1+1+1+1,1,none⟩ (.int .i64 q))=W':=⟨_,rfl⟩
    rw[hWF]at hXF;rw[hWF];clear hWF;obtain⟨hFa,hFb,sF,bF,zF⟩:=hXF;refine Z254 ?_;intro q0 q1 qf ql y0 y1 yf yl;have hR:=H.out.v.R_lt;have hR3:R<w3.heap.size:=Nat.lt_of_lt_of_le hR.2 (Nat.le_trans (Nat.le_trans (Nat.le_trans (by omega) HZ0.out) HGD.out.size) hst2.size);have hRc:WF.drew.cell? ⟨R,2,none⟩=some (.string s):=by
     have e1:WF.cell? ⟨R,2,none⟩=w5.cell? ⟨R,2,none⟩:=World.cell?_of_block (w:=w5) (a:=⟨R,2,none⟩) (bF R (by omega) (by omega));have e2:w5.cell? ⟨R,2,none⟩=W4.cell? ⟨R,2,none⟩:=g5.use.1 _ _ (Nat.lt_of_lt_of_le hR3 zF4);have e3:W4.cell? ⟨R,2,none⟩=w3.cell? ⟨R,2,none⟩:=World.cell?_of_block (w:=w3) (a:=⟨R,2,none⟩) (HH4.out R (by omega) (by omega));exact e1.trans (e2.trans (e3.trans hs2))
    rw[←hWG];refine bodyPost_ret (v := .tuple #[.agg #[.int .i64 0,.int .i64 0],fv c q]) (by simp[results,Tryz.results60,go_sem,q0,q1,qf,ql,y0,y1,yf,yl]) rfl ⟨⟨0,0,rfl⟩,hc0,own2,sF.drew,hRc,fun k hk=>?_⟩;have hwz:w.heap.size+1+1+1+1+1+1+1≤WA.drew.heap.size:=Nat.le_trans HZ0.out HGD.out.size;rcases hon2 k hk with h|h
    · rcases HOWN.out k h with h|h
      · exact .inl h
      exact J38
    exact J38
   | ok r2 =>
    obtain⟨n2,d2,g2⟩:=r2;rintro e w3 ⟨he,nv2,L2,own2,hgm2,hst2,hon2⟩;subst he;have hnF:∀k,w.heap.size≤k→k≤w.heap.size+1+1+1+1+1+1→¬FV own' k:=fun k h1 h2 e=>by
     rcases HOWN.out k e with h|h
     · have:=(H.out.v.lt k h).2;omega
     omega
    have hgk1:¬FV own' gk:=fun e=>by
     rcases HOWN.out gk e with h|h
     · exact h hk0
     omega
    have hgs1:¬FV own' gs:=fun e=>by
     rcases HOWN.out gs e with h|h
     · exact h hs0
     omega
    refine Z262 ?_;intro hb3 hkc3 p0 p1 pf pl v0 v1 vf vl;refine Z190 ?_;refine Z2 ?_;refine Z175 ?_;refine Z2 ?_;refine Z12 ?_;have hXF:=fx2s hb3.p hb3.f (by omega) (HST.out.trans ((HGD.out.st).trans hst2)) (Nat.le_refl _) (by omega) (.int .i64 n2) (.int .i64 d2) (.int .i64 0) (.int .i64 0);obtain⟨W4,hW4⟩:∃W',((((w3.setCell ⟨w.heap.size,0,none⟩ (.int .i64 n2)).setCell ⟨w.heap.size,1,none⟩ (.int .i64 d2)).setCell ⟨w.heap.size+1+1+1+1+1+1,0,none⟩ (.int .i64 0)).setCell ⟨w.heap.size+1+1+1+1+1+1,1,none⟩ (.int .i64 0))=W':=⟨_,rfl⟩
    rw[hW4]at hXF;rw[hW4];clear hW4;obtain⟨hP4,hF4,sF4,bF4,zF4⟩:=hXF;have HB3:=Lib.hid hb3;have HP4:=Lib.hid hP4;have HF4:=Lib.hid hF4;have HS4:=Lib.hid sF4;have HH4:=Lib.hid bF4;have HKC3:=Lib.hid hkc3;obtain⟨f0',f1',ff',fl'⟩:=hF4;clear hb3 hP4 sF4 bF4 hkc3 p0 p1 pf pl v0 v1 vf vl hnF;go_wp2_with fail;refine (tt_fine_yes W4).mono ?_;rintro e w5 ⟨rfl,g5⟩;go_wp2_with fail
    go_roundw
    case rel =>
     have hso:=stepG_ok hX' (fun i n' d'' e=>hd2 g' d' i n' d'' e) (by rw[←HGM.out.nd,List.length_map];exact hLL);have hwz:w.heap.size+1+1+1+1+1+1+1≤WA.drew.heap.size:=Nat.le_trans HZ0.out HGD.out.size;have hnz:∀k,own2 k≠0→k≠w.heap.size∧k≠w.heap.size+1+1+1+1+1+1∧(own k≠0∨w.heap.size+1+1+1+1+1+1+1≤k):=fun k hk=>by
      rcases hon2 k hk with h|h
      · rcases HOWN.out k h with h|h
        · have:=(H.out.v.lt k h).2;exact⟨by omega,by omega,.inl h⟩
        exact⟨by omega,by omega,.inr h⟩
      exact⟨by omega,by omega,.inr (by omega)⟩
     have GV4:=(hgm2.v.kept (w':=W4) (fun k hk=>HH4.out k (hnz k hk).1 (hnz k hk).2.1) zF4).gr g5;refine⟨done++[(wt,a,b)],rest',j+1,n2,d2,nv2,L2,own2,g2,by simp,by simp[HDJ.out],by rw[HKS.out];simp,by omega,⟨GV4,hgm2.nd,hgm2.sec,hgm2.dep,hgm2.many⟩,?_,hWG,
      (HKC3.out.stored HH4.out zF4 HF4.out ⟨by omega,by omega⟩ (by omega) (by omega)).gr g5,(HB3.out.stored HH4.out zF4 HP4.out HF4.out).gr g5,HS4.out.gr g5,fun k hk=>(hnz k hk).2.2,?_⟩
     · have:=hso.1;rw[←hgm2.nd,List.length_map]at this;exact this
     have:=hst2.size;have:=g5.size;omega
    case measure =>
     have:=HLK.out;have:=HLA.out;simp[intOf];omega
end Go.Proofs.YtfogfaagjpebcaaGreatDoor
namespace Go.Proofs.YtfogfaagjpebcaaGreatDoor
open Go.RowKit Go.Shelf Go.Joins
attribute [local go_sem] Oper.semAt_some
theorem ledG_d {g:Pl.Gst} {d i n d':Nat} (h:Pl.ledG g d i = .go n d'):d'≤d+2:=by
 unfold Pl.ledG at h
 split at h
 · cases h
 split at h
 · split at h
   · split at h
     · cases h;exact Nat.le_refl _
     cases h
   cases h
 exact J36
theorem innerG_d {g:Pl.Gst} {d i n d':Nat} (h:Pl.innerG g d i = .go n d'):d'≤d+2:=by
 unfold Pl.innerG at h
 split at h
 · exact J36
 cases h
structure Tab1S (R B bf bg i d sh sof:Nat) (w:World):Prop where
 p1:w.cell? ⟨bf,1,none⟩=some (.int .i64 d)
 pg:w.cell? ⟨bg,0,none⟩=some (.pointer (some ⟨R,0,none⟩))
 c3:w.cell? ⟨R,3,none⟩=some (.map (some B))
 lk:(Instr.lookup 58 (.map (some B)) (.int .i64 i) false).run Tryz.prog w = .ok (.agg #[.int .u8 sh,.int .i64 sof]) w
set_option maxRecDepth 100000 in
theorem gr_tab1 (w:World) (R B base:Nat) (s:ByteArray) (nv:Value) (L:List NdR) (own:Nat→Nat) (x:GrX) (g:Pl.Gst) (h:GM w R B base s nv L own x g) (bf bg:Nat) (an d i:Nat) (hi:i<L.length) (hL:L.length≤30000000) (hd:d≤1000000000)
    (hF:FX bf (.int .i64 an) (.int .i64 d) w) (hg:w.cell? ⟨bg,0,none⟩=some (.pointer (some ⟨R,0,none⟩))) (hgl:bg<w.heap.size) :
    Calls Tryz.prog 65 #[.int .i64 i,.pointer (some ⟨bf,0,none⟩),.pointer (some ⟨bg,0,none⟩)] w fun e w'=>OvPost (if (Pl.sortOf g i).1=2 then .go i (d+1) else .no) e∧Gr w w':=by
 refine Z119 ?_;intro c0 c1 c2 c3 c4 c5 c6 c7 c8 fz hR sh sof hso hs HLK;have HS:=Lib.hid hs;obtain⟨X,hX⟩:∃X,(if (Pl.sortOf g i).1=2 then Pl.Ov.go i (d+1) else .no)=X:=⟨_,rfl⟩
 rw[hX];have HX:=Lib.hid hX;clear hX;clear h hs hso fz c0 c1 c2 c4 c5 c6 c7 c8;refine Z153 ?_;intro wd1;go_enter Tryz.func65,Tryz.ntmps65
 go_upto_region 1 with fail
 obtain⟨W,hW⟩:∃W,w.alloc (.cells #[.int .i64 0,.int .i64 0] 60)=W:=⟨_,rfl⟩
 have gW:Gr w W:=by rw[←hW];exact (Gr.refl w).alloc _
 have hB1:FX w.heap.size (.int .i64 0) (.int .i64 0) W:=by rw[←hW];exact FX.new w _ _ _
 have hS:Tab1S R B bf bg i d sh sof W.drew :=
  ⟨(gW.drew.use.1 bf 1 hF.2.2.2).trans hF.2.1,(gW.drew.use.1 bg 0 hgl).trans hg,(gW.drew.use.1 R 3 hR.2).trans c3,HLK.out W.drew gW.drew⟩
 obtain⟨r0,r1,rf,rl⟩:=hB1;have HG:=Lib.hid gW
 try rw[hW]
 clear hW gW;obtain⟨WF,hWF⟩:∃W',((W.setCell ⟨w.heap.size,0,none⟩ (.int .i64 i)).setCell ⟨w.heap.size,1,none⟩ (.int .i64 ((d:Int)+1)))=W':=⟨_,rfl⟩
 have hF2:FX w.heap.size (.int .i64 i) (.int .i64 ((d:Int)+1)) WF:=by rw[←hWF];exact FX.set ⟨r0,r1,rf,rl⟩ _ _
 have gF:Gr w WF:=by rw[←hWF];exact (HG.out.setCell (p:=⟨w.heap.size,0,none⟩) (Nat.le_refl _) _).setCell (p:=⟨w.heap.size,1,none⟩) (Nat.le_refl _) _
 have hS2:Tab1S R B bf bg i d sh sof WF.drew :=
  ⟨(gF.drew.use.1 bf 1 hF.2.2.2).trans hF.2.1,(gF.drew.use.1 bg 0 hgl).trans hg,(gF.drew.use.1 R 3 hR.2).trans c3,HLK.out WF.drew gF.drew⟩
 have HF:=Lib.hid hF2;have HGF:=Lib.hid gF;have HS2:=Lib.hid hS2;have HWF:=Lib.hid hWF;have hRl:R<W.heap.size:=Nat.lt_of_lt_of_le hR.2 HG.out.size;clear c3 hF hF2 gF hS2 hWF hg;have hfld:∀W,(Instr.field 86 (.agg #[.int .u8 sh,.int .i64 sof]) 0).run Tryz.prog W = .ok (.int .u8 sh) W:=fun W=>by kernel_rfl
 have hcase:((sh:Int)==2)=true∨((sh:Int)==2)=false:=by cases ((sh:Int)==2) <;> simp
 rcases hcase with e1|e1
 all_goals
  refine Reg.begin' (W:=fun _=>true) (S:=Tab1S R B bf bg i d sh sof) (by kernel_rfl) ?_;refine Z317 ?_;refine Reg.tl 5 hS ?_ (hy:=by intro w hSw;obtain⟨s1,s2,s3,s4⟩:=hSw;go_simp;try with_reducible rfl);refine Z143 ?_;refine Reg.on 13 ?_;go_simp;rw[HWF.out];refine⟨by first|exact HS2.out|exact fun _=>HS2.out|exact fun _ _=>HS2.out,?_⟩;refine Reg.pt ?_;refine Reg.ty 14 ?_;refine Z12 ?_;go_wp2_with fail;obtain⟨q0,q1,qf,ql⟩:=HF.out.gr (Gr.refl WF).drew;have gE:=HGF.out.drew
 · have h2:(Pl.sortOf g i).1=2:=by rw[HS.out];have h:=eq_of_beq e1;show sh=2;omega
   have hX:=HX.out;rw[if_pos h2]at hX;rw[←hX];exact bodyPost_ret (v := .tuple #[.agg #[.int .i64 i,.int .i64 ((d:Int)+1)],.bool true]) (by simp[results,Tryz.results65,go_sem,q0,q1,qf,ql]) rfl ⟨by simp[OvPost],gE⟩
 have h2:¬(Pl.sortOf g i).1=2:=by rw[HS.out];intro h;have h:sh=2:=h;subst h;simp at e1
 have hX:=HX.out;rw[if_neg h2]at hX;rw[←hX];exact bodyPost_ret (v := .tuple #[.agg #[.int .i64 i,.int .i64 ((d:Int)+1)],.bool false]) (by simp[results,Tryz.results65,go_sem,q0,q1,qf,ql]) rfl ⟨⟨_,_,rfl⟩,gE⟩
set_option maxRecDepth 100000 in
theorem gr_way_led (w:World) (R B base:Nat) (s:ByteArray) (nv:Value) (L:List NdR) (own:Nat→Nat) (x:GrX) (g:Pl.Gst) (h:GM w R B base s nv L own x g)
    (an d:Nat) (t:Nat × Nat) (hL:L.length≤20000001) (hm:x.many≤30000000) (hd:d≤100000000) (gk gs ck cs:Nat) (ws:List Pl.KW) (la:Nat) (hla:ws.length=la+1) (hl2:la≤30000000)
    (hgk:gk<w.heap.size) (hgs:gs<w.heap.size) (hk0:own gk=0) (hs0:own gs=0)
    (hrows:∀(j:Nat) (t:Pl.Bs) (a b:Nat),ws[j]?=some (t,a,b)→w.cell? ⟨gk,j,none⟩=some (strV t)∧w.cell? ⟨gs,j*2,none⟩=some (.int .i64 a)∧w.cell? ⟨gs,j*2+1,none⟩=some (.int .i64 b))
    (Y:Pl.Res (Nat × Nat × Pl.Gst)) (hY:Pl.wayG t Pl.ledG ws.dropLast an d g=Y) (hne:Y ≠ .non) :
    Calls Tryz.prog 60 #[.pointer (some ⟨R,0,none⟩),.agg #[.int .i64 an,.int .i64 d],.agg #[.slice (some ⟨gk,0,none⟩) ws.length ck,.slice (some ⟨gs,0,none⟩) ws.length cs],.agg #[.int .u8 t.1,.int .i64 t.2],.func (.func 61) #[.pointer (some ⟨R,0,none⟩)] #[]] w (StepG w R B base s own x Y) :=
 gr_way 61 (fun _ _=>rfl) Pl.ledG (fun _ _ _ _ _ e=>ledG_d e) w R B base s nv L own x g h
  (fun W nv' L' own' g' hg' hl' an d i hi hd hov=>gr_led W R B base s nv' L' own' x g' hg' an d i hi hl' hd _ rfl hov) an d t hL hm hd gk gs ck cs ws la hla hl2 hgk hgs hk0 hs0 hrows Y hY hne
set_option maxRecDepth 100000 in
theorem gr_way_inner (w:World) (R B base:Nat) (s:ByteArray) (nv:Value) (L:List NdR) (own:Nat→Nat) (x:GrX) (g:Pl.Gst) (h:GM w R B base s nv L own x g)
    (an d:Nat) (t:Nat × Nat) (hL:L.length≤20000001) (hm:x.many≤30000000) (hd:d≤100000000) (gk gs ck cs:Nat) (ws:List Pl.KW) (la:Nat) (hla:ws.length=la+1) (hl2:la≤30000000)
    (hgk:gk<w.heap.size) (hgs:gs<w.heap.size) (hk0:own gk=0) (hs0:own gs=0)
    (hrows:∀(j:Nat) (t:Pl.Bs) (a b:Nat),ws[j]?=some (t,a,b)→w.cell? ⟨gk,j,none⟩=some (strV t)∧w.cell? ⟨gs,j*2,none⟩=some (.int .i64 a)∧w.cell? ⟨gs,j*2+1,none⟩=some (.int .i64 b))
    (Y:Pl.Res (Nat × Nat × Pl.Gst)) (hY:Pl.wayG t Pl.innerG ws.dropLast an d g=Y) (hne:Y ≠ .non) :
    Calls Tryz.prog 60 #[.pointer (some ⟨R,0,none⟩),.agg #[.int .i64 an,.int .i64 d],.agg #[.slice (some ⟨gk,0,none⟩) ws.length ck,.slice (some ⟨gs,0,none⟩) ws.length cs],.agg #[.int .u8 t.1,.int .i64 t.2],.func (.func 66) #[.pointer (some ⟨R,0,none⟩)] #[]] w (StepG w R B base s own x Y) :=
 gr_way 66 (fun _ _=>rfl) Pl.innerG (fun _ _ _ _ _ e=>innerG_d e) w R B base s nv L own x g h
  (fun W nv' L' own' g' hg' hl' an d i hi hd hov=>gr_inner W R B base s nv' L' own' x g' hg' an d i hi hl' hd) an d t hL hm hd gk gs ck cs ws la hla hl2 hgk hgs hk0 hs0 hrows Y hY hne
end Go.Proofs.YtfogfaagjpebcaaGreatDoor
