/-
 Short forms of steps and of ends of walks that come again and again: what they run stands as each one's default argument.
-/
import Derived.WalkKit
import Derived.WalkSpells
import Derived.WalkLawsBesides
import Derived.Deep.QuietTactic
import Derived.BigQuiet
import Derived.OrdersHeld
import Derived.Deep.RegionHeld3
import Derived.OwnWalkIn
import Derived.TacticsInMore
import Derived.LoopNIn
import Derived.LoopIn
import Derived.Deep.AppendLies
import Derived.Deep.RegionLaw
import Derived.OwnWalk
import Derived.BigCall
import Derived.BigGuard
import Derived.StillTailTactics
import Derived.Deep.DeepCutAuto
import Derived.Deep.RegionWith
import Derived.WalkMore
import Derived.Deep.LoopGhost
set_option linter.all false
namespace Go.Proofs.YtfogfaagjpebcaaGreatDoor
variable {P Q:Prop}
structure Kq (Q:Prop):Prop where
 out:Q

theorem Z1(k:Q) (h:Kq Q→P:=by
 intro zz;refine wp_append_lies _ (.tmp 38) (.tmp 40) 51 (by rfl) base 3 iU _ 1 8 Tryz.underlying51 HIU.out.1 HIU.out.2.1 HIU.out.2.2.1 HIU.out.2.2.2 (by rfl) (by decide) r.uv r.nd.subs.length (subsV r.nd.subs) (by rfl) HR5.out.u _ 1 1 [.int .i64 n] (by rfl) (by rfl) (World.news_of_block NBU5.out.blk) (by simp[Value.oneCell']) (by decide) (by unfold maxLen;omega) (by omega) (Nat.le_trans hbase HR5.out.size) _ rfl ?_;intro gU capU V6 ho hg ha hz;have HR6:=Lib.hid (HR5.out.appU ho hg ha);have NBT6:=Lib.hid (NBT5.out.appU (n:=r.nd.subs.length+1) (cap:=capU) hg ha);clear ho hg ha hz;have hS6:=putS_of HR6.out NBT6.out HC.out;refine⟨fun _ _=>hS6,?_⟩;refine Reg.pt ?_;refine Reg.ty 24 ?_;refine Reg.ty 25 ?_;obtain⟨hcg2,hcg3,hcg4,hfg⟩:=putF_of HR6.out HC.out;refine Reg.on 26 ?_;go_simp;refine Z2 ?_;refine Reg.ty 27 ?_;refine Reg.ty 28 ?_;refine Reg.on 29 ?_;go_simp;refine Z2 ?_;refine Reg.ty 30 ?_;refine Reg.ty 31 ?_;refine Reg.on 32 ?_;go_simp;refine Z2 ?_;refine Reg.done (by kernel_rfl) ?_ _;revert gU capU V6 HR6 NBT6 hS6 hcg2 hcg3 hcg4 hfg;exact zz.out):P:=h ⟨k⟩

theorem Z2(k:Q) (h:Kq Q→P:=by
 intro zz
 try simp only[Act.put,List.setIfInBounds_toArray,List.set_cons_zero,List.set_cons_succ]
 exact zz.out):P:=h ⟨k⟩

theorem Z3(k:Q) (h:Kq Q→P:=by
 intro zz;refine wp_append_lies _ (.tmp 31) (.tmp 33) 75 (by rfl) base 73 iS _ 2 16 Tryz.underlying75 HIS.out.1 HIS.out.2.1 HIS.out.2.2.1 HIS.out.2.2.2 (by rfl) (by decide) r.sv r.nd.spots.length (spotsV r.nd.spots) (by rfl) HR4.out.s _ 1 1 [.int .i64 a,.int .i64 b] (by rfl) (by rfl) (World.news_of_block NBS4.out.blk) (by simp[Value.oneCell']) (by decide) (by unfold maxLen;omega) (by omega) (Nat.le_trans hbase HR4.out.size) _ rfl ?_;intro gS capS V5 ho hg ha hz;have HR5:=Lib.hid (HR4.out.appS ho hg ha);have NBT5:=Lib.hid (NBT4.out.appS (n:=r.nd.spots.length+1) (cap:=capS) hg ha);have NBU5:=Lib.hid (NBU4.out.appS (n:=r.nd.spots.length+1) (cap:=capS) hg ha);clear ho hg ha hz;have hS5:=putS_of HR5.out NBT5.out HC.out;refine⟨fun _ _=>hS5,?_⟩;refine Reg.pt ?_;refine Reg.on 23 ?_;revert gS capS V5 HR5 NBT5 NBU5 hS5;exact zz.out):P:=h ⟨k⟩

theorem Z4(k:Q) (h:Kq Q→P:=by
 intro zz;refine Reg.tl 0 hS3 ?_ (hy:=by intro w hSw;obtain⟨⟨s0,s1,s2,s3⟩,⟨s4,s5,s6,s7⟩,⟨s8,s9,s10,s11⟩⟩:=hSw;go_simp;try with_reducible rfl);refine Reg.tl 1 hS3 ?_ (hy:=by intro w hSw;obtain⟨⟨s0,s1,s2,s3⟩,⟨s4,s5,s6,s7⟩,⟨s8,s9,s10,s11⟩⟩:=hSw;go_simp;try with_reducible rfl);refine Reg.tl 2 hS3 ?_ (hy:=by intro w hSw;obtain⟨⟨s0,s1,s2,s3⟩,⟨s4,s5,s6,s7⟩,⟨s8,s9,s10,s11⟩⟩:=hSw;go_simp;try with_reducible rfl);refine Reg.on 3 ?_;go_simp;rw[setCell_self hB3.i.1,setCell_self hB3.i.2.1];refine Z16 ?_;refine Reg.on 4 ?_;go_simp;rw[setCell_self hB3.t.1,setCell_self hB3.t.2.1];refine Z16 ?_;refine Reg.on 5 ?_;go_simp;rw[setCell_self hB3.f.1,setCell_self hB3.f.2.1];refine Z16 ?_;refine Reg.done (by kernel_rfl) ?_ _;exact zz.out):P:=h ⟨k⟩

theorem Z5(k:Q) (h:Kq Q→P:=by
 intro zz;refine Reg.ty 3 ?_;refine Reg.ty 4 ?_;refine Z306 ?_;intro w4 g4 hS4;refine⟨by first|exact hS4|exact fun _=>hS4|exact fun _ _=>hS4,?_⟩;refine Reg.pt ?_;refine Reg.ty 7 ?_;refine Z308 ?_;refine Reg.ty 10 ?_;refine Reg.ty 11 ?_;refine Reg.ty 12 ?_;refine Reg.ty 13 ?_;revert w4 g4 hS4;exact zz.out):P:=h ⟨k⟩

theorem Z6(k:Q) (h:Kq Q→P:=by
 intro zz;refine Reg.one (i:=9) rfl (by rfl) ?_;refine wp_append_lies _ (.tmp 24) (.tmp 26) 74 (by rfl) base 9 iK _ 1 16 Tryz.underlying74 HIK.out.1 HIK.out.2.1 HIK.out.2.2.1 HIK.out.2.2.2 (by rfl) (by decide) r.kv r.nd.keys.length (keysV r.nd.keys) (by rfl) HR2.out.k _ 1 1 [.string key] (by rfl) (by rfl) (World.news_of_block NBK2.out.blk) (by simp[Value.oneCell']) (by decide) (by unfold maxLen;omega) (by omega) (Nat.le_trans hbase HR2.out.size) _ rfl ?_;intro gK capK V3 ho hg ha hz;have HR3:=Lib.hid (HR2.out.appK ho hg ha);have NBT3:=Lib.hid (NBT2.out.appK (n:=r.nd.keys.length+1) (cap:=capK) hg ha);revert gK capK V3 ho hg ha hz HR3 NBT3;exact zz.out):P:=h ⟨k⟩

theorem Z7(k:Q) (h:Kq Q→P:=by
 intro zz;go_simp;refine⟨by first|exact (HS0.out.gr ((Gr.refl W).drew))|exact fun _=>(HS0.out.gr ((Gr.refl W).drew))|exact fun h=>h.gr ((Gr.refl _).alloc _)|exact fun _ h=>h.gr ((Gr.refl _).alloc _),?_⟩;refine Reg.pt ?_;exact zz.out):P:=h ⟨k⟩

theorem Z8(k:Q) (h:Kq Q→P:=by
 intro zz;refine Reg.one (i:=16) rfl (by rfl) ?_;refine wp_append_lies _ (.tmp 31) (.tmp 33) 75 (by rfl) base 73 iS _ 2 16 Tryz.underlying75 HIS.out.1 HIS.out.2.1 HIS.out.2.2.1 HIS.out.2.2.2 (by rfl) (by decide) r.sv r.nd.spots.length (spotsV r.nd.spots) (by rfl) HR3.out.s _ 1 1 [.int .i64 a,.int .i64 b] (by rfl) (by rfl) (World.news_of_block NBS3.out.blk) (by simp[Value.oneCell']) (by decide) (by unfold maxLen;omega) (by omega) (Nat.le_trans hbase HR3.out.size) _ rfl ?_;intro gS capS V4 ho hg ha hz;have HR4:=Lib.hid (HR3.out.appS ho hg ha);have NBT4:=Lib.hid (NBT3.out.appS (n:=r.nd.spots.length+1) (cap:=capS) hg ha);clear ho hg ha hz;have hS4:=putS_of HR4.out NBT4.out HC.out;refine⟨fun _ _=>hS4,?_⟩;refine Reg.pt ?_;refine Reg.on 22 ?_;revert gS capS V4 HR4 NBT4 hS4;exact zz.out):P:=h ⟨k⟩

theorem Z9(k:Q) (h:Kq Q→P:=by
 intro zz;refine Reg.ty 12 ?_;refine Reg.tl 13 hSx ?_ (hy:=by intro w hSw;obtain⟨⟨q0,q1,q2,q3,q4,q5,q6,qf,ql⟩,qc⟩:=hSw;go_simp;try with_reducible rfl);refine Reg.ty 14 ?_;refine Reg.tl 15 hSx ?_ (hy:=by intro w hSw;obtain⟨⟨q0,q1,q2,q3,q4,q5,q6,qf,ql⟩,qc⟩:=hSw;go_simp;try with_reducible rfl);refine Reg.ty 16 ?_;refine Reg.ty 17 ?_;refine Reg.ty 18 ?_;refine Reg.on 19 ?_;go_simp;refine Reg.ty 20 ?_;refine Reg.done (by kernel_rfl) ?_ _;exact zz.out):P:=h ⟨k⟩

theorem Z10(k:Q) (h:Kq Q→P:=by
 intro zz;go_simp;have HR':=HR3.out.alloc (.cells #[.int .i64 a,.int .i64 b] 73);have NBS':=HR3.out.newB #[.int .i64 a,.int .i64 b] 73;have NBT':=NBT3.out.alloc (.cells #[.int .i64 a,.int .i64 b] 73);have NBU':=NBU3.out.alloc (.cells #[.int .i64 a,.int .i64 b] 73);obtain⟨V4,hV⟩:∃V',V3.alloc (.cells #[.int .i64 a,.int .i64 b] 73)=V':=⟨_,rfl⟩
 rw[hV]at HR' NBS' NBT' NBU' ⊢;clear hV;have HR4:=Lib.hid HR';have NBT4:=Lib.hid NBT';have NBU4:=Lib.hid NBU';have NBS4:=Lib.hid NBS';clear HR' NBS' NBT' NBU';have hS4:=putS_of HR4.out NBT4.out HC.out;refine⟨by first|exact hS4|exact fun _=>hS4,?_⟩;refine Reg.pt ?_;refine Reg.on 16 ?_;revert hS4;revert NBS4;revert NBU4;revert NBT4;revert HR4;revert V4;exact zz.out):P:=h ⟨k⟩

theorem Z11(k:Q) (h:Kq Q→P:=by
 intro zz;refine Reg.one (i:=22) rfl (by rfl) ?_;go_simp;have HR':=HR3.out.alloc (.cells #[.int .i64 n] 3);have NBU':=HR3.out.newB #[.int .i64 n] 3;have NBT':=NBT3.out.alloc (.cells #[.int .i64 n] 3);have NBS':=NBS3.out.alloc (.cells #[.int .i64 n] 3);obtain⟨V4,hV⟩:∃V',V3.alloc (.cells #[.int .i64 n] 3)=V':=⟨_,rfl⟩
 rw[hV]at HR' NBU' NBT' NBS' ⊢;clear hV;have HR4:=Lib.hid HR';have NBT4:=Lib.hid NBT';have NBS4:=Lib.hid NBS';have NBU4:=Lib.hid NBU';clear HR' NBU' NBT' NBS';have hS4:=putS_of HR4.out NBT4.out HC.out;refine⟨by first|exact hS4|exact fun _=>hS4,?_⟩;refine Reg.pt ?_;refine Reg.on 16 ?_;revert hS4;revert NBU4;revert NBS4;revert NBT4;revert HR4;revert V4;exact zz.out):P:=h ⟨k⟩

theorem Z12(k:Q) (h:Kq Q→P:=by
 intro zz;refine Reg.done (by kernel_rfl) ?_ _;exact zz.out):P:=h ⟨k⟩

theorem Z13(k:Q) (h:Kq Q→P:=by
 intro zz;go_simp;have HR':=HR4.out.alloc (.cells #[.int .i64 n] 3);have NBU':=HR4.out.newB #[.int .i64 n] 3;have NBT':=NBT4.out.alloc (.cells #[.int .i64 n] 3);obtain⟨V5,hV⟩:∃V',V4.alloc (.cells #[.int .i64 n] 3)=V':=⟨_,rfl⟩
 rw[hV]at HR' NBU' NBT' ⊢;clear hV;have HR5:=Lib.hid HR';have NBT5:=Lib.hid NBT';have NBU5:=Lib.hid NBU';clear HR' NBU' NBT';have hS5:=putS_of HR5.out NBT5.out HC.out;refine⟨by first|exact hS5|exact fun _=>hS5,?_⟩;refine Reg.pt ?_;refine Reg.on 23 ?_;revert hS5;revert NBU5;revert NBT5;revert HR5;revert V5;exact zz.out):P:=h ⟨k⟩

theorem Z14(k:Q) (h:Kq Q→P:=by
 intro zz;intro j hj;simp only[List.mem_cons,List.not_mem_nil,or_false]at hj;revert hj;revert j;exact zz.out):P:=h ⟨k⟩

theorem Z15(k:Q) (h:Kq Q→P:=by
 intro zz;have hS0:radC3 bg bb ds w1.heap.size (W0.drewN nq).drew:=⟨⟨c0,c1,c2⟩,hlt⟩
 refine Reg.begin' (W:=fun _=>true) (S:=radC3 bg bb ds w1.heap.size) (by kernel_rfl) ?_;refine Reg.tl 0 hS0 ?_ (hy:=by intro w hSw;obtain⟨⟨q0,q1,q2⟩,ql⟩:=hSw;go_simp;try with_reducible rfl);refine Reg.on 1 ?_;go_simp;refine (in_tens _).mono ?_;rintro e w2 ⟨rfl,g2⟩;have hS1:=hS0.gr g2;refine⟨by first|exact hS1|exact fun _=>hS1|exact fun _ _=>hS1,?_⟩;refine Reg.pt ?_;refine Reg.ty 2 ?_;refine Reg.ty 3 ?_;revert hS0 w2 g2 hS1;exact zz.out):P:=h ⟨k⟩

theorem Z16(k:Q) (h:Kq Q→P:=by
 intro zz;refine⟨by first|exact hS3|exact fun _=>hS3|exact fun _ _=>hS3,?_⟩;refine Reg.pt ?_;exact zz.out):P:=h ⟨k⟩

theorem Z17(k:Q) (h:Kq Q→P:=by
 intro zz;refine wp_append_lies _ (.tmp 38) (.tmp 42) 75 (by rfl) w.heap.size 73 iS _ 2 16 Tryz.underlying75 HIS.out.1 HIS.out.2.1 HIS.out.2.2.1 HIS.out.2.2.2 (by rfl) (by decide) sv acc.length _ (by rfl) HR3.out.s _ 1 1 [.int .i64 n,.int .i64 e] (by rfl) (by rfl) (World.news_of_block NBS3.out.blk) (by simp[Value.oneCell']) (by decide) (by unfold maxLen;omega) (by omega) HR3.out.size _ rfl ?_;intro gS capS V4 ho hg ha hz;have HR4:=Lib.hid (HR3.out.appS ho hg ha);have NBC4:=Lib.hid (NBC3.out.appS (n:=acc.length+1) (cap:=capS) hg ha);have NBF4:=Lib.hid (NBF3.out.appS (n:=acc.length+1) (cap:=capS) hg ha);clear ho hg ha hz;have hS4:=keyS_of NBC4.out;refine⟨fun _ _=>hS4,?_⟩;refine Reg.pt ?_;obtain⟨hcK0,hfK0⟩:=NBC4.out.cell (i:=0) rfl;obtain⟨hcK1,hfK1⟩:=NBC4.out.cell (i:=1) rfl;refine Reg.on 14 ?_;go_simp;revert gS capS V4 HR4 NBC4 NBF4 hS4 hcK0 hfK0 hcK1 hfK1;exact zz.out):P:=h ⟨k⟩

theorem Z18(k:Q) (h:Kq Q→P:=by
 intro zz;have hu:=hst.use (w.heap.size+1) (by simp;omega) (fun hF=>by have:=HS.out.own_lt hF;omega);have hz2:=hst.size;simp at hz2;obtain⟨hc2,hf2⟩:=hu;revert hz2;revert hf2;revert hc2;exact zz.out):P:=h ⟨k⟩

theorem Z19(k:Q) (h:Kq Q→P:=by
 intro zz;refine Reg.ty 7 ?_;refine Z308 ?_;refine Reg.ty 10 ?_;refine Reg.ty 11 ?_;refine Reg.ty 12 ?_;refine Reg.ty 13 ?_;refine Reg.ty 14 ?_;refine Reg.ty 15 ?_;refine Reg.ty 16 ?_;exact zz.out):P:=h ⟨k⟩

theorem Z20(k:Q) (h:Kq Q→P:=by
 intro zz;have HR0':=HST.out _ ((Gr.refl w).alloc (.cells #[.int .i64 a,.int .i64 b] 73)).drew;have NBT':=(HST.out w (Gr.refl w)).newB #[.int .i64 a,.int .i64 b] 73;refine Reg.begin' (W:=fun i=>i != 26 && i != 29 && i != 32) (S:=PutS g i w.heap.size r a b) (by kernel_rfl) ?_;obtain⟨V0,hV⟩:∃V0,(w.alloc (.cells #[.int .i64 a,.int .i64 b] 73)).drew=V0:=⟨_,rfl⟩
 have NBT0':=NBT'.drew;rw[hV]at HR0' NBT0' ⊢;clear hV NBT';have HR0:=Lib.hid HR0';have NBT0:=Lib.hid NBT0';clear HR0' NBT0';have hS0:=putS_of HR0.out NBT0.out HC.out;refine Reg.ty 0 ?_;refine Reg.ty 1 ?_;refine Reg.ty 2 ?_;refine Reg.ty 3 ?_;refine Reg.ty 4 ?_;refine Reg.ty 5 ?_;refine Reg.ty 7 ?_;refine Reg.ty 10 ?_;refine Reg.ty 11 ?_;refine Reg.ty 12 ?_;refine Reg.ty 17 ?_;refine Reg.ty 18 ?_;refine Reg.ty 19 ?_;refine Reg.ty 21 ?_;refine Reg.tl 6 hS0 ?_ (hy:=by intro w hSw;obtain⟨q1,q2,q3,q4,q5⟩:=hSw;go_simp;try with_reducible rfl);refine Reg.tl 13 hS0 ?_ (hy:=by intro w hSw;obtain⟨q1,q2,q3,q4,q5⟩:=hSw;go_simp;try with_reducible rfl);refine Reg.tl 14 hS0 ?_ (hy:=by intro w hSw;obtain⟨q1,q2,q3,q4,q5⟩:=hSw;go_simp;try with_reducible rfl);refine Reg.tl 20 hS0 ?_ (hy:=by intro w hSw;obtain⟨q1,q2,q3,q4,q5⟩:=hSw;go_simp;try with_reducible rfl);refine Reg.all (rs:=[8,15,22]) (by kernel_rfl) (by simp) ?_;revert hS0;revert NBT0;revert HR0;revert V0;exact zz.out):P:=h ⟨k⟩

theorem Z21(k:Q) (h:Kq Q→P:=by
 intro zz;rw[Exit.noGoto_ret];have hl0:w.heap.size<VV.heap.size:=by omega
 refine bodyPost_ret (v := .tuple #[.agg #[.slice (some ⟨gK,0,none⟩) (acc.length+1) (acc.length+1),.slice (some ⟨gS,0,none⟩) (acc.length+1) (acc.length+1)],.int .i64 e,f0]) (by simp[results,Tryz.results45,go_sem,p0,p1,p2,p3,p4,p5,p6,p7,hl0,hklt4]) rfl ?_;rw[←HX9.out];have hdn:=ks_done HK5.out;have e1:(acc++[(t,n,e)]).length=acc.length+1:=by simp
 revert hl0 hdn e1;exact zz.out):P:=h ⟨k⟩

theorem Z22(k:Q) (h:Kq Q→P:=by
 intro zz;refine Reg.ty 3 ?_;refine Reg.ty 4 ?_;refine Reg.sk 5 ?_;refine Reg.sk 6 ?_;refine Reg.sk 7 ?_;refine Z298 ?_;refine Reg.sk 14 ?_;refine Reg.sk 15 ?_;refine Reg.sk 16 ?_;refine Reg.sk 17 ?_;refine Reg.ty 18 ?_;exact zz.out):P:=h ⟨k⟩

theorem Z23(k:Q) (h:Kq Q→P:=by
 intro zz;obtain⟨a0,a1,af,al⟩:=(FX.new w (.int .i64 0) (.int .i64 0) 31).st hst hnF;have HST2:=Lib.hid (((St.refl (FV own) w).alloc (.cells #[.int .i64 0,.int .i64 0] 31)).trans hst);revert a0 a1 af al HST2;exact zz.out):P:=h ⟨k⟩

theorem Z24(k:Q) (h:Kq Q→P:=by
 intro zz;refine Reg.ty 3 ?_;refine Reg.ty 4 ?_;refine Reg.tl 5 hSx ?_ (hy:=by intro w hSw;obtain⟨⟨q0,q1,q2,q3,q4,q5,q6,qf,ql⟩,qc⟩:=hSw;go_simp;try with_reducible rfl);refine Reg.ty 6 ?_;refine Reg.tl 7 hSx ?_ (hy:=by intro w hSw;obtain⟨⟨q0,q1,q2,q3,q4,q5,q6,qf,ql⟩,qc⟩:=hSw;go_simp;try with_reducible rfl);refine Z308 ?_;refine Reg.ty 10 ?_;refine Reg.ty 11 ?_;exact zz.out):P:=h ⟨k⟩

theorem Z25(k:Q) (h:Kq Q→P:=by
 intro zz;refine Reg.begin' (W:=fun _=>true) (S:=radC3 bg bb ds w1.heap.size) (by kernel_rfl) ?_;refine Reg.tl 0 hS2 ?_ (hy:=by intro w hSw;obtain⟨⟨q0,q1,q2⟩,ql⟩:=hSw;go_simp;try with_reducible rfl);refine Reg.ty 1 ?_;refine Reg.on 2 ?_;go_simp;refine (HR.out _).mono ?_;rintro e w3 ⟨rfl,g3⟩;have hS3:=hS2.gr g3;revert w3 g3 hS3;exact zz.out):P:=h ⟨k⟩

theorem Z26(k:Q) (h:Kq Q→P:=by
 intro zz;have hno:=low_no c h65 h97;have hv0:=bits_lo_u8 .or (c.toNat:Int) 32;have hv1:=bits_hi_u8 .or (c.toNat:Int) 32;obtain⟨v,hv⟩:∃v,bits .or .u8 (c.toNat:Int) 32=v:=⟨_,rfl⟩
 rw[hv]at hno hv0 hv1;have i48:¬((48:Int)≤c.toNat∧(c.toNat:Int)≤57):=by omega
 have i95:¬(c.toNat:Int)=95:=by omega
 revert hv1;revert hv0;revert hno;revert i95;revert i48;revert hv;revert v;exact zz.out):P:=h ⟨k⟩

theorem Z27(k:Q) (h:Kq Q→P:=by
 intro zz;have hv:W.heap.size≤w2.heap.size:=Nat.le_trans ((((Gr.refl W).alloc (.cells #[.int .i64 0,.int .i64 0] 31)).alloc (.cells #[.int .i64 0,.int .i64 0] 60)).drew).size hst.size;obtain⟨fa,ga,za⟩:=bx2 W (.int .i64 0) (.int .i64 0) 31;obtain⟨fb,gb,zb⟩:=bx2 (W.alloc (.cells #[.int .i64 0,.int .i64 0] 31)) (.int .i64 0) (.int .i64 0) 60;have f6:=((fa.gr gb).gr ((Gr.refl _).drew)).st hst (fun e=>by have:=hlt _ e;omega);rw[za]at fb;have f5:=(fb.gr ((Gr.refl _).drew)).st hst (fun e=>by have:=hlt _ e;omega);rw[za]at zb;obtain⟨r0,r1,rf,rl⟩:=id f5;obtain⟨k0,k1,kf,kl⟩:=id f6;revert zb;revert fb;revert kl;revert kf;revert k1;revert k0;revert rl;revert rf;revert r1;revert r0;revert f5;revert f6;revert gb;revert za;revert ga;revert fa;revert hv;exact zz.out):P:=h ⟨k⟩

theorem Z28(k:Q) (h:Kq Q→P:=by
 intro zz;have hv:W.heap.size≤w2.heap.size:=Nat.le_trans ((((Gr.refl W).alloc (.cells #[.int .i64 0,.int .i64 0] 60)).alloc (.cells #[.int .i64 0,.int .i64 0] 31)).drew).size hst.size;obtain⟨fa,ga,za⟩:=bx2 W (.int .i64 0) (.int .i64 0) 60;obtain⟨fb,gb,zb⟩:=bx2 (W.alloc (.cells #[.int .i64 0,.int .i64 0] 60)) (.int .i64 0) (.int .i64 0) 31;have f5:=((fa.gr gb).gr ((Gr.refl _).drew)).st hst (fun e=>by have:=hlt _ e;omega);rw[za]at fb;have f6:=(fb.gr ((Gr.refl _).drew)).st hst (fun e=>by have:=hlt _ e;omega);rw[za]at zb;obtain⟨r0,r1,rf,rl⟩:=id f5;obtain⟨k0,k1,kf,kl⟩:=id f6;revert zb;revert fb;revert kl;revert kf;revert k1;revert k0;revert rl;revert rf;revert r1;revert r0;revert f6;revert f5;revert gb;revert za;revert ga;revert fa;revert hv;exact zz.out):P:=h ⟨k⟩

theorem Z29(k:Q) (h:Kq Q→P:=by
 intro zz;have hv:W.heap.size≤w2.heap.size:=Nat.le_trans (((Gr.refl W).alloc (.cells #[.int .i64 0,.int .i64 0] 31)).drew).size hst.size;obtain⟨fa,ga,za⟩:=bx2 W (.int .i64 0) (.int .i64 0) 31;have fa2:=(fa.gr ((Gr.refl _).drew)).st hst (fun e=>by have:=hlt _ e;omega);obtain⟨f5,gb,zb⟩:=bx2 w2 (.int .i64 0) (.int .i64 0) 60;have f6:=fa2.gr gb;have hv2:W.heap.size<w2.heap.size:=fa2.2.2.2;obtain⟨W3,hW3⟩:∃W3,w2.alloc (.cells #[.int .i64 0,.int .i64 0] 60)=W3:=⟨_,rfl⟩
 rw[hW3]at f5 f6 gb;rw[hW3];clear hW3 zb;obtain⟨r0,r1,rf,rl⟩:=id f5;obtain⟨k0,k1,kf,kl⟩:=id f6;revert gb;revert f6;revert f5;revert kl;revert kf;revert k1;revert k0;revert rl;revert rf;revert r1;revert r0;revert W3;revert hv2;revert fa2;revert za;revert ga;revert fa;revert hv;exact zz.out):P:=h ⟨k⟩

theorem Z30(k:Q) (h:Kq Q→P:=by
 intro zz;have hv:W.heap.size≤w2.heap.size:=Nat.le_trans (((Gr.refl W).alloc (.cells #[.int .i64 0,.int .i64 0] 60)).drew).size hst.size;obtain⟨fa,ga,za⟩:=bx2 W (.int .i64 0) (.int .i64 0) 60;have fa2:=(fa.gr ((Gr.refl _).drew)).st hst (fun e=>by have:=hlt _ e;omega);refine Z304 ?_;intro f6 gb zb;have f5:=fa2.gr gb;have hv2:W.heap.size<w2.heap.size:=fa2.2.2.2;obtain⟨W3,hW3⟩:∃W3,w2.alloc (.cells #[.int .i64 0,.int .i64 0] 31)=W3:=⟨_,rfl⟩
 rw[hW3]at f5 f6 gb;rw[hW3];clear hW3 zb;obtain⟨r0,r1,rf,rl⟩:=id f5;obtain⟨k0,k1,kf,kl⟩:=id f6;revert gb;revert f6;revert f5;revert kl;revert kf;revert k1;revert k0;revert rl;revert rf;revert r1;revert r0;revert W3;revert hv2;revert fa2;revert za;revert ga;revert fa;revert hv;exact zz.out):P:=h ⟨k⟩

theorem Z31(k:Q) (h:Kq Q→P:=by
 intro zz;have hS2:=putS_of HR2.out NBT2.out HC.out;refine⟨by first|exact hS2|exact fun _=>hS2,?_⟩;refine Reg.pt ?_;revert hS2;exact zz.out):P:=h ⟨k⟩

theorem Z32(k:Q) (h:Kq Q→P:=by
 intro zz;refine⟨by first|exact hS4|exact fun _=>hS4|exact fun _ _=>hS4,?_⟩;refine Reg.pt ?_;exact zz.out):P:=h ⟨k⟩

theorem Z33(k:Q) (h:Kq Q→P:=by
 intro zz;refine Reg.on 15 ?_;refine wp_append_lies _ (.tmp 75) (.tmp 77) 51 (by rfl) base 3 iU _ 1 8 Tryz.underlying51 HIU.out.1 HIU.out.2.1 HIU.out.2.2.1 HIU.out.2.2.2 (by rfl) (by decide) x1.nsv g.its.length xn (by rfl) HR3.out.n _ 1 1 [.int .i64 (nI)] (by rfl) (by rfl) (World.news_of_block NBN.out) (by simp[Value.oneCell']) (by decide) (by unfold maxLen;omega) (by omega) (Nat.le_trans hbase HR3.out.st.size) _ rfl ?_;intro gN capN V4 ho hg ha hz;have HR4:=Lib.hid (HR3.out.appN ho hg ha);clear ho hg ha hz;refine⟨fun h=>absurd h (by decide),?_⟩;revert gN capN V4 HR4;exact zz.out):P:=h ⟨k⟩

theorem Z34(k:Q) (h:Kq Q→P:=by
 intro zz;have hS:FX w.heap.size (.int .i64 0) (.int .i64 0) w3.drew:=hF.gr (Gr.refl _).drew;refine Reg.begin' (W:=fun i=>i != 12) (S:=FX w.heap.size (.int .i64 0) (.int .i64 0)) (by kernel_rfl) ?_;refine Reg.ty 0 ?_;refine Reg.ty 1 ?_;refine Reg.ty 2 ?_;refine Reg.ty 3 ?_;refine Reg.ty 4 ?_;refine Reg.ty 5 ?_;refine Reg.ty 6 ?_;refine Reg.ty 8 ?_;refine Reg.tl 9 hS ?_ (hy:=by intro w hSw;obtain⟨q0,q1,qf,ql⟩:=hSw;go_simp;try with_reducible rfl);refine Reg.on 7 ?_;go_simp;refine (leaf_node w w3.drew R B base s root nv L own H.out hG3.drew HR.out kk HK8.out x n (n+k) _ rfl _ (by simp)).mono ?_;rintro e w4 ⟨rfl,nv',own',hr3,hst3,hown3,hst3'⟩;have hF4:=hS.st hst3' hnR.out;refine⟨by first|exact hF4|exact fun _=>hF4|exact fun _ _=>hF4,?_⟩;refine Reg.pt ?_;refine Reg.ty 10 ?_;refine Reg.ty 11 ?_;refine Z316 ?_;intro p0 p1 pf pl hn3 H3 HS3 HO3;clear hr3 hst3 hown3 hst3';refine Reg.on 12 ?_;go_simp;revert hS w4 nv' own' p0 p1 pf pl hn3 H3 HS3 HO3;exact zz.out):P:=h ⟨k⟩

theorem Z35(k:Q) (h:Kq Q→P:=by
 intro zz;refine Reg.one (i:=15) rfl (by rfl) ?_;go_simp;have HR':=HR2.out.alloc (.cells #[.int .i64 a,.int .i64 b] 73);have NBS':=HR2.out.newB #[.int .i64 a,.int .i64 b] 73;have NBT':=NBT2.out.alloc (.cells #[.int .i64 a,.int .i64 b] 73);revert HR' NBS' NBT';exact zz.out):P:=h ⟨k⟩

theorem Z36(k:Q) (h:Kq Q→P:=by
 intro zz;go_simp;refine⟨by first|exact⟨((hP5.other (by omega) _).other (by omega) _).gr (Gr.refl _).drew,((hP6.other (by omega) _).other (by omega) _).gr (Gr.refl _).drew⟩|exact fun _=>⟨((hP5.other (by omega) _).other (by omega) _).gr (Gr.refl _).drew,((hP6.other (by omega) _).other (by omega) _).gr (Gr.refl _).drew⟩|exact fun _ _=>⟨((hP5.other (by omega) _).other (by omega) _).gr (Gr.refl _).drew,((hP6.other (by omega) _).other (by omega) _).gr (Gr.refl _).drew⟩,?_⟩;refine Reg.pt ?_;exact zz.out):P:=h ⟨k⟩

theorem Z37(k:Q) (h:Kq Q→P:=by
 intro zz;have hv:W.heap.size≤w2.heap.size:=Nat.le_trans ((Gr.refl W).drew).size hst.size;refine Z304 ?_;intro fa ga za;obtain⟨f5,gb,zb⟩:=bx2 (w2.alloc (.cells #[.int .i64 0,.int .i64 0] 31)) (.int .i64 0) (.int .i64 0) 60;have f6:=fa.gr gb;rw[za]at f5;obtain⟨W3,hW3⟩:∃W3,(w2.alloc (.cells #[.int .i64 0,.int .i64 0] 31)).alloc (.cells #[.int .i64 0,.int .i64 0] 60)=W3:=⟨_,rfl⟩
 rw[hW3]at f5 f6 gb;rw[hW3];have g3:=ga.trans gb;clear hW3 za zb;obtain⟨r0,r1,rf,rl⟩:=id f5;obtain⟨k0,k1,kf,kl⟩:=id f6;revert gb;revert f6;revert f5;revert kl;revert kf;revert k1;revert k0;revert rl;revert rf;revert r1;revert r0;revert g3;revert W3;revert ga;revert fa;revert hv;exact zz.out):P:=h ⟨k⟩

theorem Z38(k:Q) (h:Kq Q→P:=by
 intro zz;have hv:W.heap.size≤w2.heap.size:=Nat.le_trans ((Gr.refl W).drew).size hst.size;obtain⟨fa,ga,za⟩:=bx2 w2 (.int .i64 0) (.int .i64 0) 60;obtain⟨f6,gb,zb⟩:=bx2 (w2.alloc (.cells #[.int .i64 0,.int .i64 0] 60)) (.int .i64 0) (.int .i64 0) 31;have f5:=fa.gr gb;rw[za]at f6;obtain⟨W3,hW3⟩:∃W3,(w2.alloc (.cells #[.int .i64 0,.int .i64 0] 60)).alloc (.cells #[.int .i64 0,.int .i64 0] 31)=W3:=⟨_,rfl⟩
 rw[hW3]at f5 f6 gb;rw[hW3];have g3:=ga.trans gb;clear hW3 za zb;obtain⟨r0,r1,rf,rl⟩:=id f5;obtain⟨k0,k1,kf,kl⟩:=id f6;revert gb;revert f6;revert f5;revert kl;revert kf;revert k1;revert k0;revert rl;revert rf;revert r1;revert r0;revert g3;revert W3;revert ga;revert fa;revert hv;exact zz.out):P:=h ⟨k⟩

theorem Z39(k:Q) (h:Kq Q→P:=by
 intro zz;have hG6:Gr w w6:=(hG4.drew.trans g5).trans g6;have hW6:=HW.out.gr hG6;obtain⟨ep,he⟩:=hW6.err;have HF:=Lib.hid (fun W (hW:IntW W)=>(Tryz.strconv_FormatInt_10 v HV.out.1 HV.out.2 W hW.pow));revert hG6 hW6 ep he HF;exact zz.out):P:=h ⟨k⟩

theorem Z40(k:Q) (h:Kq Q→P:=by
 intro zz;refine Reg.ty 0 ?_;refine Reg.ty 1 ?_;refine Reg.ty 2 ?_;exact zz.out):P:=h ⟨k⟩

theorem Z41(k:Q) (h:Kq Q→P:=by
 intro zz;refine Reg.begin' (W:=fun _=>true) (S:=FX (w.heap.size+1) (.int .i64 a) (.int .i64 b)) (by kernel_rfl) ?_;refine Reg.ty 0 ?_;refine Reg.ty 1 ?_;refine Reg.tl 2 hS ?_ (hy:=by intro w hSw;obtain⟨s0,s1,sf,sl⟩:=hSw;go_simp;try with_reducible rfl);refine Reg.ty 3 ?_;refine Reg.on 4 ?_;go_simp;refine⟨by first|exact ((hB1.other (by omega) _).other (by omega) _).gr (Gr.refl _).drew|exact fun _ _=>((hB1.other (by omega) _).other (by omega) _).gr (Gr.refl _).drew,?_⟩;refine Reg.pt ?_;refine Reg.on 5 ?_;go_simp;refine⟨by first|exact ((((hB1.other (by omega) _).other (by omega) _).other (by omega) _).other (by omega) _).gr (Gr.refl _).drew|exact fun _=>((((hB1.other (by omega) _).other (by omega) _).other (by omega) _).other (by omega) _).gr (Gr.refl _).drew|exact fun _ _=>((((hB1.other (by omega) _).other (by omega) _).other (by omega) _).other (by omega) _).gr (Gr.refl _).drew,?_⟩;refine Reg.pt ?_;exact zz.out):P:=h ⟨k⟩

theorem Z42(k:Q) (h:Kq Q→P:=by
 intro zz;refine Reg.ty 3 ?_;refine Reg.ty 4 ?_;exact zz.out):P:=h ⟨k⟩

theorem Z43(k:Q) (h:Kq Q→P:=by
 intro zz;refine Reg.begin' (W:=fun i=>i != 7) (S:=fun W=>WB3 w.heap.size (.int .i64 0) (.int .i64 0) (.slice none 0 0) (.int .i64 0) (.int .i64 0) (.int .i64 0) W∧FX bK (.slice (some ⟨gk,0,none⟩) ws.length ck) (.slice (some ⟨gs,0,none⟩) ws.length cs) W) (by kernel_rfl) ?_;refine Reg.tl 0 hS3 ?_ (hy:=by intro w hSw;obtain⟨⟨⟨s0,s1,s2,s3⟩,⟨s4,s5,s6,s7⟩,⟨s8,s9,s10,s11⟩⟩,⟨s12,s13,s14,s15⟩⟩:=hSw;go_simp;try with_reducible rfl);refine Reg.tl 1 hS3 ?_ (hy:=by intro w hSw;obtain⟨⟨⟨s0,s1,s2,s3⟩,⟨s4,s5,s6,s7⟩,⟨s8,s9,s10,s11⟩⟩,⟨s12,s13,s14,s15⟩⟩:=hSw;go_simp;try with_reducible rfl);refine Reg.ty 2 ?_;refine Reg.tl 3 hS3 ?_ (hy:=by intro w hSw;obtain⟨⟨⟨s0,s1,s2,s3⟩,⟨s4,s5,s6,s7⟩,⟨s8,s9,s10,s11⟩⟩,⟨s12,s13,s14,s15⟩⟩:=hSw;go_simp;try with_reducible rfl);refine Reg.on 4 ?_;go_simp;refine HCALL.out.mono ?_;exact zz.out):P:=h ⟨k⟩

theorem Z44(k:Q) (h:Kq Q→P:=by
 intro zz;refine Reg.sk 12 ?_;refine Reg.sk 13 ?_;refine Reg.sk 14 ?_;refine Reg.sk 15 ?_;refine Reg.sk 16 ?_;refine Reg.sk 17 ?_;refine Reg.ty 18 ?_;exact zz.out):P:=h ⟨k⟩

theorem Z45(k:Q) (h:Kq Q→P:=by
 intro zz;refine Z298 ?_;refine Reg.sk 14 ?_;refine Reg.sk 15 ?_;exact zz.out):P:=h ⟨k⟩

theorem Z46(k:Q) (h:Kq Q→P:=by
 intro zz;refine Z308 ?_;refine Reg.ty 10 ?_;exact zz.out):P:=h ⟨k⟩

theorem Z47(k:Q) (h:Kq Q→P:=by
 intro zz;refine Reg.ty 12 ?_;refine Reg.ty 13 ?_;refine Reg.ty 14 ?_;exact zz.out):P:=h ⟨k⟩

theorem Z48(k:Q) (h:Kq Q→P:=by
 intro zz;rintro e w' ⟨rfl,rfl⟩;exact zz.out):P:=h ⟨k⟩

theorem Z49(k:Q) (h:Kq Q→P:=by
 intro zz;have HR1:=Lib.hid HR';have NBT1:=Lib.hid NBT';revert HR1 NBT1;exact zz.out):P:=h ⟨k⟩

theorem Z50(k:Q) (h:Kq Q→P:=by
 intro zz
 try simp only[Act.put,List.getElem_toArray,List.getElem_cons_succ,List.getElem_cons_zero,List.setIfInBounds_toArray,List.set_cons_zero,List.set_cons_succ]
 exact zz.out):P:=h ⟨k⟩

theorem Z51(k:Q) (h:Kq Q→P:=by
 intro zz;have hlen:(ndsV L).length=L.length*7:=ndsV_length L;have hnF:WF.ownsRow base 91 7 (.slice (some ⟨g,0,none⟩) L.length cap) L.length (ndsV (L.set i ⟨nd,kv,sv,uv⟩)):=by
  subst hWF;have e1:=ownsRow_set hnW (i*7+2) (by omega) kv;have e2:=ownsRow_set e1 (i*7+3) (by rw[List.length_set];omega) sv;have e3:=ownsRow_set e2 (i*7+4) (by rw[List.length_set,List.length_set];omega) uv;have f1:=ndsV_set L i 2 (by omega) kv r ⟨r.nd,kv,r.sv,r.uv⟩ hr rfl;have f2:=ndsV_set (L.set i ⟨r.nd,kv,r.sv,r.uv⟩) i 3 (by omega) sv ⟨r.nd,kv,r.sv,r.uv⟩ ⟨r.nd,kv,sv,r.uv⟩ (by simp[hi]) rfl;have f3:=ndsV_set ((L.set i ⟨r.nd,kv,r.sv,r.uv⟩).set i ⟨r.nd,kv,sv,r.uv⟩) i 4 (by omega) uv ⟨r.nd,kv,sv,r.uv⟩ ⟨nd,kv,sv,uv⟩ (by simp[hi]) (by simp[ndV,hk1,hk2,hk3]);rw[f1,f2,f3]at e3
  simpa using e3
 rw[hWF];revert hlen hnF;exact zz.out):P:=h ⟨k⟩

theorem Z52(k:Q) (h:Kq Q→P:=by
 intro zz;have i0:∀W,(Instr.index 228 (.agg radC) (.int .i64 0)).run Tryz.prog W = .ok (radV ⟨#[48,120]⟩ 16 hexD) W:=fun _=>by kernel_rfl
 have i1:∀W,(Instr.index 228 (.agg radC) (.int .i64 1)).run Tryz.prog W = .ok (radV ⟨#[48,111]⟩ 8 octD) W:=fun _=>by kernel_rfl
 have i2:∀W,(Instr.index 228 (.agg radC) (.int .i64 2)).run Tryz.prog W = .ok (radV ⟨#[48,98]⟩ 2 binD) W:=fun _=>by kernel_rfl
 unfold radC at i0 i1 i2;revert i2;revert i1;revert i0;exact zz.out):P:=h ⟨k⟩

theorem Z53(k:Q) (h:Kq Q→P:=by
 intro zz;go_simp;refine⟨by first|exact (HS0.out.gr ((((Gr.refl W).alloc (.cells #[.int .i64 0,.int .i64 0] 31)).alloc (.cells #[.int .i64 0,.int .i64 0] 60)).drew))|exact fun _=>(HS0.out.gr ((((Gr.refl W).alloc (.cells #[.int .i64 0,.int .i64 0] 31)).alloc (.cells #[.int .i64 0,.int .i64 0] 60)).drew))|exact fun h=>h.gr ((Gr.refl _).alloc _)|exact fun _ h=>h.gr ((Gr.refl _).alloc _),?_⟩;refine Reg.pt ?_;exact zz.out):P:=h ⟨k⟩

theorem Z54(k:Q) (h:Kq Q→P:=by
 intro zz;go_simp;refine⟨by first|exact (HS0.out.gr ((((Gr.refl W).alloc (.cells #[.int .i64 0,.int .i64 0] 60)).alloc (.cells #[.int .i64 0,.int .i64 0] 31)).drew))|exact fun _=>(HS0.out.gr ((((Gr.refl W).alloc (.cells #[.int .i64 0,.int .i64 0] 60)).alloc (.cells #[.int .i64 0,.int .i64 0] 31)).drew))|exact fun h=>h.gr ((Gr.refl _).alloc _)|exact fun _ h=>h.gr ((Gr.refl _).alloc _),?_⟩;refine Reg.pt ?_;exact zz.out):P:=h ⟨k⟩

theorem Z55(k:Q) (h:Kq Q→P:=by
 intro zz;have hF5:=hF4.gr g4;have hG5:=hG4.trans g4;obtain⟨⟨i0,i1,i2,i3,i4,i5,i6,i7,i8⟩,ifz,ilt⟩:=itO_facts hI5;obtain⟨v0,v1,vf,vl⟩:=id hF5;obtain⟨zI,zF,zG,_⟩:=item_chain hI5 hF5 (Nat.ne_of_lt (Nat.lt_succ_self _)) hG5 (Nat.le_refl _) (Nat.le_succ _) (.int .u8 0) (.int .i64 0) (.int .i64 0) nilV nilV (.int .i64 0) (.int .i64 0) nilV (.int .i64 0) (.int .i64 c) (.int .i64 p);obtain⟨WF,hWF⟩:∃W,(((((((((((w4.setCell ⟨w.heap.size,0,none⟩ (.int .u8 0)).setCell ⟨w.heap.size,1,none⟩ (.int .i64 0)).setCell ⟨w.heap.size,2,none⟩ (.int .i64 0)).setCell ⟨w.heap.size,3,none⟩ nilV).setCell ⟨w.heap.size,4,none⟩ nilV).setCell ⟨w.heap.size,5,none⟩ (.int .i64 0)).setCell ⟨w.heap.size,6,none⟩ (.int .i64 0)).setCell ⟨w.heap.size,7,none⟩ nilV).setCell ⟨w.heap.size,8,none⟩ (.int .i64 0)).setCell ⟨w.heap.size+1,0,none⟩ (.int .i64 c)).setCell ⟨w.heap.size+1,1,none⟩ (.int .i64 p))=W:=⟨_,rfl⟩
 rw[hWF]at zI zF zG;have HWF:=Lib.hid hWF;revert zG;revert zF;revert zI;revert HWF;revert hWF;revert WF;revert vl;revert vf;revert v1;revert v0;revert ilt;revert ifz;revert i8;revert i7;revert i6;revert i5;revert i4;revert i3;revert i2;revert i1;revert i0;revert hG5;revert hF5;exact zz.out):P:=h ⟨k⟩

theorem Z56(k:Q) (h:Kq Q→P:=by
 intro zz;refine Reg.one (i:=22) rfl (by rfl) ?_;go_simp;have HR':=HR2.out.alloc (.cells #[.int .i64 n] 3);have NBU':=HR2.out.newB #[.int .i64 n] 3;have NBT':=NBT2.out.alloc (.cells #[.int .i64 n] 3);revert HR' NBU' NBT';exact zz.out):P:=h ⟨k⟩

theorem Z57(k:Q) (h:Kq Q→P:=by
 intro zz;refine Reg.ty 0 ?_;refine Reg.ty 1 ?_;exact zz.out):P:=h ⟨k⟩

theorem Z58(k:Q) (h:Kq Q→P:=by
 intro zz;refine⟨by first|exact hS|exact fun _=>hS|exact fun _ _=>hS,?_⟩;refine Reg.pt ?_;exact zz.out):P:=h ⟨k⟩

theorem Z59(k:Q) (h:Kq Q→P:=by
 intro zz;refine (tk_Blanks s _ e rfl hes (by omega) _).mono ?_;rintro e3 w3 ⟨rfl,g3⟩;have hab:=Pl.blanksAt_le (bs s) e (by rw[bs_length];exact hes);rw[bs_length]at hab;have hks3:=HK.out.gr g3;obtain⟨p0,p1,p2,p3,p4,p5,p6,p7⟩:=hks3.cells;have hklt3:=hks3.lt;have HK3:=Lib.hid hks3;have hx9:=HXX.out
 try dsimp only at hx9
 obtain⟨a,ha⟩:∃a,Pl.blanksAt (bs s) e=a:=⟨_,rfl⟩
 rw[ha]at hab hx9 ⊢;have HA:=Lib.hid ha;clear ha hks3;revert hx9;revert hab;revert HA;revert a;revert HK3;revert hklt3;revert p7;revert p6;revert p5;revert p4;revert p3;revert p2;revert p1;revert p0;revert g3;revert w3;exact zz.out):P:=h ⟨k⟩

theorem Z60(k:Q) (h:Kq Q→P:=by
 intro zz;refine Reg.ty 7 ?_;refine Z308 ?_;exact zz.out):P:=h ⟨k⟩

theorem Z61(k:Q) (h:Kq Q→P:=by
 intro zz;refine wp_append_lies _ (.tmp 33) (.tmp 35) 74 (by rfl) w.heap.size 9 iK _ 1 16 Tryz.underlying74 HIK.out.1 HIK.out.2.1 HIK.out.2.2.1 HIK.out.2.2.2 (by rfl) (by decide) kv acc.length _ (by rfl) HR2.out.k _ 1 1 [strV t] (by rfl) (by rfl) (World.news_of_block NBK2.out.blk) (by simp[Value.oneCell']) (by decide) (by unfold maxLen;omega) (by omega) HR2.out.size _ rfl ?_;intro gK capK V3 ho hg ha hz;have HR3:=Lib.hid (HR2.out.appK ho hg ha);have NBC3:=Lib.hid (NBC2.out.appK (n:=acc.length+1) (cap:=capK) hg ha);have NBF3:=Lib.hid (NBF2.out.appK (n:=acc.length+1) (cap:=capK) hg ha);have NBS3:=Lib.hid (NBS2.out.appK (n:=acc.length+1) (cap:=capK) hg ha);clear ho hg ha hz;have hS3:=keyS_of NBC3.out;refine⟨fun _ _=>hS3,?_⟩;refine Reg.pt ?_;refine Reg.ty 13 ?_;refine Reg.on 11 ?_;revert gK capK V3 HR3 NBC3 NBF3 NBS3 hS3;exact zz.out):P:=h ⟨k⟩

theorem Z62(k:Q) (h:Kq Q→P:=by
 intro zz;refine Reg.one (i:=9) rfl (by rfl) ?_;refine wp_append_lies _ (.tmp 24) (.tmp 26) 74 (by rfl) base 9 iK _ 1 16 Tryz.underlying74 HIK.out.1 HIK.out.2.1 HIK.out.2.2.1 HIK.out.2.2.2 (by rfl) (by decide) r.kv r.nd.keys.length (keysV r.nd.keys) (by rfl) HR1.out.k _ 1 1 [.string key] (by rfl) (by rfl) (World.news_of_block NBK1.out.blk) (by simp[Value.oneCell']) (by decide) (by unfold maxLen;omega) (by omega) (Nat.le_trans hbase HR1.out.size) _ rfl ?_;intro gK capK V2 ho hg ha hz;have HR2:=Lib.hid (HR1.out.appK ho hg ha);have NBT2:=Lib.hid (NBT1.out.appK (n:=r.nd.keys.length+1) (cap:=capK) hg ha);clear ho hg ha hz;have hS2:=putS_of HR2.out NBT2.out HC.out;refine⟨fun _ _=>hS2,?_⟩;refine Reg.pt ?_;refine Reg.all (rs:=[15,22]) (by kernel_rfl) (by simp) ?_;revert gK capK V2 HR2 NBT2 hS2;exact zz.out):P:=h ⟨k⟩

theorem Z63(k:Q) (h:Kq Q→P:=by
 intro zz;obtain⟨r1,r2,r3⟩:=HRO.out la wt a b HWL.out;have hLAST:=tt_last w5 gk gs la ck cs ⟨wt.toArray⟩ a b (by omega) (Nat.lt_of_lt_of_le (Nat.lt_of_lt_of_le hgkW HST.out.size) g5.size) (Nat.lt_of_lt_of_le (Nat.lt_of_lt_of_le hgsW HST.out.size) g5.size) ((tok _).trans r1) ((tos _).trans r2) ((tos _).trans r3);rw[←HLA.out]at hLAST;refine hLAST.mono ?_;rintro e w6 ⟨rfl,g6⟩;have g56:=g5.trans g6;revert hLAST;revert g56;revert g6;revert w6;revert r3;revert r2;revert r1;exact zz.out):P:=h ⟨k⟩

theorem Z64(k:Q) (h:Kq Q→P:=by
 intro zz;refine⟨by first|exact hS1|exact fun _=>hS1|exact fun _ _=>hS1,?_⟩;refine Reg.pt ?_;exact zz.out):P:=h ⟨k⟩

theorem Z65(k:Q) (h:Kq Q→P:=by
 intro zz;refine Reg.ty 10 ?_;refine Reg.ty 11 ?_;exact zz.out):P:=h ⟨k⟩

theorem Z66(k:Q) (h:Kq Q→P:=by
 intro zz;refine Reg.one (i:=22) rfl (by rfl) ?_;go_simp;exact zz.out):P:=h ⟨k⟩

theorem Z67(k:Q) (h:Kq Q→P:=by
 intro zz;have hFi:=(hB6.i.other (b2:=w.heap.size+1+1) (o:=0) (by omega) (.int .i64 ec)).other (b2:=w.heap.size+1+1) (o:=1) (by omega) (.int .i64 eq);have hFt:=(hB6.t.other (b2:=w.heap.size+1+1) (o:=0) (by omega) (.int .i64 ec)).other (b2:=w.heap.size+1+1) (o:=1) (by omega) (.int .i64 eq);have hFf:=hB6.f.set (.int .i64 ec) (.int .i64 eq);have hPW:=wordsP_tab hG5 (show w.heap.size+1+1<w5.heap.size from hB3.f.2.2.2) (fun k hk=>(H.out.v.lt k hk).2) hRw.2 hpost;obtain⟨WF,hWF⟩:∃W',((w6.setCell ⟨w.heap.size+1+1,0,none⟩ (.int .i64 ec)).setCell ⟨w.heap.size+1+1,1,none⟩ (.int .i64 eq))=W':=⟨_,rfl⟩
 rw[hWF]at hFi hFt hFf hPW;rw[hWF];obtain⟨q0,q1,qf,ql⟩:=hFi;obtain⟨y0,y1,yf,yl⟩:=hFt;obtain⟨v0',v1',vf',vl'⟩:=hFf;rw[←hxx2];revert hPW;revert vl';revert vf';revert v1';revert v0';revert yl;revert yf;revert y1;revert y0;revert ql;revert qf;revert q1;revert q0;revert hWF;revert WF;exact zz.out):P:=h ⟨k⟩

theorem Z68(k:Q) (h:Kq Q→P:=by
 intro zz;have hF:=hE'.set (.int .i64 4) (.int .i64 a);have sF7:=(((HG.out.st).trans HST.out).gr G7.out)
 have sF:St (FV own) (FV own') w _:=(sF7.setCell (p:=⟨w.heap.size+1,0,none⟩) (.inr (by simp only;omega)) (.int .i64 4)).setCell (p:=⟨w.heap.size+1,1,none⟩) (.inr (by simp only;omega)) (.int .i64 a);have hc2:((W7.setCell ⟨w.heap.size+1,0,none⟩ (.int .i64 4)).setCell ⟨w.heap.size+1,1,none⟩ (.int .i64 a)).cell? ⟨R,2,none⟩=some (.string s):=by
  exact J66
 obtain⟨WF,hWF⟩:∃W',((W7.setCell ⟨w.heap.size+1,0,none⟩ (.int .i64 4)).setCell ⟨w.heap.size+1,1,none⟩ (.int .i64 a))=W':=⟨_,rfl⟩
 rw[hWF]at hF sF hc2;rw[hWF];clear hWF;obtain⟨q0,q1,qf,ql⟩:=hF;rw[←hXX];revert hc2;revert sF;revert ql;revert qf;revert q1;revert q0;revert WF;revert sF7;exact zz.out):P:=h ⟨k⟩

theorem Z69(k:Q) (h:Kq Q→P:=by
 intro zz;have hqq:(((a:Int)==(s.size:Int))=true)∨(∃hlt:a<s.size,((a:Int)==(s.size:Int))=false∧((s[a].toNat:Int) != 46)=true):=by
  by_cases h:a<s.size
  · refine .inr ⟨h,by simp;omega,?_⟩;rw[byteAt_lt s a h]at hdot;simp;omega
  exact .inl (by simp;omega)
 have HX9:=Lib.hid hx9;have hk1:(0:Int)≤(a:Int):=by omega
 revert hqq HX9 hk1;exact zz.out):P:=h ⟨k⟩

theorem Z70(k:Q) (h:Kq Q→P:=by
 intro zz;have hSS:KeyS2 w VV:=⟨p4,p5⟩
 have hcK:acc.length+1≤capK∧capK≤9223372036854775807:=by
  rcases hFK with⟨h,_⟩|⟨g,c,h,h1,h2⟩
  · cases h
  cases h;exact⟨h1,h2⟩
 have hcS:acc.length+1≤capS∧capS≤9223372036854775807:=by
  rcases hFS with⟨h,_⟩|⟨g,c,h,h1,h2⟩
  · cases h
  cases h;exact⟨h1,h2⟩
 revert hSS hcK hcS;exact zz.out):P:=h ⟨k⟩

theorem Z71(k:Q) (h:Kq Q→P:=by
 intro zz;have hDf:DsW w.heap.size #[.bool (!o1.toList.isEmpty),.string o2,.string o4,.string o6,.string o7,.bool false,.bool false] r7 (((((((wc.setCell ⟨w.heap.size,0,none⟩ (.bool (!o1.toList.isEmpty))).setCell ⟨w.heap.size,1,none⟩ (.string o2)).setCell ⟨w.heap.size,2,none⟩ (.string o4)).setCell ⟨w.heap.size,3,none⟩ (.string o6)).setCell ⟨w.heap.size,4,none⟩ (.string o7)).setCell ⟨w.heap.size,5,none⟩ (.bool false)).setCell ⟨w.heap.size,6,none⟩ (.bool false)):=(((((((hDc.set 0 (.bool (!o1.toList.isEmpty))).set 1 (.string o2)).set 2 (.string o4)).set 3 (.string o6)).set 4 (.string o7)).set 5 (.bool false)).set 6 (.bool false))
 revert hDf;exact zz.out):P:=h ⟨k⟩

theorem Z72(k:Q) (h:Kq Q→P:=by
 intro zz;have hDf:DsW w.heap.size #[.bool (!o1.toList.isEmpty),.string o2,.string o4,.string o6,.string o7,.bool false,.bool true] r7 (((((((wc.setCell ⟨w.heap.size,0,none⟩ (.bool (!o1.toList.isEmpty))).setCell ⟨w.heap.size,1,none⟩ (.string o2)).setCell ⟨w.heap.size,2,none⟩ (.string o4)).setCell ⟨w.heap.size,3,none⟩ (.string o6)).setCell ⟨w.heap.size,4,none⟩ (.string o7)).setCell ⟨w.heap.size,5,none⟩ (.bool false)).setCell ⟨w.heap.size,6,none⟩ (.bool true)):=(((((((hDc.set 0 (.bool (!o1.toList.isEmpty))).set 1 (.string o2)).set 2 (.string o4)).set 3 (.string o6)).set 4 (.string o7)).set 5 (.bool false)).set 6 (.bool true))
 revert hDf;exact zz.out):P:=h ⟨k⟩

theorem Z73(k:Q) (h:Kq Q→P:=by
 intro zz;have hDf:DsW w.heap.size #[.bool (!o1.toList.isEmpty),.string o2,.string o4,.string o6,.string o7,.bool true,.bool false] r7 (((((((wc.setCell ⟨w.heap.size,0,none⟩ (.bool (!o1.toList.isEmpty))).setCell ⟨w.heap.size,1,none⟩ (.string o2)).setCell ⟨w.heap.size,2,none⟩ (.string o4)).setCell ⟨w.heap.size,3,none⟩ (.string o6)).setCell ⟨w.heap.size,4,none⟩ (.string o7)).setCell ⟨w.heap.size,5,none⟩ (.bool true)).setCell ⟨w.heap.size,6,none⟩ (.bool false)):=(((((((hDc.set 0 (.bool (!o1.toList.isEmpty))).set 1 (.string o2)).set 2 (.string o4)).set 3 (.string o6)).set 4 (.string o7)).set 5 (.bool true)).set 6 (.bool false))
 revert hDf;exact zz.out):P:=h ⟨k⟩

theorem Z74(k:Q) (h:Kq Q→P:=by
 intro zz;have hDf:DsW w.heap.size #[.bool (!o1.toList.isEmpty),.string o2,.string o4,.string o6,.string o7,.bool true,.bool true] r7 (((((((wc.setCell ⟨w.heap.size,0,none⟩ (.bool (!o1.toList.isEmpty))).setCell ⟨w.heap.size,1,none⟩ (.string o2)).setCell ⟨w.heap.size,2,none⟩ (.string o4)).setCell ⟨w.heap.size,3,none⟩ (.string o6)).setCell ⟨w.heap.size,4,none⟩ (.string o7)).setCell ⟨w.heap.size,5,none⟩ (.bool true)).setCell ⟨w.heap.size,6,none⟩ (.bool true)):=(((((((hDc.set 0 (.bool (!o1.toList.isEmpty))).set 1 (.string o2)).set 2 (.string o4)).set 3 (.string o6)).set 4 (.string o7)).set 5 (.bool true)).set 6 (.bool true))
 revert hDf;exact zz.out):P:=h ⟨k⟩

theorem Z75(k:Q) (h:Kq Q→P:=by
 intro zz;go_simp;refine⟨by first|exact (HS0.out.gr (((Gr.refl W).alloc (.cells #[.int .i64 0,.int .i64 0] 31)).drew))|exact fun _=>(HS0.out.gr (((Gr.refl W).alloc (.cells #[.int .i64 0,.int .i64 0] 31)).drew))|exact fun h=>h.gr ((Gr.refl _).alloc _)|exact fun _ h=>h.gr ((Gr.refl _).alloc _),?_⟩;refine Reg.pt ?_;exact zz.out):P:=h ⟨k⟩

theorem Z76(k:Q) (h:Kq Q→P:=by
 intro zz;go_simp;refine⟨by first|exact (HS0.out.gr (((Gr.refl W).alloc (.cells #[.int .i64 0,.int .i64 0] 60)).drew))|exact fun _=>(HS0.out.gr (((Gr.refl W).alloc (.cells #[.int .i64 0,.int .i64 0] 60)).drew))|exact fun h=>h.gr ((Gr.refl _).alloc _)|exact fun _ h=>h.gr ((Gr.refl _).alloc _),?_⟩;refine Reg.pt ?_;exact zz.out):P:=h ⟨k⟩

theorem Z77(k:Q) (h:Kq Q→P:=by
 intro zz;refine Reg.ty 14 ?_;refine Reg.ty 15 ?_;refine Reg.ty 16 ?_;exact zz.out):P:=h ⟨k⟩

theorem Z78(k:Q) (h:Kq Q→P:=by
 intro zz;have HR5:=Lib.hid ((hr5.setCell (p:=⟨w.heap.size,0,none⟩) hn5 (.int .i64 0)).setCell (p:=⟨w.heap.size,1,none⟩) hn5 (.int .i64 0));have HST5:=Lib.hid (((HST3.out.trans hst5).setCell (p:=⟨w.heap.size,0,none⟩) (.inr (Nat.le_refl _)) (.int .i64 0)).setCell (p:=⟨w.heap.size,1,none⟩) (.inr (Nat.le_refl _)) (.int .i64 0));revert HR5 HST5;exact zz.out):P:=h ⟨k⟩

theorem Z79(k:Q) (h:Kq Q→P:=by
 intro zz;refine Reg.one (i:=15) rfl (by rfl) ?_;go_simp;exact zz.out):P:=h ⟨k⟩

theorem Z80(k:Q) (h:Kq Q→P:=by
 intro zz;refine⟨by first|exact hS6|exact fun _=>hS6|exact fun _ _=>hS6,?_⟩;refine Reg.pt ?_;exact zz.out):P:=h ⟨k⟩

theorem Z81(k:Q) (h:Kq Q→P:=by
 intro zz;refine (tq_feed _ R s m q out ov (RdQ.auto HR2.out) hm hs).mono ?_;rw[HFD.out];rintro e w1 ⟨rfl,g1⟩;obtain⟨hc1,hf1,hz1⟩:=g1.use;simp at hz1;have hy2:w.heap.size<w1.heap.size:=by omega
 have hyn:¬w.heap.size=w1.heap.size:=by omega
 revert hz1;revert hyn;revert hy2;revert hf1;revert hc1;revert g1;revert w1;exact zz.out):P:=h ⟨k⟩

theorem Z82(k:Q) (h:Kq Q→P:=by
 intro zz;have hemp:t.toList.isEmpty=false:=by
  exact J23
 have hcv:=Lib.run_convert_string_bytes (P:=Tryz.prog) w 9 34 5 t (u := .string) (by kernel_rfl) (by kernel_rfl) (by kernel_rfl);revert hemp hcv;exact zz.out):P:=h ⟨k⟩

theorem Z83(k:Q) (h:Kq Q→P:=by
 intro zz;refine Z319 ?_;refine Reg.tl 1 hS ?_ (hy:=by intro w hSw;obtain⟨⟨s0,s1,sf,sl⟩,⟨s2,s3,sf2,sl2⟩⟩:=hSw;go_simp;try with_reducible rfl);refine Reg.on 2 ?_;exact zz.out):P:=h ⟨k⟩

theorem Z84(k:Q) (h:Kq Q→P:=by
 intro zz;have HR':=Lib.hid hr';have HOWN:Hid (∀k,own' k≠0→own k≠0∨w.heap.size+1≤k):=fun k hk=>(hown k hk).imp id (fun e=>by simpa using e)
 have HL':=Lib.hid hL';revert HR' HOWN HL';exact zz.out):P:=h ⟨k⟩

theorem Z86(k:Q) (h:Kq Q→P:=by
 intro zz;refine⟨by first|exact hSS|exact fun _=>hSS|exact fun _ h=>h,?_⟩;refine Reg.pt ?_;exact zz.out):P:=h ⟨k⟩

theorem Z87(k:Q) (h:Kq Q→P:=by
 intro zz;refine Reg.ty 3 ?_;refine Reg.tl 2 hS ?_ (hy:=by intro w hSw;obtain⟨⟨s0,s1,s2,s3⟩,s4,s5⟩:=hSw;go_simp;try with_reducible rfl);refine Reg.tl 4 hS ?_ (hy:=by intro w hSw;obtain⟨⟨s0,s1,s2,s3⟩,s4,s5⟩:=hSw;go_simp;try with_reducible rfl);refine Reg.ty 5 ?_;refine Reg.ty 6 ?_;refine Reg.tl 7 hS ?_ (hy:=by intro w hSw;obtain⟨⟨s0,s1,s2,s3⟩,s4,s5⟩:=hSw;go_simp;try with_reducible rfl);refine Reg.on 8 ?_;go_simp;refine (HIHR.out wq.drew (HGQ.out.trans (Gr.refl wq).drew)).mono ?_;rintro e w4 ⟨q4,rfl,hq4,g4⟩;have hS4:=hS.gr g4;have hq4s:q4.size=a.length:=by rw[←hq4,bs_length]
 revert w4 q4 hq4 g4 hS4 hq4s;exact zz.out):P:=h ⟨k⟩

theorem Z88(k:Q) (h:Kq Q→P:=by
 intro zz;rintro e w1 ⟨rfl,g1⟩;obtain⟨hc1,hf1,hz1⟩:=g1.use;simp at hz1;revert hz1;revert hf1;revert hc1;revert g1;revert w1;exact zz.out):P:=h ⟨k⟩

theorem Z89(k:Q) (h:Kq Q→P:=by
 intro zz;refine Reg.one (i:=8) rfl (by rfl) ?_;refine wp_append_lies _ (.tmp 68) (.tmp 70) 50 (by rfl) base 79 iI _ 9 120 Tryz.underlying50 HII.out.1 HII.out.2.1 HII.out.2.2.1 HII.out.2.2.2 (by rfl) (by decide) x1.iv g.its.length xi (by rfl) HR2.out.i _ 1 1 [.int .u8 it.kind,.int .i64 it.a,.int .i64 it.b,.slice ka kn kc,.slice sa sn sc,.int .i64 it.va,.int .i64 it.vb,.slice ta tn tc,.int .i64 it.root] (by rfl) (by rfl) (World.news_of_block NBI.out) (by simp[Value.oneCell']) (by decide) (by unfold maxLen;omega) (by omega) (Nat.le_trans hbase HR2.out.st.size) _ rfl ?_;intro gI capI V3 ho hg ha hz;have HR3:=Lib.hid (HR2.out.appI ho hg ha);have lV3:=Nat.le_trans lV2 hg.size;revert gI capI V3 ho hg ha hz HR3 lV3;exact zz.out):P:=h ⟨k⟩

theorem Z90(k:Q) (h:Kq Q→P:=by
 intro zz;rw[World.cell?_setCell_other _ _ _ _ (by first|(simp;done)|(simp;omega)),World.cell?_setCell_other _ _ _ _ (by first|(simp;done)|(simp;omega))];exact zz.out):P:=h ⟨k⟩

theorem Z91(k:Q) (h:Kq Q→P:=by
 intro zz;have k1:(1:Int)≤(z.size:Int):=by omega
 have k4:(4:Int)≤(z.size:Int):=by omega
 have HV1:=Lib.hid hV1;have HV2:=Lib.hid hV2;revert k1 k4 HV1 HV2;exact zz.out):P:=h ⟨k⟩

theorem Z92(k:Q) (h:Kq Q→P:=by
 intro zz;refine Reg.ty 4 ?_;refine Reg.ty 5 ?_;exact zz.out):P:=h ⟨k⟩

theorem Z93(k:Q) (h:Kq Q→P:=by
 intro zz;have HY:Hid (Pl.mayD c=false):=Lib.hid (by rw[HX.out,hAt,tB];rfl);revert HY;exact zz.out):P:=h ⟨k⟩

theorem Z94(k:Q) (h:Kq Q→P:=by
 intro zz;refine Reg.sk 14 ?_;refine Reg.sk 15 ?_;refine Reg.sk 16 ?_;exact zz.out):P:=h ⟨k⟩

theorem Z95(k:Q) (h:Kq Q→P:=by
 intro zz;have HKS:=Lib.hid (ks_put HR4.out NBC4.out NBF4.out);obtain⟨VE,hVE⟩:∃VE,(V4.setCell ⟨w.heap.size,0,none⟩ (.slice (some ⟨gK,0,none⟩) (acc.length+1) capK)).setCell ⟨w.heap.size,1,none⟩ (.slice (some ⟨gS,0,none⟩) (acc.length+1) capS)=VE:=⟨_,rfl⟩
 have HKS':=HKS.out;revert HKS VE hVE HKS';exact zz.out):P:=h ⟨k⟩

theorem Z96(k:Q) (h:Kq Q→P:=by
 intro zz;go_simp;refine (HWAY.out (((W.alloc (.cells #[.int .i64 0,.int .i64 0] 31)).alloc (.cells #[.int .i64 0,.int .i64 0] 60)).drew) (HG.out.trans ((((Gr.refl W).alloc (.cells #[.int .i64 0,.int .i64 0] 31)).alloc (.cells #[.int .i64 0,.int .i64 0] 60)).drew))).mono ?_;exact zz.out):P:=h ⟨k⟩

theorem Z97(k:Q) (h:Kq Q→P:=by
 intro zz;go_simp;refine (HWAY.out (((W.alloc (.cells #[.int .i64 0,.int .i64 0] 60)).alloc (.cells #[.int .i64 0,.int .i64 0] 31)).drew) (HG.out.trans ((((Gr.refl W).alloc (.cells #[.int .i64 0,.int .i64 0] 60)).alloc (.cells #[.int .i64 0,.int .i64 0] 31)).drew))).mono ?_;exact zz.out):P:=h ⟨k⟩

theorem Z98(k:Q) (h:Kq Q→P:=by
 intro zz;refine Reg.begin' (W:=fun i=>i != 3) (S:=FX w.heap.size (.int .i64 0) (.int .i64 0)) (by kernel_rfl) ?_;refine Z314 ?_;exact zz.out):P:=h ⟨k⟩

theorem Z99(k:Q) (h:Kq Q→P:=by
 intro zz;have tg:∀k,own k≠0→¬FI own i k→(if kv.ownBlock=some k then 4+3*i else if sv.ownBlock=some k then 5+3*i else if uv.ownBlock=some k then 6+3*i else own k)=own k:=by
  intro k h0 hF;have hk:=(h.lt k h0).2;have a1:kv.ownBlock≠some k:=fun e=>(H.fk k e).elim hF (fun e=>by omega)
  have a2:sv.ownBlock≠some k:=fun e=>(H.fs k e).elim hF (fun e=>by omega)
  have a3:uv.ownBlock≠some k:=fun e=>(H.fu k e).elim hF (fun e=>by omega)
  simp only[a1,a2,a3,if_false]
 revert tg;exact zz.out):P:=h ⟨k⟩

theorem Z100(k:Q) (h:Kq Q→P:=by
 intro zz;refine⟨by first|exact hS1|exact fun _=>hS1,?_⟩;refine Reg.pt ?_;exact zz.out):P:=h ⟨k⟩

theorem Z101(k:Q) (h:Kq Q→P:=by
 intro zz;refine Reg.ty 17 ?_;refine Reg.ty 18 ?_;exact zz.out):P:=h ⟨k⟩

theorem Z102(k:Q) (h:Kq Q→P:=by
 intro zz;have HST:Hid (∀V,Gr w V→Rows3 w V base (FI own i) r.kv r.sv r.uv r.nd.keys.length r.nd.spots.length r.nd.subs.length (keysV r.nd.keys) (spotsV r.nd.spots) (subsV r.nd.subs)):=fun V g1=>h.start3 g1 i r hr h8
 obtain⟨iK,k1,k2,k3,k4⟩:=info_parts infoStr;obtain⟨iS,s1,s2,s3,s4⟩:=info_parts infoSpan;obtain⟨iU,u1,u2,u3,u4⟩:=info_parts infoInt;have HIK:=Lib.hid (And.intro k1 (And.intro k2 (And.intro k3 k4)));have HIS:=Lib.hid (And.intro s1 (And.intro s2 (And.intro s3 s4)));have HIU:=Lib.hid (And.intro u1 (And.intro u2 (And.intro u3 u4)));have hi1:(0:Int)≤(i:Int):=by omega
 have hi2:(i:Int)<(L.length:Int):=by omega
 revert HST iK k1 k2 k3 k4 iS s1 s2 s3 s4 iU u1 u2 u3 u4 HIK HIS HIU hi1 hi2;exact zz.out):P:=h ⟨k⟩

theorem Z103(k:Q) (h:Kq Q→P:=by
 intro zz;obtain⟨hB,gB,zB⟩:=bx2 W0 (.int .i64 0) (.int .i64 0) 31;obtain⟨W1,hW1⟩:∃W1,W0.alloc (.cells #[.int .i64 0,.int .i64 0] 31)=W1:=⟨_,rfl⟩
 rw[hW1]at hB gB zB;rw[zA]at hB zB;revert zB;revert hB;revert gB;revert hW1;revert W1;exact zz.out):P:=h ⟨k⟩

theorem Z104(k:Q) (h:Kq Q→P:=by
 intro zz;have HK:Hid (false=(r7.toList.isEmpty && (o3.toList.isEmpty==o4.toList.isEmpty) && (o5.toList.isEmpty==o7.toList.isEmpty))):=Lib.hid (by rw[hov,H3.out,f2,H5.out,g2];rfl);revert HK;exact zz.out):P:=h ⟨k⟩

theorem Z105(k:Q) (h:Kq Q→P:=by
 intro zz;have hsp:=HRS2.out.span T rT HRT.out (n:Int) ((e2:Int)+1);have HR12:Hid (RdV ((w7.setCell ⟨gN,T*7+5,none⟩ (.int .i64 (n:Int))).setCell ⟨gN,T*7+5+1,none⟩ (.int .i64 ((e2:Int)+1))) R B base s root (.slice (some ⟨gN,0,none⟩) (L5).length capN) ((L5).set T (spanR rT (n:Int) ((e2:Int)+1))) own5):=hsp.1;have HST12:Hid (St (FV own) (FV own5) w ((w7.setCell ⟨gN,T*7+5,none⟩ (.int .i64 (n:Int))).setCell ⟨gN,T*7+5+1,none⟩ (.int .i64 ((e2:Int)+1)))):=HSTS.out.trans hsp.2;revert hsp HR12 HST12;exact zz.out):P:=h ⟨k⟩

theorem Z106(k:Q) (h:Kq Q→P:=by
 intro zz;have hS3:=putS_of HR3.out NBT3.out HC.out;refine⟨fun _ _=>hS3,?_⟩;refine Reg.pt ?_;revert hS3;exact zz.out):P:=h ⟨k⟩

theorem Z107(k:Q) (h:Kq Q→P:=by
 intro zz;have HK:Hid (true=(r7.toList.isEmpty && (o3.toList.isEmpty==o4.toList.isEmpty) && (o5.toList.isEmpty==o7.toList.isEmpty))):=Lib.hid (by rw[hov,H3.out,f2,H5.out,g2];rfl);revert HK;exact zz.out):P:=h ⟨k⟩

theorem Z108(k:Q) (h:Kq Q→P:=by
 intro zz;rw[←HXX.out];refine bodyPost_ret (v := .tuple #[.int .i64 T,.int .i64 (e2+1:Nat),f0]) (by simp[results,Tryz.results94,go_sem,p0,p1,pf,pl]) rfl ⟨rfl,by have:=HGS.out;omega,by simpa using hTl,_,_,own5,((HR12.out.setCell hnO _).setCell hnO _).drew,?_,((HST12.out.setCell (.inr (Nat.le_refl _)) _).setCell (.inr (Nat.le_refl _)) _).drew,fun k hk=>(HOWNS.out k hk).imp id (fun e=>by have:=HZB.out;omega)⟩;rw[map_set_span _ T rT _ _ HRT.out];exact zz.out):P:=h ⟨k⟩

theorem Z109(k:Q) (h:Kq Q→P:=by
 intro zz;have hu:=hst.use w.heap.size (by omega) (fun hF=>by have:=HR.out.own_lt hF;omega);have hz2:=hst.size;have hg2:Gr w w2:=hst.below hg (fun k hF=>by have:=HR.out.own_lt hF;omega);revert hu hz2 hg2;exact zz.out):P:=h ⟨k⟩

theorem Z110(k:Q) (h:Kq Q→P:=by
 intro zz;have hS3:=putS_of HR3.out NBT3.out HC.out;refine⟨by first|exact hS3|exact fun _=>hS3,?_⟩;refine Reg.pt ?_;revert hS3;exact zz.out):P:=h ⟨k⟩

theorem Z111(k:Q) (h:Kq Q→P:=by
 intro zz;refine Reg.one (i:=8) rfl (by rfl) ?_;go_simp;have HR':=HR1.out.alloc (.cells #[.string key] 9);have NBK':=HR1.out.newB #[.string key] 9;have NBT':=NBT1.out.alloc (.cells #[.string key] 9);revert HR' NBK' NBT';exact zz.out):P:=h ⟨k⟩

theorem Z112(k:Q) (h:Kq Q→P:=by
 intro zz;refine Reg.ty 13 ?_;refine Reg.ty 14 ?_;refine Reg.ty 15 ?_;refine Reg.tl 6 hS ?_ (hy:=by intro w hSw;obtain⟨x1,x2,x3,xf⟩:=hSw;go_simp;try with_reducible rfl);refine Reg.tl 11 hS ?_ (hy:=by intro w hSw;obtain⟨x1,x2,x3,xf⟩:=hSw;go_simp;try with_reducible rfl);refine Reg.tl 16 hS ?_ (hy:=by intro w hSw;obtain⟨x1,x2,x3,xf⟩:=hSw;go_simp;try with_reducible rfl);refine Reg.on 7 ?_;go_simp;refine (HKC.out _).mono ?_;exact zz.out):P:=h ⟨k⟩

theorem Z113(k:Q) (h:Kq Q→P:=by
 intro zz;refine wp_append_lies _ (.tmp 24) (.tmp 26) 74 (by rfl) base 9 iK _ 1 16 Tryz.underlying74 HIK.out.1 HIK.out.2.1 HIK.out.2.2.1 HIK.out.2.2.2 (by rfl) (by decide) r.kv r.nd.keys.length (keysV r.nd.keys) (by rfl) HR3.out.k _ 1 1 [.string key] (by rfl) (by rfl) (World.news_of_block NBK3.out.blk) (by simp[Value.oneCell']) (by decide) (by unfold maxLen;omega) (by omega) (Nat.le_trans hbase HR3.out.size) _ rfl ?_;intro gK capK V4 ho hg ha hz;have HR4:=Lib.hid (HR3.out.appK ho hg ha);have NBT4:=Lib.hid (NBT3.out.appK (n:=r.nd.keys.length+1) (cap:=capK) hg ha);revert gK capK V4 ho hg ha hz HR4 NBT4;exact zz.out):P:=h ⟨k⟩

theorem Z114(k:Q) (h:Kq Q→P:=by
 intro zz;refine Z311 ?_;intro hB3 hK5;have hS3:WB3 w.heap.size (.int .i64 0) (.int .i64 0) (.slice none 0 0) (.int .i64 0) (.int .i64 0) (.int .i64 0) w5.drew∧FX bK (.slice (some ⟨gk,0,none⟩) ws.length ck) (.slice (some ⟨gs,0,none⟩) ws.length cs) w5.drew:=⟨hB3.gr (Gr.refl w5).drew,hK5.gr (Gr.refl w5).drew⟩
 have g5d:=g5.drew;revert hB3 hK5 hS3 g5d;exact zz.out):P:=h ⟨k⟩

theorem Z115(k:Q) (h:Kq Q→P:=by
 intro zz;refine Reg.ty 0 ?_;refine Reg.ty 3 ?_;refine Reg.ty 7 ?_;refine Reg.tl 8 hSS ?_ (hy:=by intro w hSw;obtain⟨q1,q2⟩:=hSw;go_simp;try with_reducible rfl);refine Reg.all (rs:=[1,4]) (by kernel_rfl) (by simp) ?_;exact zz.out):P:=h ⟨k⟩

theorem Z116(k:Q) (h:Kq Q→P:=by
 intro zz;have HR':=HR1.out.alloc (.cells #[.int .i64 a,.int .i64 b] 73);have NBS':=HR1.out.newB #[.int .i64 a,.int .i64 b] 73;have NBT':=NBT1.out.alloc (.cells #[.int .i64 a,.int .i64 b] 73);revert HR' NBS' NBT';exact zz.out):P:=h ⟨k⟩

theorem Z117(k:Q) (h:Kq Q→P:=by
 intro zz;refine Reg.one (i:=15) rfl (by rfl) ?_;exact zz.out):P:=h ⟨k⟩

theorem Z118(k:Q) (h:Kq Q→P:=by
 intro zz;have e0:∀xs:List UInt8,strOfNums (xs.map fun x=>(x.toNat:Int))=⟨xs.toArray⟩:=by
  intro xs;unfold strOfNums;rw[List.map_map];congr 2
  conv=>rhs;rw[←List.map_id xs]
  exact List.map_congr_left (fun x _=>by simp)
 revert e0;exact zz.out):P:=h ⟨k⟩

theorem Z119(k:Q) (h:Kq Q→P:=by
 intro zz;obtain⟨⟨c0,c1,c2,c3,c4,c5,c6⟩,c7,c8,fz⟩:=h.v.cells;have hR:=h.v.R_lt;have HLK:=Lib.hid (fun W (q:Gr w W)=>h.v.look i (by omega) W (q.block h.v.B_lt.2));obtain⟨sh,sof,hso⟩:∃a b,g.srt.getD i (0,0)=(a,b):=⟨_,_,rfl⟩
 have hs:Pl.sortOf g i=(sh,sof):=hso;rw[hso]at HLK;revert HLK;revert hs;revert hso;revert sof;revert sh;revert hR;revert fz;revert c8;revert c7;revert c6;revert c5;revert c4;revert c3;revert c2;revert c1;revert c0;exact zz.out):P:=h ⟨k⟩

theorem Z120(k:Q) (h:Kq Q→P:=by
 intro zz;rintro e w7 ⟨rfl,hc,F',hst7,hrk7⟩;have HRK7:=Lib.hid ((hrk7.set (b:=w.heap.size) (o:=0) (by omega) (.int .i64 c)).set (b:=w.heap.size) (o:=1) (by omega) (.int .i64 p));clear hrk7;revert w7 hc F' hst7 HRK7;exact zz.out):P:=h ⟨k⟩

theorem Z121(k:Q) (h:Kq Q→P:=by
 intro zz;refine (tq_common _ R s a q out ov (RdQ.auto HS.out) hlt hs ho).mono ?_;exact zz.out):P:=h ⟨k⟩

theorem Z122(k:Q) (h:Kq Q→P:=by
 intro zz;have hbl:=congrArg List.length hb2;rw[List.length_append,bs_length]at hbl;simp only[List.length_cons,List.length_append]at hbl;have k4:=(HGQ.out.use.1 _ _ bl).trans b4;have ku:=(HGQ.out.use.1 _ _ hgl).trans hcu;have hFq:=HTB.out.gr (HG1.out.trans HGQ.out);have hSq:TxS w.heap.size W.heap.size gu m (.slice (some ⟨gn,0,none⟩) L.length L.length) (.int .i64 root) r.nd.subs.length uc r.nd.subs[m] wq:=⟨hFq,k4,ku⟩
 have HHB:=Lib.hid hb2;have HSQ:=Lib.hid hSq;revert hbl;revert HSQ;revert HHB;revert hSq;revert hFq;revert ku;revert k4;exact zz.out):P:=h ⟨k⟩

theorem Z123(k:Q) (h:Kq Q→P:=by
 intro zz;have HV:Hid (-9223372036854775808≤v∧v≤9223372036854775807):=⟨hv0,hv1⟩
 revert HV;exact zz.out):P:=h ⟨k⟩

theorem Z124(k:Q) (h:Kq Q→P:=by
 intro zz;have hF:=Hb.out.set (.int .i64 n) (.int .i64 d');have gF:Gr w _:=((HG3.out).setCell (p:=⟨w.heap.size,0,none⟩) (Nat.le_refl _) (.int .i64 n)).setCell (p:=⟨w.heap.size,1,none⟩) (Nat.le_refl _) (.int .i64 d');obtain⟨WF,hWF⟩:∃W',((w2.setCell ⟨w.heap.size,0,none⟩ (.int .i64 n)).setCell ⟨w.heap.size,1,none⟩ (.int .i64 d'))=W':=⟨_,rfl⟩
 rw[hWF]at hF gF;rw[hWF];clear hWF;obtain⟨q0,q1,qf,ql⟩:=hF;revert gF;revert ql;revert qf;revert q1;revert q0;revert WF;exact zz.out):P:=h ⟨k⟩

theorem Z125(k:Q) (h:Kq Q→P:=by
 intro zz;have hR1:=HR2.out.gr (((Gr.refl wr).drewN _).trans g1);obtain⟨x0,x1,x2,x3,xz⟩:=hR1.cells;have xz1:=xz 1;have hR3:=hR1.lt;have hR4:¬R=w1.heap.size:=by omega
 have HR1:=Lib.hid hR1;revert hR1 x0 x1 x2 x3 xz xz1 hR3 hR4 HR1;exact zz.out):P:=h ⟨k⟩

theorem Z126(k:Q) (h:Kq Q→P:=by
 intro zz;have HW:=Lib.hid hw;have HRV:=Lib.hid hrv;have HR:=Lib.hid hr;have HY:=Lib.hid hY;have HL:=Lib.hid hL;have HXf:=Lib.hid hXf;have HXz:=Lib.hid hXz;have HXt:=Lib.hid hXt;revert HW HRV HR HY HL HXf HXz HXt;exact zz.out):P:=h ⟨k⟩

theorem Z127(k:Q) (h:Kq Q→P:=by
 intro zz;have hfx5:=HFX.out.st hst5 hn2';have HFX5:=Lib.hid (hfx5.set (.int .i64 c) (.int .i64 p));have HST5:=Lib.hid (((HST3.out.trans hst5).setCell (p:=⟨w.heap.size,0,none⟩) (.inr (Nat.le_refl _)) (.int .i64 c)).setCell (p:=⟨w.heap.size,1,none⟩) (.inr (Nat.le_refl _)) (.int .i64 p));have HXX:Hid (Pl.Res.bad c p=X):=by
  have:=HX.out;rw[←htf]at this;exact this
 have HC:=Lib.hid hc;obtain⟨a0,a1,af,al⟩:=hfx5;have hc':¬(c:Int)=0:=by omega
 revert HFX5 HST5 HXX HC a0 a1 af al hc';exact zz.out):P:=h ⟨k⟩

theorem Z128(k:Q) (h:Kq Q→P:=by
 intro zz;have hF:=h.set c q;have hzz:((w2.setCell ⟨z,0,none⟩ c).setCell ⟨z,1,none⟩ q).heap.size=w2.heap.size:=by simp[World.setCell]
 have hs:∀(F F':Nat→Prop) (w:World),St F F' w w2→w.heap.size≤z→St F F' w ((w2.setCell ⟨z,0,none⟩ c).setCell ⟨z,1,none⟩ q):=fun F F' w g l=>(g.setCell (p:=⟨z,0,none⟩) (.inr l) _).setCell (p:=⟨z,1,none⟩) (.inr l) _
 revert hF hzz hs;exact zz.out):P:=h ⟨k⟩

theorem Z129(k:Q) (h:Kq Q→P:=by
 intro zz;have k2:=keep2 (x := .int .i64 0) (y := .int .i64 0) e0 e1;have k3:∀o,((w1.setCell ⟨w.heap.size,0,none⟩ (.int .i64 0)).setCell ⟨w.heap.size,1,none⟩ (.int .i64 0)).frozen? ⟨w.heap.size,o,none⟩=w1.frozen? ⟨w.heap.size,o,none⟩:=by
  exact J19
 have g2:Gr w ((w1.setCell ⟨w.heap.size,0,none⟩ (.int .i64 0)).setCell ⟨w.heap.size,1,none⟩ (.int .i64 0)):=Gr.auto;revert k2 k3 g2;exact zz.out):P:=h ⟨k⟩

theorem Z130(k:Q) (h:Kq Q→P:=by
 intro zz;have hk1:(0:Int)≤(a:Int)+1:=by omega
 have hk2:(a:Int)+1≤(s.size:Int):=by omega
 have hk3:((a:Int)+1).toNat=a+1:=by omega
 revert hk1 hk2 hk3;exact zz.out):P:=h ⟨k⟩

theorem Z131(k:Q) (h:Kq Q→P:=by
 intro zz;have hy1:w.heap.size<w2.heap.size:=by omega
 have hy2:w.heap.size+1<w2.heap.size:=by omega
 revert hy1 hy2;exact zz.out):P:=h ⟨k⟩

theorem Z132(k:Q) (h:Kq Q→P:=by
 intro zz;obtain⟨l,hL⟩:∃l,l=t.data.toList:=⟨_,rfl⟩
 have hLn:l.length=t.size:=by rw[hL,Lib.size_eq]
 revert l hL hLn;exact zz.out):P:=h ⟨k⟩

theorem Z133(k:Q) (h:Kq Q→P:=by
 intro zz;obtain⟨V3,hV⟩:∃V',V2.alloc (.cells #[.int .i64 a,.int .i64 b] 73)=V':=⟨_,rfl⟩
 revert V3 hV;exact zz.out):P:=h ⟨k⟩

theorem Z134(k:Q) (h:Kq Q→P:=by
 intro zz;have F5:=Lib.hid f5;have F6:=Lib.hid f6;have HST:=Lib.hid hst;have HGM:=Lib.hid hgm;have HON:=Lib.hid hon;obtain⟨k0,k1,kf,kl⟩:=id f6;have hlw:∃wt a b,ws[la]?=some (wt,a,b):=by
  exact J59
 obtain⟨wt,a,b,hwl⟩:=hlw;revert F5 F6 HST HGM HON k0 k1 kf kl wt a b hwl;exact zz.out):P:=h ⟨k⟩

theorem Z135(k:Q) (h:Kq Q→P:=by
 intro zz;refine⟨by first|exact hF4|exact fun _=>hF4|exact fun _ _=>hF4,?_⟩;refine Reg.pt ?_;exact zz.out):P:=h ⟨k⟩

theorem Z136(k:Q) (h:Kq Q→P:=by
 intro zz;refine (tv_pair E hE wr R B base s root V HV.out nv2 L2 own2 HR3.out HGW.out hs T d m2 hm2 hd (by omega) _ hP (by simp)).mono ?_;exact zz.out):P:=h ⟨k⟩

theorem Z137(k:Q) (h:Kq Q→P:=by
 intro zz;go_simp;have HR':=HR2.out.alloc (.cells #[.string key] 9);have NBK':=HR2.out.newB #[.string key] 9;have NBT':=NBT2.out.alloc (.cells #[.string key] 9);revert HR' NBK' NBT';exact zz.out):P:=h ⟨k⟩

theorem Z138(k:Q) (h:Kq Q→P:=by
 intro zz;refine Reg.begin' (W:=fun _=>true) (S:=CutS w w.heap.size d t p z n) (by kernel_rfl) ?_;refine Reg.ty 0 ?_;refine Reg.tl 1 hS ?_ (hy:=by intro w hSw;obtain⟨⟨p0,p1,p2,p3,p4,pf,hz⟩,_,_⟩:=hSw;go_simp;try with_reducible rfl);refine Reg.ty 2 ?_;refine Reg.on 3 ?_;go_simp;refine (HA1.out _).mono ?_;rintro e w3 ⟨rfl,g3⟩;have hS3:=hS.gr g3;revert w3 g3 hS3;exact zz.out):P:=h ⟨k⟩

theorem Z140(k:Q) (h:Kq Q→P:=by
 intro zz;have HF12:Hid (FX w.heap.size (.int .i64 0) (.int .i64 0) ((w7.setCell ⟨gN,T*7+5,none⟩ (.int .i64 (n:Int))).setCell ⟨gN,T*7+5+1,none⟩ (.int .i64 ((e2:Int)+1)))):=HFS.out.st hsp.2 hnO;obtain⟨wS,hwS⟩:∃v,(w7.setCell ⟨gN,T*7+5,none⟩ (.int .i64 (n:Int))).setCell ⟨gN,T*7+5+1,none⟩ (.int .i64 ((e2:Int)+1))=v:=⟨_,rfl⟩
 revert HF12 wS hwS;exact zz.out):P:=h ⟨k⟩

theorem Z141(k:Q) (h:Kq Q→P:=by
 intro zz;obtain⟨W7,hW7⟩:∃W7,w6.alloc (.cells #[.int .i64 a,.int .i64 b] 73)=W7:=⟨_,rfl⟩
 obtain⟨hsp,g7,z7⟩:=bx2 w6 (.int .i64 a) (.int .i64 b) 73;rw[hW7]at hsp g7 z7;have G7:=Lib.hid (G56.out.trans g7);revert z7;revert g7;revert hsp;revert G7;revert hW7;revert W7;exact zz.out):P:=h ⟨k⟩

theorem Z142(k:Q) (h:Kq Q→P:=by
 intro zz;have hi1:(0:Int)≤(i:Int):=by omega
 have hi2:(i:Int)<(L.length:Int):=by omega
 revert hi1 hi2;exact zz.out):P:=h ⟨k⟩

theorem Z143(k:Q) (h:Kq Q→P:=by
 intro zz;refine Reg.ty 6 ?_;refine Reg.ty 7 ?_;refine Reg.tl 8 hS ?_ (hy:=by intro w hSw;obtain⟨s1,s2,s3,s4⟩:=hSw;go_simp;try with_reducible rfl);refine Reg.ty 9 ?_;refine Reg.tl 10 hS ?_ (hy:=by intro w hSw;obtain⟨s1,s2,s3,s4⟩:=hSw;go_simp;try with_reducible rfl);refine Reg.ty 11 ?_;refine Reg.ty 12 ?_;exact zz.out):P:=h ⟨k⟩

theorem Z144(k:Q) (h:Kq Q→P:=by
 intro zz;have hc:=hB k hkn;have hdrop:l.drop k=l[k]'(by omega)::l.drop (k+1):=List.drop_eq_getElem_cons (by omega);revert hc hdrop;exact zz.out):P:=h ⟨k⟩

theorem Z145(k:Q) (h:Kq Q→P:=by
 intro zz;refine (tv_byte _ R s (by rw[((Gr.refl w).alloc _).use.1 _ _ hR.2];exact c2) n n rfl).mono ?_;exact zz.out):P:=h ⟨k⟩

theorem Z146(k:Q) (h:Kq Q→P:=by
 intro zz;refine bodyPost_ret (v := .tuple #[.int .i64 L.length,.int .i64 (n+k:Nat),f0]) (by simp[results,Tryz.results90,go_sem,p0,p1,pf,pl]) rfl ?_;refine⟨by simp,hnk,by simp,nv',_,own',(H3.out.setCell hn3 _).setCell hn3 _,by simp[leafR,bs],?_,fun k hk=>(HO3.out k hk).imp id (fun e=>Nat.le_trans hG3.size e)⟩;exact zz.out):P:=h ⟨k⟩

theorem Z147(k:Q) (h:Kq Q→P:=by
 intro zz;go_simp;refine (HWAY.out ((W.alloc (.cells #[.int .i64 0,.int .i64 0] 31)).drew) (HG.out.trans (((Gr.refl W).alloc (.cells #[.int .i64 0,.int .i64 0] 31)).drew))).mono ?_;exact zz.out):P:=h ⟨k⟩

theorem Z148(k:Q) (h:Kq Q→P:=by
 intro zz;go_simp;refine (HWAY.out ((W.alloc (.cells #[.int .i64 0,.int .i64 0] 60)).drew) (HG.out.trans (((Gr.refl W).alloc (.cells #[.int .i64 0,.int .i64 0] 60)).drew))).mono ?_;exact zz.out):P:=h ⟨k⟩

theorem Z149(k:Q) (h:Kq Q→P:=by
 intro zz;have hb2:=Pl.blanksAt_le (bs s) (a+1) (by rw[bs_length];omega);rw[bs_length]at hb2;have hk1:(0:Int)≤(a:Int):=by omega
 have hk2:(a:Int)<(s.size:Int):=by omega
 have HX9:=Lib.hid hx9;revert hb2;revert HX9;revert hk2;revert hk1;exact zz.out):P:=h ⟨k⟩

theorem Z150(k:Q) (h:Kq Q→P:=by
 intro zz;obtain⟨W0,hW0⟩:∃W0,w1.alloc (.cells #[.string bg,.int .i64 bb,.string ds] 215)=W0:=⟨_,rfl⟩
 revert W0 hW0;exact zz.out):P:=h ⟨k⟩

theorem Z151(k:Q) (h:Kq Q→P:=by
 intro zz;refine Reg.begin' (W:=fun i=>i != 2) (S:=FX w.heap.size (.int .i64 c) (.int .i64 p)) (by kernel_rfl) ?_;refine Reg.tl 0 hFS ?_ (hy:=by intro w hSw;obtain⟨q0,q1,qf,ql⟩:=hSw;go_simp;try with_reducible rfl);refine Reg.ty 1 ?_;refine Reg.on 2 ?_;go_simp;rw[setCell_self hFd.1,setCell_self hFd.2.1];exact zz.out):P:=h ⟨k⟩

theorem Z152(k:Q) (h:Kq Q→P:=by
 intro zz;refine Reg.begin' (W:=fun i=>i != 11) (S:=KeyS2 w) (by kernel_rfl) ?_;obtain⟨VV,hVV⟩:∃VV,w3.drew=VV:=⟨_,rfl⟩
 have HK4:=HK3.out.gr ((Gr.refl w3).drew);rw[hVV]at HK4 ⊢;revert HK4;revert hVV;revert VV;exact zz.out):P:=h ⟨k⟩

theorem Z153(k:Q) (h:Kq Q→P:=by
 intro zz;have wd:IntKind.i64.wrap ((d:Int)+1)=(d:Int)+1:=IntWalk.i64_in _ ⟨by omega,by omega⟩;revert wd;exact zz.out):P:=h ⟨k⟩

theorem Z154(k:Q) (h:Kq Q→P:=by
 intro zz;have HR':=HR1.out.alloc (.cells #[.int .i64 n] 3);have NBU':=HR1.out.newB #[.int .i64 n] 3;have NBT':=NBT1.out.alloc (.cells #[.int .i64 n] 3);revert HR' NBU' NBT';exact zz.out):P:=h ⟨k⟩

theorem Z155(k:Q) (h:Kq Q→P:=by
 intro zz;refine (tv_fine_yes _).mono ?_;rintro e w2 ⟨rfl,g2⟩;revert w2 g2;exact zz.out):P:=h ⟨k⟩

theorem Z156(k:Q) (h:Kq Q→P:=by
 intro zz;have HCV:=Lib.hid (fun W=>Lib.run_convert_string_bytes (P:=Tryz.prog) W 9 34 5 s (u := .string) (by kernel_rfl) (by kernel_rfl) (by kernel_rfl));have gB:=gr_bytesWorld w 5 s;have HPARSE:=Lib.hid (tt_Parse Tb (Lib.bytesWorld w 5 s) (hRW.gr gB) s hs (some ⟨w.heap.size,0,none⟩) s.size (grownCap w s.size 0 5) (fun W q=>conv_back w s _ W q) _ hX (by simp));revert HCV gB HPARSE;exact zz.out):P:=h ⟨k⟩

theorem Z157(k:Q) (h:Kq Q→P:=by
 intro zz;refine Reg.one (i:=16) rfl (by rfl) ?_;exact zz.out):P:=h ⟨k⟩

theorem Z158(k:Q) (h:Kq Q→P:=by
 intro zz;have hG6:Gr w w6:=(hG4.drew.trans g5).trans g6;revert hG6;exact zz.out):P:=h ⟨k⟩

theorem Z159(k:Q) (h:Kq Q→P:=by
 intro zz;obtain⟨hT,g3,z3⟩:=bx2 w2 (.int .i64 c) (.int .i64 p) 31;obtain⟨W3,hW3⟩:∃W3,w2.alloc (.cells #[.int .i64 c,.int .i64 p] 31)=W3:=⟨_,rfl⟩
 rw[hW3]at hT g3 z3;have HW3:=Lib.hid hW3;revert z3;revert g3;revert hT;revert HW3;revert hW3;revert W3;exact zz.out):P:=h ⟨k⟩

theorem Z160(k:Q) (h:Kq Q→P:=by
 intro zz;have HGR2:Hid (Gr w w2):=by
  refine Gr.trans ?_ g2;exact ((HGR.out.setCell (p:=⟨R,1,none⟩) (by show w.heap.size≤R;omega) _).setCell (p:=⟨w.heap.size+1,0,none⟩) (by show w.heap.size≤w.heap.size+1;omega) _).setCell (p:=⟨w.heap.size+1,1,none⟩) (by show w.heap.size≤w.heap.size+1;omega) _
 revert HGR2;exact zz.out):P:=h ⟨k⟩

theorem Z161(k:Q) (h:Kq Q→P:=by
 intro zz;have hcc:(((s[n].toNat:Int) != 34)=true∧((s[n].toNat:Int) != 39)=false)∨((s[n].toNat:Int) != 34)=false:=by
  rw[HQ.out];cases h34:(q.toNat==34)
  · exact .inl ⟨(beqs _ 34 _ h34).2,(beqs q.toNat 39 true (by have:=HQ1.out;rw[h34]at this;simpa using this)).2⟩
  exact .inr (beqs _ 34 _ h34).2
 revert hcc;exact zz.out):P:=h ⟨k⟩

theorem Z162(k:Q) (h:Kq Q→P:=by
 intro zz;have hF:FX w.heap.size (.int .i64 0) (.int .i64 0) w2:=((FX.new w (.int .i64 0) (.int .i64 0) 31).gr g1).gr g2;have hG:Gr w w2:=(((Gr.refl w).alloc _).trans g1).trans g2;revert hF hG;exact zz.out):P:=h ⟨k⟩

theorem Z163(k:Q) (h:Kq Q→P:=by
 intro zz;have HR:=Lib.hid hr;have HT:=Lib.hid hst;revert HR HT;exact zz.out):P:=h ⟨k⟩

theorem Z164(k:Q) (h:Kq Q→P:=by
 intro zz;have q1:=hcl 1 (.string ⟨r.nd.text.toArray⟩) rfl;have q2:=hcl 2 (.slice ka r.nd.keys.length kc) (by rw[←hkv];rfl);have q3:=hcl 3 (.slice sa r.nd.spots.length sc) (by rw[←hsv];rfl);have q4:=hcl 4 (.slice ua r.nd.subs.length uc) (by rw[←huv];rfl);have q5:=hcl 5 (.int .i64 r.nd.sp.1) rfl;have q6:=hcl 6 (.int .i64 r.nd.sp.2) rfl;revert q1 q2 q3 q4 q5 q6;exact zz.out):P:=h ⟨k⟩

theorem Z165(k:Q) (h:Kq Q→P:=by
 intro zz;obtain⟨hT9,g9,z9⟩:=bx2 W8 (.int .i64 n2) (.int .i64 d2) 60;obtain⟨W9,hW9⟩:∃W9,W8.alloc (.cells #[.int .i64 n2,.int .i64 d2] 60)=W9:=⟨_,rfl⟩
 rw[hW9]at hT9 g9 z9 ⊢;clear hW9;rw[z8]at hT9 z9;have hF9:=hF9'.gr g9;have sF9:=sF9'.gr g9;have hE9:=(hE'.of_block (bF8 (w.heap.size+1+1) (by have:=HZ.out;omega)) (Nat.le_of_eq z8.symm)).gr g9;revert z9;revert hT9;revert g9;revert hE9;revert sF9;revert hF9;revert W9;exact zz.out):P:=h ⟨k⟩

theorem Z166(k:Q) (h:Kq Q→P:=by
 intro zz;obtain⟨p0,p1,p2,p3,p4,p5,p6,p7⟩:=HK4.cells;have hklt4:=HK4.lt;have hFK:=own_form HK4.rows.k;have hFS:=own_form HK4.rows.s;rw[show (acc++[(t,n,e)]).length=acc.length+1 from by simp]at hFK hFS;have HK5:=Lib.hid HK4;revert hFS;revert hFK;revert HK5;revert hklt4;revert p7;revert p6;revert p5;revert p4;revert p3;revert p2;revert p1;revert p0;exact zz.out):P:=h ⟨k⟩

theorem Z167(k:Q) (h:Kq Q→P:=by
 intro zz;obtain⟨W1,hW1⟩:∃W1,W1=Lib.bytesWorld w 5 t:=⟨_,rfl⟩
 revert W1 hW1;exact zz.out):P:=h ⟨k⟩

theorem Z169(k:Q) (h:Kq Q→P:=by
 intro zz;have hy1:w.heap.size<w1.heap.size:=by omega
 have hy2:w.heap.size+1<w1.heap.size:=by omega
 revert hy1 hy2;exact zz.out):P:=h ⟨k⟩

theorem Z170(k:Q) (h:Kq Q→P:=by
 intro zz;obtain⟨V3,hV⟩:∃V',V2.alloc (.cells #[.int .i64 n] 3)=V':=⟨_,rfl⟩
 revert V3 hV;exact zz.out):P:=h ⟨k⟩

theorem Z171(k:Q) (h:Kq Q→P:=by
 intro zz;have hold:∀k,k<w.heap.size→k≠R→own k≠3→(w1.setCell ⟨R,0,none⟩ (.slice (some ⟨g,0,none⟩) (L.length+1) cap)).heap[k]?=w.heap[k]?:=by
  intro k hk hkR h3;rw[Below.heap_setCell _ _ _ _ (by simpa using hkR),hg.block k (by omega) (fun e=>h3 (h.oN k e.symm)),g1.block hk]
 revert hold;exact zz.out):P:=h ⟨k⟩

theorem Z172(k:Q) (h:Kq Q→P:=by
 intro zz;obtain⟨⟨i0,i1,i2,i3,i4,i5,i6,i7,i8⟩,ifz,ilt⟩:=itO_facts hI2;have hIne:¬I=w.heap.size:=by omega
 have hIne':¬w.heap.size=I:=by omega
 obtain⟨q0,q1,qf,ql⟩:=id hF;revert i0 i1 i2 i3 i4 i5 i6 i7 i8 ifz ilt hIne hIne' q0 q1 qf ql;exact zz.out):P:=h ⟨k⟩

theorem Z173(k:Q) (h:Kq Q→P:=by
 intro zz;refine Reg.all (rs:=[16,22]) (by kernel_rfl) (by simp) ?_;exact zz.out):P:=h ⟨k⟩

theorem Z174(k:Q) (h:Kq Q→P:=by
 intro zz;refine bodyPost_ret (v := .tuple #[.int .i64 x,.agg #[.int .i64 y,.int .i64 z]]) (by simp[results,Tryz.results51,go_sem,q0,q1,qf,ql]) rfl ?_;exact zz.out):P:=h ⟨k⟩

theorem Z175(k:Q) (h:Kq Q→P:=by
 intro zz;refine Reg.on 19 ?_;go_simp;exact zz.out):P:=h ⟨k⟩

theorem Z176(k:Q) (h:Kq Q→P:=by
 intro zz;refine⟨by simp,.inl ⟨_,_,rfl,run_takeDeferred hK,?_⟩⟩;have hc5:=cell_kept kr (grownBy_putObj' _ D (.deferred none)) (fun r e=>by cases e;exact⟨_,hK,rfl⟩);refine⟨.bool false,?_,by rw[HV.out],hB.trans (belowK_b (w:=w) (Nat.le_refl _) W D _ _ (by omega) hK rfl rfl)⟩;revert hc5;exact zz.out):P:=h ⟨k⟩

theorem Z177(k:Q) (h:Kq Q→P:=by
 intro zz;have HY:Hid (Pl.mayD c=true):=Lib.hid (by rw[HX.out,hAt,hBt,zC];rfl);revert HY;exact zz.out):P:=h ⟨k⟩

theorem Z178(k:Q) (h:Kq Q→P:=by
 intro zz;have e1:(d:Int)=(c.toNat:Int)-48:=by omega
 revert e1;exact zz.out):P:=h ⟨k⟩

theorem Z179(k:Q) (h:Kq Q→P:=by
 intro zz;have e1:(d:Int)=(c.toNat:Int)-55:=by omega
 revert e1;exact zz.out):P:=h ⟨k⟩

theorem Z180(k:Q) (h:Kq Q→P:=by
 intro zz;have e1:(d:Int)=(c.toNat:Int)-87:=by omega
 revert e1;exact zz.out):P:=h ⟨k⟩

theorem Z181(k:Q) (h:Kq Q→P:=by
 intro zz;refine (tt_fine_no c p (by omega) _).mono ?_;rintro e w5 ⟨rfl,g5⟩;revert w5 g5;exact zz.out):P:=h ⟨k⟩

theorem Z182(k:Q) (h:Kq Q→P:=by
 intro zz;refine (tl_wrong _ (n+pos) (by omega) _).mono ?_;rintro e w2 ⟨rfl,g2⟩;obtain⟨p0,p1,pf,pl⟩:=(((FX.new w (.int .i64 0) (.int .i64 0) 31).gr (gr_iterD w _ m want (pos+1))).gr ((Gr.refl _).drewN nq)).gr g2;have hG2:Gr w w2:=((((Gr.refl w).alloc _).trans (gr_iterD w _ m want (pos+1))).drewN nq).trans g2;clear g2;revert w2 p0 p1 pf pl hG2;exact zz.out):P:=h ⟨k⟩

theorem Z183(k:Q) (h:Kq Q→P:=by
 intro zz;have hLz:L.size≤D.size:=by
  have h1:=Pl.lowless_len (bs D);rw[bs_length]at h1;rw[hL];show (Pl.lowless (bs D)).toArray.size≤_
  simpa using h1
 revert hLz;exact zz.out):P:=h ⟨k⟩

theorem Z185(k:Q) (h:Kq Q→P:=by
 intro zz;have HR':=HR0.out.alloc (.cells #[.int .i64 a,.int .i64 b] 73);have NBS':=HR0.out.newB #[.int .i64 a,.int .i64 b] 73;have NBT':=NBT0.out.alloc (.cells #[.int .i64 a,.int .i64 b] 73);obtain⟨V1,hV⟩:∃V',V0.alloc (.cells #[.int .i64 a,.int .i64 b] 73)=V':=⟨_,rfl⟩
 rw[hV]at HR' NBS' NBT' ⊢;clear hV;revert NBT';revert NBS';revert HR';revert V1;exact zz.out):P:=h ⟨k⟩

theorem Z186(k:Q) (h:Kq Q→P:=by
 intro zz;refine Reg.ty 5 ?_;refine Reg.tl 6 hS ?_ (hy:=by intro w hSw;obtain⟨q0,q1,q2⟩:=hSw;go_simp;try with_reducible rfl);refine Reg.on 7 ?_;go_simp;refine (HI.out _ (HW.out.gr hG)).mono ?_;rintro e w1 ⟨rfl,k1,os1,rfl⟩;have hS1:=hS.gr (grow_gr _ k1 os1);have hG1:=hG.trans (grow_gr _ k1 os1);revert k1 os1 hS1 hG1;exact zz.out):P:=h ⟨k⟩

theorem Z187(k:Q) (h:Kq Q→P:=by
 intro zz;refine Reg.one (i:=8) rfl (by rfl) ?_;go_simp;have HR':=HR0.out.alloc (.cells #[.string key] 9);have NBK':=HR0.out.newB #[.string key] 9;have NBT':=NBT0.out.alloc (.cells #[.string key] 9);obtain⟨V1,hV⟩:∃V',V0.alloc (.cells #[.string key] 9)=V':=⟨_,rfl⟩
 rw[hV]at HR' NBK' NBT' ⊢;clear hV;revert NBT';revert NBK';revert HR';revert V1;exact zz.out):P:=h ⟨k⟩

theorem Z188(k:Q) (h:Kq Q→P:=by
 intro zz;refine Reg.on 17 ?_;go_simp;exact zz.out):P:=h ⟨k⟩

theorem Z189(k:Q) (h:Kq Q→P:=by
 intro zz;refine Reg.on 3 ?_;go_simp;exact zz.out):P:=h ⟨k⟩

theorem Z190(k:Q) (h:Kq Q→P:=by
 intro zz;refine Reg.ty 16 ?_;refine Reg.ty 17 ?_;refine Reg.on 18 ?_;go_simp;exact zz.out):P:=h ⟨k⟩

theorem Z191(k:Q) (h:Kq Q→P:=by
 intro zz;rw[←HXX.out];refine⟨by simp,by have:=HGS.out;omega,by simp,nv11,_,own11,(H11.out.setCell hn11 _).setCell hn11 _,by simp[listR],?_,fun k hk=>(HOWN12.out k hk).imp id (fun e=>Nat.le_trans (by have:=HZB.out;omega) e)⟩;exact zz.out):P:=h ⟨k⟩

theorem Z192(k:Q) (h:Kq Q→P:=by
 intro zz;have f6':=(F6.out.gr G7.out).st hst2 (fun e=>e z6);have hnE:¬FV own' (w.heap.size+1+1):=fun e=>(HON.out _ e).elim (fun h=>by have:=(H.out.v.lt _ h).2;omega) (fun h=>by have:=HZ.out;omega)
 have hE':=(HE.out.gr G7.out).st hst2 hnE;obtain⟨k0,k1,kf,kl⟩:=id f6';have hb6:b6<w8.heap.size:=f6'.2.2.2;revert f6' hnE hE' k0 k1 kf kl hb6;exact zz.out):P:=h ⟨k⟩

theorem Z193(k:Q) (h:Kq Q→P:=by
 intro zz;have hS:=HSQ.out.gr (Gr.refl wq).drew;refine Reg.begin' (W:=fun _=>true) (S:=TxS w.heap.size W.heap.size gu m (.slice (some ⟨gn,0,none⟩) L.length L.length) (.int .i64 root) r.nd.subs.length uc r.nd.subs[m]) (by kernel_rfl) ?_;refine Reg.ty 0 ?_;revert hS;exact zz.out):P:=h ⟨k⟩

theorem Z194(k:Q) (h:Kq Q→P:=by
 intro zz;have wj:IntKind.i64.wrap ((j:Int)+1)=(j:Int)+1:=IntWalk.i64_in _ ⟨by omega,by omega⟩;revert wj;exact zz.out):P:=h ⟨k⟩

theorem Z195(k:Q) (h:Kq Q→P:=by
 intro zz;obtain⟨f1,g2,z2⟩:=bx2 w (.slice (some ⟨gk,0,none⟩) ws.length ck) (.slice (some ⟨gs,0,none⟩) ws.length cs) 77;obtain⟨w2,h2⟩:∃w2,w.alloc (.cells #[.slice (some ⟨gk,0,none⟩) ws.length ck,.slice (some ⟨gs,0,none⟩) ws.length cs] 77)=w2:=⟨_,rfl⟩
 revert f1 g2 z2 w2 h2;exact zz.out):P:=h ⟨k⟩

theorem Z196(k:Q) (h:Kq Q→P:=by
 intro zz;have hb2:(0:Int)≤(bg.size:Int):=by omega
 have hB:s.extract bg.size s.size=s:=by
  exact J44
 revert hb2 hB;exact zz.out):P:=h ⟨k⟩

theorem Z197(k:Q) (h:Kq Q→P:=by
 intro zz;refine (tq_itself _ R s a q out ov (RdQ.auto HS.out) hlt hs ho).mono ?_;rw[←HX.out];exact zz.out):P:=h ⟨k⟩

theorem Z198(k:Q) (h:Kq Q→P:=by
 intro zz;have hemp:s.toList.isEmpty=false:=by simpa using hne
 have hp0:(0:Int)<(s.size:Int):=by omega
 have hp1:(1:Int)≤(s.size:Int):=by omega
 revert hemp hp0 hp1;exact zz.out):P:=h ⟨k⟩

theorem Z199(k:Q) (h:Kq Q→P:=by
 intro zz;refine Reg.ty 5 ?_;refine Reg.ty 8 ?_;refine Reg.tl 9 hS ?_ (hy:=by intro w hSw;obtain⟨q0,q1,qf,ql⟩:=hSw;go_simp;try with_reducible rfl);refine Reg.on 2 ?_;go_simp;refine (clip_ints_lit HROW9.out _).mono ?_;exact zz.out):P:=h ⟨k⟩

theorem Z200(k:Q) (h:Kq Q→P:=by
 intro zz;refine (HB2.out _).mono ?_;rintro e w5 ⟨rfl,g5⟩;have hb5:=(g5.block hz).trans hb4;have hG5:=hG4.trans g5;revert w5 g5 hb5 hG5;exact zz.out):P:=h ⟨k⟩

theorem Z201(k:Q) (h:Kq Q→P:=by
 intro zz;refine (HB3.out _).mono ?_;rintro e w6 ⟨rfl,g6⟩;have hb6:=(g6.block hz).trans hb5;have hG6:=hG5.trans g6;revert w6 g6 hb6 hG6;exact zz.out):P:=h ⟨k⟩

theorem Z202(k:Q) (h:Kq Q→P:=by
 intro zz;refine (HV1.out _).mono ?_;rintro e w7 ⟨rfl,g7⟩;have hb7:=(g7.block hz).trans hb6;have hG7:=hG6.trans g7;revert w7 g7 hb7 hG7;exact zz.out):P:=h ⟨k⟩

theorem Z203(k:Q) (h:Kq Q→P:=by
 intro zz;have hLz:L.size≤s.size:=by
  have h1:=Pl.lowless_len (bs s);rw[bs_length]at h1;rw[hL];show (Pl.lowless (bs s)).toArray.size≤_
  simpa using h1
 have hnb:¬ 9223372036854775807<L.size:=by omega
 have hnb2:¬ 9223372036854775807<(0+L.size):=by omega
 revert hLz hnb hnb2;exact zz.out):P:=h ⟨k⟩

theorem Z204(k:Q) (h:Kq Q→P:=by
 intro zz;have hm:=h.more s hs [97] (b+2*j,b+2*j+1) (by omega);have hlen:(putG (growG g 8 s) into [97] (b+2*j,b+2*j+1) g.nds.length).nds.length=g.nds.length+1:=by
  show (putAt (g.nds++[growNd 8]) into _ _ _).length=_;rw[put_len];simp
 revert hm hlen;exact zz.out):P:=h ⟨k⟩

theorem Z205(k:Q) (h:Kq Q→P:=by
 intro zz;refine Reg.ty 18 ?_;refine Reg.ty 19 ?_;refine Reg.on 20 ?_;go_simp;refine Reg.ty 21 ?_;refine Reg.ty 22 ?_;refine Reg.on 23 ?_;go_simp;refine Reg.ty 24 ?_;refine Reg.ty 25 ?_;refine Reg.on 26 ?_;go_simp;exact zz.out):P:=h ⟨k⟩

theorem Z206(k:Q) (h:Kq Q→P:=by
 intro zz;refine (tt_fine_yes _).mono ?_;rintro e w5 ⟨rfl,g5⟩;revert w5 g5;exact zz.out):P:=h ⟨k⟩

theorem Z207(k:Q) (h:Kq Q→P:=by
 intro zz;have hx:=h.rows i r hr;have kp:∀ {e size n v xs t},w.ownsRow base e size v n xs→Tagged own v t→t≠0→W.ownsRow base e size v n xs:=fun ho ht h0=>ownsRow_of_block ho fun k e=>g1.block (h.lt k (by rw[ht k e];exact h0)).2
 revert hx kp;exact zz.out):P:=h ⟨k⟩

theorem Z208(k:Q) (h:Kq Q→P:=by
 intro zz;refine Reg.one (i:=2) rfl (by rfl) ?_;go_simp;refine (clip_strs gK (acc.length+1) capK hcK.1 hcK.2 _).mono ?_;exact zz.out):P:=h ⟨k⟩

theorem Z209(k:Q) (h:Kq Q→P:=by
 intro zz;have hz7:W.heap.size≤W7.heap.size:=Nat.le_trans HST.out.size G7.out.size;revert hz7;exact zz.out):P:=h ⟨k⟩

theorem Z210(k:Q) (h:Kq Q→P:=by
 intro zz;have HR1:=Lib.hid HRn;have NBN:=Lib.hid NBn;have gV1:=Lib.hid gVn;have zV1:=Lib.hid zVn;revert HR1 NBN gV1 zV1;exact zz.out):P:=h ⟨k⟩

theorem Z211(k:Q) (h:Kq Q→P:=by
 intro zz;refine Reg.ty 6 ?_;refine Reg.on 9 ?_;go_simp;refine⟨keyS2_set hSS,?_⟩;exact zz.out):P:=h ⟨k⟩

theorem Z212(k:Q) (h:Kq Q→P:=by
 intro zz;have hlt:∀k,own k≠0→k<W.heap.size:=fun k hk=>Nat.lt_of_lt_of_le (H.out.v.lt k hk).2 HG.out.size
 have HZ:=Lib.hid hz;revert hlt HZ;exact zz.out):P:=h ⟨k⟩

theorem Z213(k:Q) (h:Kq Q→P:=by
 intro zz;obtain⟨c0,c1,c2,hlt⟩:W2.cell? ⟨w1.heap.size,0,none⟩=some (.string bg)∧W2.cell? ⟨w1.heap.size,1,none⟩=some (.int .i64 bb)∧W2.cell? ⟨w1.heap.size,2,none⟩=some (.string ds)∧w1.heap.size<W2.heap.size:=⟨k0,k1,k2,kl⟩
 revert c0 c1 c2 hlt;exact zz.out):P:=h ⟨k⟩

theorem Z214(k:Q) (h:Kq Q→P:=by
 intro zz;refine (show Calls Tryz.prog 68 #[.pointer (some ⟨R,0,none⟩),.int .i64 (m2:Int),.int .i64 ((d:Int)+1)] w3 _ from HV.out w3 nv2 L2 own2 HR3.out HGW3.out m2 (d+1) hm2 (by omega) _ hZ (by simp)).mono ?_;exact zz.out):P:=h ⟨k⟩

theorem Z215(k:Q) (h:Kq Q→P:=by
 intro zz;have hidx:=idx_find key r.nd.keys 0;rw[show Lib.idxFromS (r.nd.keys.map fun k=>(⟨k.toArray⟩:ByteArray)) key 0=Lib.idxOfS (r.nd.keys.map fun k=>(⟨k.toArray⟩:ByteArray)) key from rfl]at hidx;simp only[Nat.zero_add]at hidx;revert hidx;exact zz.out):P:=h ⟨k⟩

theorem Z216(k:Q) (h:Kq Q→P:=by
 intro zz;obtain⟨V2,hV⟩:∃V',V1.alloc (.cells #[.int .i64 a,.int .i64 b] 73)=V':=⟨_,rfl⟩
 revert V2 hV;exact zz.out):P:=h ⟨k⟩

theorem Z217(k:Q) (h:Kq Q→P:=by
 intro zz;have e0:0<s.size:=by
  rcases Nat.eq_zero_or_pos s.size with h|h
  · exfalso;apply h1;rw[Lib.toList_data];exact List.eq_nil_of_length_eq_zero (by rw[bs_length];exact h)
  exact h
 have e1:(0:Int)<(s.size:Int):=by omega
 revert e0 e1;exact zz.out):P:=h ⟨k⟩

theorem Z218(k:Q) (h:Kq Q→P:=by
 intro zz;obtain⟨b1,b2⟩:=beqs _ 92 _ he;have hX:=Pl.escAt_rel T (bs s) a (by rw[bs_length];omega);have hov:=Pl.escSR_over T ((bs s).drop a);obtain⟨sr,hsr⟩:∃sr,sr=Pl.escSR T ((bs s).drop a):=⟨_,rfl⟩
 rw[←hsr]at hX hov ⊢;have HO:=Lib.hid hov;have HX:=Lib.hid hX;revert hov;revert hX;revert HX;revert HO;revert hsr;revert sr;revert b2;revert b1;exact zz.out):P:=h ⟨k⟩

theorem Z219(k:Q) (h:Kq Q→P:=by
 intro zz;have hu:=hst.use (w.heap.size+1) (by simp) (fun hF=>by have:=HS.out.own_lt hF;omega);revert hu;exact zz.out):P:=h ⟨k⟩

theorem Z220(k:Q) (h:Kq Q→P:=by
 intro zz;refine (show Calls Tryz.prog 68 #[.pointer (some ⟨R,0,none⟩),.int .i64 (e2:Int),.int .i64 ((d':Int)+1)] w6 _ from HV.out w6 nv' L' own' hr6 hgw6 e2 (d'+1) he2s (by omega) _ hZ (by simp)).mono ?_;exact zz.out):P:=h ⟨k⟩

theorem Z221(k:Q) (h:Kq Q→P:=by
 intro zz;have HR':=HR0.out.alloc (.cells #[.int .i64 n] 3);have NBU':=HR0.out.newB #[.int .i64 n] 3;have NBT':=NBT0.out.alloc (.cells #[.int .i64 n] 3);obtain⟨V1,hV⟩:∃V',V0.alloc (.cells #[.int .i64 n] 3)=V':=⟨_,rfl⟩
 rw[hV]at HR' NBU' NBT' ⊢;clear hV;revert NBT';revert NBU';revert HR';revert V1;exact zz.out):P:=h ⟨k⟩

theorem Z222(k:Q) (h:Kq Q→P:=by
 intro zz;refine (tk_Blanks s n2 n2 rfl hn2 (by omega) _).mono ?_;rintro e w7 ⟨rfl,g7⟩;rw[HE2.out];have hz7:z0≤w7.heap.size:=Nat.le_trans hz6 g7.size;have HFX7:=Lib.hid (HFX6.out.gr g7);have HR7:=Lib.hid (HR6.out.gr g7);have HST7:=Lib.hid (HST6.out.gr g7);have kv2:=HR7.out.cells.2.2.1;revert w7 g7 hz7 HFX7 HR7 HST7 kv2;exact zz.out):P:=h ⟨k⟩

theorem Z223(k:Q) (h:Kq Q→P:=by
 intro zz;have hgo:own g=3:=h.oN g rfl;have hgl:=h.lt g (by omega);have hz:=H.size;have hR:=h.R_lt;have hB:=h.B_lt;obtain⟨WF,hWF⟩:∃WF,((W.setCell ⟨g,i*7+2,none⟩ kv).setCell ⟨g,i*7+3,none⟩ sv).setCell ⟨g,i*7+4,none⟩ uv=WF:=⟨_,rfl⟩
 revert hgo hgl hz hR hB WF hWF;exact zz.out):P:=h ⟨k⟩

theorem Z224(k:Q) (h:Kq Q→P:=by
 intro zz;obtain⟨g0,g1,g2,g3,gz⟩:=hr2.cells;have HR2:=Lib.hid hr2;have hcv:(convert 34 9 ov').run Tryz.prog (w2.alloc (.cells #[.int .i64 0,.int .i64 0] 31)).drew = .ok (strV (out++t)) (w2.alloc (.cells #[.int .i64 0,.int .i64 0] 31)).drew:=conv_own ((hr2.alloc _).drew).own;revert g0 g1 g2 g3 gz HR2 hcv;exact zz.out):P:=h ⟨k⟩

theorem Z225(k:Q) (h:Kq Q→P:=by
 intro zz;obtain⟨hA,gA,zA⟩:=bx2 w2 (.slice (some ⟨gn,0,none⟩) L.length L.length) (.int .i64 0) 29;obtain⟨W0,hW0⟩:∃W0,w2.alloc (.cells #[.slice (some ⟨gn,0,none⟩) L.length L.length,.int .i64 0] 29)=W0:=⟨_,rfl⟩
 rw[hW0]at hA gA zA;revert zA;revert gA;revert hA;revert hW0;revert W0;exact zz.out):P:=h ⟨k⟩

theorem Z226(k:Q) (h:Kq Q→P:=by
 intro zz;have HK:Hid (false=(r7.toList.isEmpty && (o3.toList.isEmpty==o4.toList.isEmpty) && (o5.toList.isEmpty==o7.toList.isEmpty))):=Lib.hid (by rw[hov,H3.out,f2];cases o5.toList.isEmpty==o7.toList.isEmpty <;> rfl);revert HK;exact zz.out):P:=h ⟨k⟩

theorem Z227(k:Q) (h:Kq Q→P:=by
 intro zz;go_simp;refine (clip_spans gS (acc.length+1) capS hcS.1 hcS.2 _).mono ?_;exact zz.out):P:=h ⟨k⟩

theorem Z228(k:Q) (h:Kq Q→P:=by
 intro zz;have SY:True:=trivial;clear SY;have hdv:d=Pl.digV c.toNat:=hd;revert hdv;exact zz.out):P:=h ⟨k⟩

theorem Z229(k:Q) (h:Kq Q→P:=by
 intro zz;have hk1:(0:Int)≤(n:Int):=by omega
 have hk2:(n:Int)<(s.size:Int):=by omega
 revert hk1 hk2;exact zz.out):P:=h ⟨k⟩

theorem Z230(k:Q) (h:Kq Q→P:=by
 intro zz;have hTn:¬T.toList=[]:=by
  rw[Lib.toList_data];intro h;have h2:=congrArg List.length h;have h3:=bs_length T;unfold bs at h3;rw[h3,hTz]at h2;simp at h2
 have hTe:T.toList.isEmpty=false:=by simpa using hTn
 revert hTn hTe;exact zz.out):P:=h ⟨k⟩

theorem Z231(k:Q) (h:Kq Q→P:=by
 intro zz;refine (tv_fine_no c p hc' _).mono ?_;rintro e w2 ⟨rfl,g2⟩;revert w2 g2;exact zz.out):P:=h ⟨k⟩

theorem Z232(k:Q) (h:Kq Q→P:=by
 intro zz;obtain⟨c0,c1,c2,c3,fz⟩:=h.cells;have hlt:=h.lt;revert c0 c1 c2 c3 fz hlt;exact zz.out):P:=h ⟨k⟩

theorem Z233(k:Q) (h:Kq Q→P:=by
 intro zz;obtain⟨sr,hs1,hs2⟩:=Pl.readF_step _ _ _ _ _ _ HX2.out hne (by rw[List.length_drop,bs_length];omega);rw[List.drop_drop,show n+(a-n)=a from by omega]at hs1;have HS1:=Lib.hid hs1;have HS2:=Lib.hid hs2;clear hs1 hs2;revert HS2;revert HS1;revert sr;exact zz.out):P:=h ⟨k⟩

theorem Z234(k:Q) (h:Kq Q→P:=by
 intro zz
 try dsimp only
 refine Reg.ty 18 ?_;refine Reg.ty 19 ?_;refine Reg.ty 20 ?_;refine Reg.ty 21 ?_;exact zz.out):P:=h ⟨k⟩

theorem Z235(k:Q) (h:Kq Q→P:=by
 intro zz;have h1:=H.2 j (ready_mono hj hji);obtain⟨hjun,oj,hoj,hall⟩:=mem_ready.1 hj;have hiun:l.getD i false=false:=by
  have h0:=(mem_ready.1 hr).1;rcases Nat.lt_or_ge i l.size with h'|h'
  · simp[h']at h0 ⊢;exact h0
  simp[Array.getElem?_eq_none h']at h0
 revert h1 hjun oj hoj hall hiun;exact zz.out):P:=h ⟨k⟩

theorem Z236(k:Q) (h:Kq Q→P:=by
 intro zz;refine (tq_itself _ R s a q out ov (RdQ.auto hRd.out) hlt hs ho).mono ?_;exact zz.out):P:=h ⟨k⟩

theorem Z237(k:Q) (h:Kq Q→P:=by
 intro zz;refine⟨_,false,nv5,L5,own5,rfl,rfl,rfl,he3,HR10.out,?_,HFX10.out,HG.out.st HST10.out (fun k hk=>(H.out.lt k hk).1),HST10.out,HOWN5.out,hz10⟩;rw[if_neg (by simp)];exact zz.out):P:=h ⟨k⟩

theorem Z238(k:Q) (h:Kq Q→P:=by
 intro zz;refine⟨by first|exact hS2|exact fun _=>hS2|exact fun _ _=>hS2,?_⟩;refine Reg.pt ?_;exact zz.out):P:=h ⟨k⟩

theorem Z239(k:Q) (h:Kq Q→P:=by
 intro zz;have hS:FX w.heap.size (.int .i64 0) (.int .i64 0) w9.drew:=HFS9.out.gr (Gr.refl _).drew;refine Reg.begin' (W:=fun i=>i != 12) (S:=FX w.heap.size (.int .i64 0) (.int .i64 0)) (by kernel_rfl) ?_;revert hS;exact zz.out):P:=h ⟨k⟩

theorem Z240(k:Q) (h:Kq Q→P:=by
 intro zz;refine bodyPost_ret (v:=fv 3 (a+2)) (by simp[results,Tryz.results234,go_sem,q0,q1]) rfl ?_;rw[HX.out,HU.out,HVR.out];have hst:St (FQ R ov) (FQ R ov) w w2:=(((HG.out.trans g1)).trans g2).st;revert hst;exact zz.out):P:=h ⟨k⟩

theorem Z241(k:Q) (h:Kq Q→P:=by
 intro zz;have wm:IntKind.i64.wrap ((x.many:Int)+1)=(x.many:Int)+1:=IntWalk.i64_in _ ⟨by omega,by omega⟩;revert wm;exact zz.out):P:=h ⟨k⟩

theorem Z242(k:Q) (h:Kq Q→P:=by
 intro zz;refine (tl_fine_no c p (by omega) _).mono ?_;rintro e w3 ⟨rfl,g3⟩;revert w3 g3;exact zz.out):P:=h ⟨k⟩

theorem Z243(k:Q) (h:Kq Q→P:=by
 intro zz;obtain⟨X,hX⟩:∃X:Pl.SR,X=Pl.itself ((bs s).drop a):=⟨_,rfl⟩
 rw[←hX];have HX:=Lib.hid hX;revert X hX HX;exact zz.out):P:=h ⟨k⟩

theorem Z244(k:Q) (h:Kq Q→P:=by
 intro zz;have HFS9:=Lib.hid (HFS.out.gr g9);have HRS9:=Lib.hid (HRS.out.gr g9);have HST9:=Lib.hid (HSTS.out.gr g9);have HROW9:=Lib.hid (ownsRow_of_block HROW.out (fun k e=>g9.block (HROW.out.lt k e).2));have hz9:z0≤w9.heap.size:=Nat.le_trans HZS.out g9.size;revert HFS9 HRS9 HST9 HROW9 hz9;exact zz.out):P:=h ⟨k⟩

theorem Z246(k:Q) (h:Kq Q→P:=by
 intro zz;have k1:(0:Int)≤(m:Int):=by omega
 have k2:(m:Int)<(r.nd.subs.length:Int):=by omega
 have wm:IntKind.i64.wrap ((m:Int)+1)=(m:Int)+1:=IntWalk.i64_in _ ⟨by omega,by omega⟩;revert k1 k2 wm;exact zz.out):P:=h ⟨k⟩

theorem Z247(k:Q) (h:Kq Q→P:=by
 intro zz;refine bodyPost_ret (v := .tuple #[.string ⟨#[]⟩,.int .i64 0,fv 3 (a+p)]) (by simp[results,Tryz.results87,go_sem,p0,p1,p2,p3,hlw]) rfl ?_;rw[←HS2.out];exact zz.out):P:=h ⟨k⟩

theorem Z248(k:Q) (h:Kq Q→P:=by
 intro zz;have hmv:IntKind.u64.wrap (IntKind.u64.wrap 18446744073709551616-1)=18446744073709551615:=by
  exact J22
 revert hmv;exact zz.out):P:=h ⟨k⟩

theorem Z249(k:Q) (h:Kq Q→P:=by
 intro zz;obtain⟨V2,hV⟩:∃V',V1.alloc (.cells #[.int .i64 n] 3)=V':=⟨_,rfl⟩
 revert V2 hV;exact zz.out):P:=h ⟨k⟩

theorem Z250(k:Q) (h:Kq Q→P:=by
 intro zz;obtain⟨V2,hV⟩:∃V',V1.alloc (.cells #[.string key] 9)=V':=⟨_,rfl⟩
 revert V2 hV;exact zz.out):P:=h ⟨k⟩

theorem Z251(k:Q) (h:Kq Q→P:=by
 intro zz;obtain⟨V3,hV⟩:∃V',V2.alloc (.cells #[.string key] 9)=V':=⟨_,rfl⟩
 revert V3 hV;exact zz.out):P:=h ⟨k⟩

theorem Z252(k:Q) (h:Kq Q→P:=by
 intro zz;have NBS3:=Lib.hid (NBS2.out.appK (n:=r.nd.keys.length+1) (cap:=capK) hg ha);revert NBS3;exact zz.out):P:=h ⟨k⟩

theorem Z253(k:Q) (h:Kq Q→P:=by
 intro zz;have NBU3:=Lib.hid (NBU2.out.appK (n:=r.nd.keys.length+1) (cap:=capK) hg ha);revert NBU3;exact zz.out):P:=h ⟨k⟩

theorem Z254(k:Q) (h:Kq Q→P:=by
 intro zz;obtain⟨q0,q1,qf,ql⟩:=hFa.gr (Gr.refl WF).drew;obtain⟨y0,y1,yf,yl⟩:=hFb.gr (Gr.refl WF).drew;revert q0 q1 qf ql y0 y1 yf yl;exact zz.out):P:=h ⟨k⟩

theorem Z255(k:Q) (h:Kq Q→P:=by
 intro zz;refine (HL.out _ HG5.out).mono ?_;rintro e w6 ⟨rfl,g6⟩;have HG6:=Lib.hid (HG5.out.trans g6);clear g6;revert w6 HG6;exact zz.out):P:=h ⟨k⟩

theorem Z256(k:Q) (h:Kq Q→P:=by
 intro zz;refine (tv_byte w7 R s kv2 e2 e2 rfl).mono ?_;exact zz.out):P:=h ⟨k⟩

theorem Z257(k:Q) (h:Kq Q→P:=by
 intro zz;have hB1:FX (w.heap.size+1) (.int .i64 0) (.int .i64 0) W:=by
  rw[←hW];have:=FX.new (w.alloc (.cells #[.int .i64 an,.int .i64 d] 60)) (.int .i64 0) (.int .i64 0) 60;exact J14
 revert hB1;exact zz.out):P:=h ⟨k⟩

theorem Z258(k:Q) (h:Kq Q→P:=by
 intro zz;refine bodyPost_ret (v:=f0) (by simp[results,Tryz.results233,go_sem,r0,r1]) rfl ?_;exact zz.out):P:=h ⟨k⟩

theorem Z259(k:Q) (h:Kq Q→P:=by
 intro zz;rw[show (w2.alloc (.cells #[.slice (some ⟨gn,0,none⟩) L.length L.length,.int .i64 0] 29)).alloc (.cells #[.int .i64 0,.int .i64 0] 31)=W1 from HW1.out];exact zz.out):P:=h ⟨k⟩

theorem Z260(k:Q) (h:Kq Q→P:=by
 intro zz;have wa:IntKind.i64.wrap ((a:Int)+1)=(a:Int)+1:=IntWalk.i64_in _ ⟨by omega,by omega⟩;revert wa;exact zz.out):P:=h ⟨k⟩

theorem Z261(k:Q) (h:Kq Q→P:=by
 intro zz;have hlt:a<s.size:=by
  by_cases h:a<s.size
  · exact h
  rw[byteAt_ge s a h]at hdot;cases hdot
 revert hlt;exact zz.out):P:=h ⟨k⟩

theorem Z262(k:Q) (h:Kq Q→P:=by
 intro zz;have hb3:=(HWB.out.gr HGD.out).st hst2 hnF;have hkc3:=(HKC.out.gr HGD.out).st hst2 (hnF _ (by omega) (by omega)) (hnF _ (by omega) (by omega)) hgk1 hgs1;obtain⟨p0,p1,pf,pl⟩:=id hb3.p;obtain⟨v0,v1,vf,vl⟩:=id hb3.f;dsimp only;refine Reg.ty 15 ?_;revert hb3 hkc3 p0 p1 pf pl v0 v1 vf vl;exact zz.out):P:=h ⟨k⟩

theorem Z263(k:Q) (h:Kq Q→P:=by
 intro zz;refine Reg.ty 4 ?_;refine Reg.tl 5 hS5 ?_ (hy:=by intro w hSw;obtain⟨s0',s1',sf',sl'⟩:=hSw;go_simp;try with_reducible rfl);refine Reg.ty 6 ?_;exact zz.out):P:=h ⟨k⟩

theorem Z264(k:Q) (h:Kq Q→P:=by
 intro zz;refine bodyPost_ret (v:=fv c' p) (by simp[results,Tryz.results233,go_sem,r0,r1]) rfl ?_;rw[HX.out,HQ.out];have hst0:St (FQ R ov) (FQ R ov) w w1:=HG.out.st.trans HST.out;have hst:=hst0;revert hst0 hst;exact zz.out):P:=h ⟨k⟩

theorem Z265(k:Q) (h:Kq Q→P:=by
 intro zz;have hF:FX w.heap.size (.int .i64 0) (.int .i64 0) w2:=(FX.new w (.int .i64 0) (.int .i64 0) 31).gr g2;have hG:Gr w w2:=((Gr.refl w).alloc _).trans g2;have hI2:=(hG.block hIl).trans HI.out;revert hF hG hI2;exact zz.out):P:=h ⟨k⟩

theorem Z266(k:Q) (h:Kq Q→P:=by
 intro zz;obtain⟨d,hd⟩:∃d,d=Pl.digV c.toNat:=⟨_,rfl⟩
 revert d hd;exact zz.out):P:=h ⟨k⟩

theorem Z267(k:Q) (h:Kq Q→P:=by
 intro zz;refine Reg.one (i:=4) rfl (by rfl) ?_;exact zz.out):P:=h ⟨k⟩

theorem Z268(k:Q) (h:Kq Q→P:=by
 intro zz;have HW1:=Lib.hid (show (w2.alloc (.cells #[.slice (some ⟨gn,0,none⟩) L.length L.length,.int .i64 0] 29)).alloc (.cells #[.int .i64 0,.int .i64 0] 31)=W1 by rw[hW0,hW1]);revert HW1;exact zz.out):P:=h ⟨k⟩

theorem Z269(k:Q) (h:Kq Q→P:=by
 intro zz;intro k e;simp only at e;have a1:kv.ownBlock≠some k:=fun e2=>H.ku k e2 e
 have a2:sv.ownBlock≠some k:=fun e2=>H.su k e2 e
 simp only[a1,a2,e,if_true,if_false];revert e;revert a2;revert a1;revert k;exact zz.out):P:=h ⟨k⟩

theorem Z270(k:Q) (h:Kq Q→P:=by
 intro zz;have k3:(3:Int)≤(t.size:Int):=by omega
 have k5:(5:Int)≤(t.size:Int):=by omega
 have k6:(6:Int)≤(t.size:Int):=by omega
 have HB1:=Lib.hid hB1;have HB2:=Lib.hid hB2;have HB3:=Lib.hid hB3;revert k3 k5 k6 HB1 HB2 HB3;exact zz.out):P:=h ⟨k⟩

theorem Z271(k:Q) (h:Kq Q→P:=by
 intro zz;have a0:0≤a:=by omega
 have a1:a≤18446744073709551615:=by omega
 revert a0 a1;exact zz.out):P:=h ⟨k⟩

theorem Z272(k:Q) (h:Kq Q→P:=by
 intro zz;have hbl:∀k,k≠g→WF.heap[k]?=W.heap[k]?:=by
  intro k hk;subst hWF;rw[Below.heap_setCell _ _ _ _ hk,Below.heap_setCell _ _ _ _ hk,Below.heap_setCell _ _ _ _ hk]
 revert hbl;exact zz.out):P:=h ⟨k⟩

theorem Z273(k:Q) (h:Kq Q→P:=by
 intro zz;refine bodyPost_ret (v := .tuple #[.bool false,fv 3 (a+p)]) (by simp[results,Tryz.results241,go_sem,hc2,hc1,hy1,hy2]) rfl ⟨rfl,FQ R ov,?_⟩;exact zz.out):P:=h ⟨k⟩

theorem Z274(k:Q) (h:Kq Q→P:=by
 intro zz;have hE0:own' (w.heap.size+1)=0:=Decidable.byContradiction fun h=>(HON.out _ h).elim (fun h=>by have:=(H.out.v.lt _ h).2;omega) (fun h=>by have:=HZ.out;omega)
 revert hE0;exact zz.out):P:=h ⟨k⟩

theorem Z275(k:Q) (h:Kq Q→P:=by
 intro zz;refine (tk_word T E hE s _ n rfl hn hs _ HW.out (by simp) _ (by first|exact HQW.out.gr HK.out.below|exact HQW.out.gr (HK.out.below.drewN _))).mono ?_;exact zz.out):P:=h ⟨k⟩

theorem Z276(k:Q) (h:Kq Q→P:=by
 intro zz;refine bodyPost_ret (v := .tuple #[strV (out++t),.int .i64 (a+m:Nat),f0]) (by simp[results,Tryz.results87,go_sem,p0,p1,p2,p3,hlw]) rfl ?_;exact zz.out):P:=h ⟨k⟩

theorem Z277(k:Q) (h:Kq Q→P:=by
 intro zz;simp only[Bool.false_eq_true,if_false,if_true];exact zz.out):P:=h ⟨k⟩

theorem Z278(k:Q) (h:Kq Q→P:=by
 intro zz;refine Reg.all (rs:=[9,15]) (by kernel_rfl) (by simp) ?_;exact zz.out):P:=h ⟨k⟩

theorem Z279(k:Q) (h:Kq Q→P:=by
 intro zz;refine Reg.all (rs:=[9,22]) (by kernel_rfl) (by simp) ?_;exact zz.out):P:=h ⟨k⟩

theorem Z280(k:Q) (h:Kq Q→P:=by
 intro zz;refine bodyPost_ret (v := .tuple #[.int .i64 0,fv 3 (n+pos)]) (by simp[results,Tryz.results73,go_sem,p0,p1,pf,pl]) rfl ⟨?_,Gr.auto⟩;exact zz.out):P:=h ⟨k⟩

theorem Z281(k:Q) (h:Kq Q→P:=by
 intro zz;refine (tq_feed _ R s a q out ov (RdQ.auto HS.out) hlt hs).mono ?_;rw[HF.out];exact zz.out):P:=h ⟨k⟩

theorem Z282(k:Q) (h:Kq Q→P:=by
 intro zz;obtain⟨hIW,hFW,hSW⟩:=hdr_chain hI2 hF hIne (Nat.le_refl _) hG.st (.slice (some ⟨gk,0,none⟩) ws.length ck) (.slice (some ⟨gs,0,none⟩) ws.length cs) (.int .i64 0) (.int .i64 0);revert hIW hFW hSW;exact zz.out):P:=h ⟨k⟩

theorem Z283(k:Q) (h:Kq Q→P:=by
 intro zz;refine (HP.out _ (HG.out.gr hG1).int).mono ?_;rintro e w3 ⟨⟨kk,x,cc,rfl,hcc⟩,g3⟩;revert w3 kk x cc hcc g3;exact zz.out):P:=h ⟨k⟩

theorem Z284(k:Q) (h:Kq Q→P:=by
 intro zz;obtain⟨WF,hWF⟩:∃W',((W.setCell ⟨w.heap.size+1,0,none⟩ (.int .i64 i)).setCell ⟨w.heap.size+1,1,none⟩ (.int .i64 ((d:Int)+1)))=W':=⟨_,rfl⟩
 revert WF hWF;exact zz.out):P:=h ⟨k⟩

theorem Z285(k:Q) (h:Kq Q→P:=by
 intro zz;rintro e w1 ⟨rfl,g1⟩;have hb1:=(g1.block hz).trans hb0;have hG1:=hG0.trans g1;revert w1 g1 hb1 hG1;exact zz.out):P:=h ⟨k⟩

theorem Z286(k:Q) (h:Kq Q→P:=by
 intro zz;go_simp;refine (HWAY.out (W.drew) (HG.out.trans ((Gr.refl W).drew))).mono ?_;exact zz.out):P:=h ⟨k⟩

theorem Z287(k:Q) (h:Kq Q→P:=by
 intro zz;have hj1:(0:Int)≤(j:Int):=by omega
 revert hj1;exact zz.out):P:=h ⟨k⟩

theorem Z288(k:Q) (h:Kq Q→P:=by
 intro zz;have wm:IntKind.i64.wrap (m:Int)=(m:Int):=IntWalk.i64_in _ ⟨by omega,by omega⟩;revert wm;exact zz.out):P:=h ⟨k⟩

theorem Z289(k:Q) (h:Kq Q→P:=by
 intro zz;refine (HWn.out _ (HW.out.gr Gr.auto)).mono ?_;rintro e w5 ⟨rfl,g5⟩;revert w5 g5;exact zz.out):P:=h ⟨k⟩

theorem Z290(k:Q) (h:Kq Q→P:=by
 intro zz;refine bodyPost_ret (v := .tuple #[.int .i64 0,fv c p]) (by simp[results,Tryz.results71,go_sem,q0,q1,qf,ql]) rfl ?_;rw[←HX.out];exact zz.out):P:=h ⟨k⟩

theorem Z291(k:Q) (h:Kq Q→P:=by
 intro zz;intro V1 HR' NBU' NBT';refine Z49 ?_;intro HR1 NBT1;have NBU1:=Lib.hid NBU';clear HR' NBU' NBT';have hS1:=putS_of HR1.out NBT1.out HC.out;refine Z100 ?_;revert V1 HR1 NBT1 NBU1 hS1;exact zz.out):P:=h ⟨k⟩

theorem Z292(k:Q) (h:Kq Q→P:=by
 intro zz;go_simp;refine Z2 ?_;refine Z12 ?_;exact zz.out):P:=h ⟨k⟩

theorem Z293(k:Q) (h:Kq Q→P:=by
 intro zz;refine Z6 ?_;intro gK capK V3 ho hg ha hz HR3 NBT3;refine Z252 ?_;intro NBS3;clear ho hg ha hz;refine Z106 ?_;intro hS3;refine Z173 ?_;refine Z14 ?_;intro j hj;revert gK capK V3 HR3 NBT3 NBS3 hS3 j hj;exact zz.out):P:=h ⟨k⟩

theorem Z294(k:Q) (h:Kq Q→P:=by
 intro zz;refine Z40 ?_;refine Z42 ?_;refine Reg.ty 5 ?_;refine Z46 ?_;refine Z112 ?_;refine Z48 ?_;refine Z58 ?_;refine Reg.on 12 ?_;go_simp;refine (HSC.out _).mono ?_;refine Z48 ?_;refine Z58 ?_;refine Z188 ?_;refine (HUC.out _).mono ?_;refine Z48 ?_;refine Z58 ?_;exact zz.out):P:=h ⟨k⟩

theorem Z295(k:Q) (h:Kq Q→P:=by
 intro zz;refine Z79 ?_;refine Z116 ?_;intro HR' NBS' NBT';have NBK':=NBK1.out.alloc (.cells #[.int .i64 a,.int .i64 b] 73);refine Z216 ?_;intro V2 hV;rw[hV]at HR' NBS' NBT' NBK' ⊢;clear hV;refine Z49 ?_;intro HR2 NBT2;have NBK2:=Lib.hid NBK';have NBS2:=Lib.hid NBS';clear HR' NBS' NBT' NBK';refine Z31 ?_;intro hS2;refine Z279 ?_;refine Z14 ?_;intro j hj;revert hj;revert j;revert hS2;revert NBS2;revert NBK2;revert NBT2;revert HR2;revert V2;exact zz.out):P:=h ⟨k⟩

theorem Z296(k:Q) (h:Kq Q→P:=by
 intro zz;refine Z40 ?_;refine Reg.tl 3 hS ?_ (hy:=by intro w hSw;obtain s0:=hSw;go_simp;try with_reducible rfl);refine Z92 ?_;refine Reg.ty 6 ?_;refine Reg.tl 7 hS ?_ (hy:=by intro w hSw;obtain s0:=hSw;go_simp;try with_reducible rfl);exact zz.out):P:=h ⟨k⟩

theorem Z297(k:Q) (h:Kq Q→P:=by
 intro zz;refine Z66 ?_;refine Z154 ?_;intro HR' NBU' NBT';have NBK':=NBK1.out.alloc (.cells #[.int .i64 n] 3);refine Z249 ?_;intro V2 hV;rw[hV]at HR' NBU' NBT' NBK' ⊢;clear hV;refine Z49 ?_;intro HR2 NBT2;have NBK2:=Lib.hid NBK';have NBU2:=Lib.hid NBU';clear HR' NBU' NBT' NBK';refine Z31 ?_;intro hS2;refine Z278 ?_;refine Z14 ?_;intro j hj;revert hj;revert j;revert hS2;revert NBU2;revert NBK2;revert NBT2;revert HR2;revert V2;exact zz.out):P:=h ⟨k⟩

theorem Z298(k:Q) (h:Kq Q→P:=by
 intro zz;refine Reg.sk 8 ?_;refine Reg.sk 9 ?_;refine Reg.sk 10 ?_;refine Reg.sk 11 ?_;refine Reg.sk 12 ?_;refine Reg.sk 13 ?_;exact zz.out):P:=h ⟨k⟩

theorem Z299(k:Q) (h:Kq Q→P:=by
 intro zz;refine Z6 ?_;intro gK capK V3 ho hg ha hz HR3 NBT3;refine Z253 ?_;intro NBU3;clear ho hg ha hz;refine Z106 ?_;intro hS3;refine Reg.on 15 ?_;revert gK capK V3 HR3 NBT3 NBU3 hS3;exact zz.out):P:=h ⟨k⟩

theorem Z300(k:Q) (h:Kq Q→P:=by
 intro zz;refine Z111 ?_;intro HR' NBK' NBT';have NBS':=NBS1.out.alloc (.cells #[.string key] 9);refine Z250 ?_;intro V2 hV;rw[hV]at HR' NBK' NBT' NBS' ⊢;clear hV;refine Z49 ?_;intro HR2 NBT2;have NBS2:=Lib.hid NBS';have NBK2:=Lib.hid NBK';clear HR' NBK' NBT' NBS';refine Z31 ?_;intro hS2;refine Z279 ?_;refine Z14 ?_;intro j hj;revert hj;revert j;revert hS2;revert NBK2;revert NBS2;revert NBT2;revert HR2;revert V2;exact zz.out):P:=h ⟨k⟩

theorem Z301(k:Q) (h:Kq Q→P:=by
 intro zz;refine Z111 ?_;intro HR' NBK' NBT';have NBU':=NBU1.out.alloc (.cells #[.string key] 9);refine Z250 ?_;intro V2 hV;rw[hV]at HR' NBK' NBT' NBU' ⊢;clear hV;refine Z49 ?_;intro HR2 NBT2;have NBU2:=Lib.hid NBU';have NBK2:=Lib.hid NBK';clear HR' NBK' NBT' NBU';refine Z31 ?_;intro hS2;refine Z278 ?_;refine Z14 ?_;intro j hj;revert hj;revert j;revert hS2;revert NBK2;revert NBU2;revert NBT2;revert HR2;revert V2;exact zz.out):P:=h ⟨k⟩

theorem Z302(k:Q) (h:Kq Q→P:=by
 intro zz;obtain⟨r0',r1',rf',rl'⟩:=id fK;obtain⟨k0',k1',kf',kl'⟩:=HB1.out.f.gr gA;refine Reg.on 23 ?_;go_simp;refine Z2 ?_;refine Reg.on 24 ?_;go_simp;refine Reg.on 25 ?_;revert r0' r1' rf' rl' k0' k1' kf' kl';exact zz.out):P:=h ⟨k⟩

theorem Z303(k:Q) (h:Kq Q→P:=by
 intro zz;refine Z121 ?_;rw[HC.out];refine Z88 ?_;intro w1 g1 hc1 hf1 hz1;have hg:Hid (Gr w w1):=by
  exact J29
 have hRd:Hid (RdQ w1 R s a q out ov):=HS.out.gr hg.out;revert w1 g1 hc1 hf1 hz1 hg hRd;exact zz.out):P:=h ⟨k⟩

theorem Z304(k:Q) (h:Kq Q→P:=by
 intro zz;obtain⟨f2,g3,z3⟩:=bx2 w2 (.int .i64 0) (.int .i64 0) 31;revert f2 g3 z3;exact zz.out):P:=h ⟨k⟩

theorem Z305(k:Q) (h:Kq Q→P:=by
 intro zz;refine Z188 ?_;refine Z2 ?_;refine Reg.on 18 ?_;exact zz.out):P:=h ⟨k⟩

theorem Z306(k:Q) (h:Kq Q→P:=by
 intro zz;refine Reg.tl 5 hS3 ?_ (hy:=by intro w hSw;obtain⟨⟨q0,q1,q2⟩,ql⟩:=hSw;go_simp;try with_reducible rfl);refine Reg.on 6 ?_;go_simp;refine (in_tens _).mono ?_;rintro e w4 ⟨rfl,g4⟩;have hS4:=hS3.gr g4;revert w4 g4 hS4;exact zz.out):P:=h ⟨k⟩

theorem Z307(k:Q) (h:Kq Q→P:=by
 intro zz;refine Z92 ?_;refine Reg.ty 6 ?_;exact zz.out):P:=h ⟨k⟩

theorem Z308(k:Q) (h:Kq Q→P:=by
 intro zz;refine Reg.ty 8 ?_;refine Reg.ty 9 ?_;exact zz.out):P:=h ⟨k⟩

theorem Z309(k:Q) (h:Kq Q→P:=by
 intro zz;refine Reg.begin' (W:=fun i=>i != 10) (S:=FX b5 (.int .i64 n) (.int .i64 d)) (by kernel_rfl) ?_;refine Z40 ?_;refine Z263 ?_;refine Z189 ?_;refine HELEM.out.mono ?_;exact zz.out):P:=h ⟨k⟩

theorem Z310(k:Q) (h:Kq Q→P:=by
 intro zz;refine (tq_end_no _ R s a q out ov (RdQ.auto HS.out) hlt hs HM.out).mono ?_;refine Z88 ?_;exact zz.out):P:=h ⟨k⟩

theorem Z311(k:Q) (h:Kq Q→P:=by
 intro zz;have hB3:WB3 w.heap.size (.int .i64 0) (.int .i64 0) (.slice none 0 0) (.int .i64 0) (.int .i64 0) (.int .i64 0) w5:=⟨HB2.out.1.gr g5,HB2.out.2.gr g5,HF.out.gr g5⟩
 have hK5:=HK.out.gr g5;revert hB3 hK5;exact zz.out):P:=h ⟨k⟩

theorem Z312(k:Q) (h:Kq Q→P:=by
 intro zz;have hS2:radC3 bg bb ds w1.heap.size w2.drew:=⟨⟨c0,c1,c2⟩,hlt⟩
 refine Z25 ?_;intro w3 g3 hS3;refine Z16 ?_;revert hS2 w3 g3 hS3;exact zz.out):P:=h ⟨k⟩

theorem Z313(k:Q) (h:Kq Q→P:=by
 intro zz;refine Z175 ?_;refine Z2 ?_;refine Reg.on 20 ?_;exact zz.out):P:=h ⟨k⟩

theorem Z314(k:Q) (h:Kq Q→P:=by
 intro zz;refine Reg.ty 0 ?_;refine Reg.tl 1 hFd ?_ (hy:=by intro w hSw;obtain⟨q0,q1,qf,ql⟩:=hSw;go_simp;try with_reducible rfl);refine Reg.ty 2 ?_;exact zz.out):P:=h ⟨k⟩

theorem Z315(k:Q) (h:Kq Q→P:=by
 intro zz;refine Z35 ?_;intro HR' NBS' NBT';refine Z133 ?_;intro V3 hV;rw[hV]at HR' NBS' NBT' ⊢;clear hV;refine Z49 ?_;intro HR3 NBT3;have NBS3:=Lib.hid NBS';clear HR' NBS' NBT';refine Z110 ?_;intro hS3;refine Z173 ?_;refine Z14 ?_;revert hS3;revert NBS3;revert NBT3;revert HR3;revert V3;exact zz.out):P:=h ⟨k⟩

theorem Z316(k:Q) (h:Kq Q→P:=by
 intro zz;obtain⟨p0,p1,pf,pl⟩:=hF4;have hn3:¬FV own' w.heap.size:=by
  intro hf;rcases hown3 _ hf with e|e
  · exact hnR.out e
  have:=hS.2.2.2;omega
 have H3:=Lib.hid hr3;have HS3:=Lib.hid hst3;have HO3:=Lib.hid hown3;revert p0 p1 pf pl hn3 H3 HS3 HO3;exact zz.out):P:=h ⟨k⟩

theorem Z317(k:Q) (h:Kq Q→P:=by
 intro zz;refine Z57 ?_;refine Reg.tl 2 hS ?_ (hy:=by intro w hSw;obtain⟨s1,s2,s3,s4⟩:=hSw;go_simp;try with_reducible rfl);refine Z42 ?_;exact zz.out):P:=h ⟨k⟩

theorem Z318(k:Q) (h:Kq Q→P:=by
 intro zz;refine Z56 ?_;intro HR' NBU' NBT';refine Z170 ?_;intro V3 hV;rw[hV]at HR' NBU' NBT' ⊢;clear hV;refine Z49 ?_;intro HR3 NBT3;have NBU3:=Lib.hid NBU';clear HR' NBU' NBT';refine Z110 ?_;intro hS3;refine Reg.on 15 ?_;revert hS3;revert NBU3;revert NBT3;revert HR3;revert V3;exact zz.out):P:=h ⟨k⟩

theorem Z319(k:Q) (h:Kq Q→P:=by
 intro zz;refine Reg.tl 0 hS ?_ (hy:=by intro w hSw;obtain⟨⟨s0,s1,sf,sl⟩,⟨s2,s3,sf2,sl2⟩⟩:=hSw;go_simp;try with_reducible rfl);exact zz.out):P:=h ⟨k⟩

theorem J1 (h:P:=by
 obtain⟨es,clock,h1,F,hs,hD⟩:=h;exact⟨es,clock,hb.trans h1,F,hs,hD⟩):P:=h

theorem J2 (h:P:=by
 rcases h.nodes.2 with⟨_,h0⟩|⟨g,cap,cur,hv,hbb,hgg,h1,h2,h3,h4⟩
 · omega
 have ho:own g=3:=h.oN g (by rw[hv];rfl);refine⟨g,cap,cur,hv,hbb,(h.lt g (by omega)).2,ho,fun e=>?_,fun e=>?_,hgg,h3,h1,h2,h4⟩
 · subst e;rw[h.oR]at ho;omega
 subst e;rw[h.oB]at ho;omega):P:=h

theorem J3 (h:P:=by
 exact ownsRow_setCell_ne hrow (fun k hk=>by simp[Value.ownBlock]at hk;subst hk;exact hgR) _):P:=h

theorem J4 (h:P:=by
 simpa using block_setCell (i:=0) hb (.slice (some ⟨g,0,none⟩) (L.length+1) cap)):P:=h

theorem J5 (h:P:=by
 rw[hg.block R (by omega) (fun e=>by have:=h.oN R e.symm;rw[h.oR]at this;omega),g1.block hR.2];exact h.blk):P:=h

theorem J6 (h:P:=by
 rcases hat with ha|ha
 · exact .inl (h.oN g ha)
 by_cases e:own g=0
 · exact .inr ⟨e,by omega⟩
 have:=(h.lt g e).2;omega):P:=h

theorem J7 (h:P:=by
 refine⟨?_,?_,?_,by omega,?_,?_⟩
 · subst hWF;exact H.st.os
 · subst hWF;exact H.st.tape
 · subst hWF;exact H.st.output
 · intro k hk hn;refine hwg k hk (fun e=>hn ?_) (fun e=>hn ?_)
   · subst e;unfold FV;omega
   unfold FI at e;unfold FV;omega
 intro k hk
 replace hk:(if kv.ownBlock=some k then 4+3*i else if sv.ownBlock=some k then 5+3*i else if uv.ownBlock=some k then 6+3*i else own k)≠0:=hk
 have fi:∀b,FI own i b∨w.heap.size≤b→FV own b∨w.heap.size≤b:=fun b e=>e.imp (fun e=>by unfold FI at e;unfold FV;omega) id
 exact J164):P:=h

theorem J8 (h:P:=by
 intro v e size n xs _ hv k hk e2;subst e2;rcases hv k hk with h1|h1
 · unfold FI at h1;omega
 omega):P:=h

theorem J9 (h:P:=by
 go_wp2_with fail
 go_ret
 exact⟨rfl,rfl⟩):P:=h

theorem J10 (h:P:=by
 refine Z110 ?_;intro hS3;refine Reg.on 9 ?_;skip;refine Z113 ?_;intro gK capK V4 ho hg ha hz HR4 NBT4;have NBU4:=Lib.hid (NBU3.out.appK (n:=r.nd.keys.length+1) (cap:=capK) hg ha);have NBS4:=Lib.hid (NBS3.out.appK (n:=r.nd.keys.length+1) (cap:=capK) hg ha);exact J158):P:=h

theorem J11 (h:P:=by
 refine Z110 ?_;intro hS3;refine Reg.on 9 ?_;skip;refine Z113 ?_;intro gK capK V4 ho hg ha hz HR4 NBT4;have NBS4:=Lib.hid (NBS3.out.appK (n:=r.nd.keys.length+1) (cap:=capK) hg ha);have NBU4:=Lib.hid (NBU3.out.appK (n:=r.nd.keys.length+1) (cap:=capK) hg ha);exact J158):P:=h

theorem J12 (h:P:=by
 have e1:(Pl.putNd r.nd (bs key) (a,b) n).keys.length=r.nd.keys.length+1:=by simp[Pl.putNd]
 have e2:(Pl.putNd r.nd (bs key) (a,b) n).spots.length=r.nd.spots.length+1:=by simp[Pl.putNd]
 have e3:(Pl.putNd r.nd (bs key) (a,b) n).subs.length=r.nd.subs.length+1:=by simp[Pl.putNd]
 have e4:keysV (Pl.putNd r.nd (bs key) (a,b) n).keys=keysV r.nd.keys++[.string key]:=by simp only[Pl.putNd,keysV,List.map_append,List.map_cons,List.map_nil,strV_bs]
 have e5:spotsV (Pl.putNd r.nd (bs key) (a,b) n).spots=spotsV r.nd.spots++[.int .i64 a,.int .i64 b]:=by simp[Pl.putNd,spotsV]
 have e6:subsV (Pl.putNd r.nd (bs key) (a,b) n).subs=subsV r.nd.subs++[.int .i64 n]:=by simp[Pl.putNd,subsV]
 rw[e1,e2,e3,e4,e5,e6];exact H):P:=h

theorem J13 (h:P:=by
 go_wp2
 all_goals go_ret
 all_goals (refine⟨ret_bool ?_,rfl⟩;rw[Bool.eq_iff_iff];simp[Pl.isPlain,Pl.ctl];try omega)):P:=h

theorem J14 (h:P:=by
 simpa using this):P:=h

theorem J15 (h:P:=by
 have hst:=HT.out;exact St.auto):P:=h

theorem J16 (h:P:=by
 go_wp2_with fail
 go_ret
 exact⟨rfl,Gr.auto⟩):P:=h

theorem J17 (h:P:=by
 rw[World.cell?_setCell_same' _ _ _ (by rw[World.cell?_setCell_other _ _ _ _ (by simp),h1];rfl)]):P:=h

theorem J18 (h:P:=by
 rw[World.cell?_setCell_other _ _ _ _ (by simp),World.cell?_setCell_same' _ _ _ (by rw[h0];rfl)]):P:=h

theorem J19 (h:P:=by
 intro o;rw[World.frozen?_setCell,World.frozen?_setCell]):P:=h

theorem J20 (h:P:=by
 exfalso;rw[if_neg h65]at hdv;omega):P:=h

theorem J21 (h:P:=by
 refine⟨⟨k+1,_,_,rfl,(by first|rfl|(congr 1;omega)),(by first|rfl|(congr 1;omega)),by omega,hR⟩,by simp[intOf];omega⟩):P:=h

theorem J22 (h:P:=by
 rw[IntKind.wrap_u64,IntKind.wrap_u64];decide):P:=h

theorem J23 (h:P:=by
 rw[←decide_eq_emptyBytes];exact decide_eq_false (fun h=>hne (by rw[h];rfl))):P:=h

theorem J24 (h:P:=by
 rw[List.length_cons,Nat.pow_succ,Nat.mul_comm (16 ^ l.length) 16,←Nat.mul_assoc];exact Nat.mul_le_mul_right _ (by omega)):P:=h

theorem J25 (h:P:=by
 rename_i h;simp only[List.cons.injEq]at h;obtain⟨rfl,rfl,rfl,_⟩:=h;simp[Pl.pre]):P:=h

theorem J26 (h:P:=by
 intro pos h1 h2;have:¬pos<s.size:=by omega
 rw[Lib.idxFuncFrom,if_neg (by omega)]):P:=h

theorem J27 (h:P:=by
 have:=h ⟨c.toNat,c.toNat_lt⟩;exact J14):P:=h

theorem J28 (h:P:=by
 simp only[List.drop_zero]at e1;rw[e1,e2]at hb;simp only[List.cons.injEq]at hb;exact hb.1):P:=h

theorem J29 (h:P:=by
 have h1:Gr w ((w.alloc (.cells #[.pointer (some ⟨R,0,none⟩)] 202)).alloc (.cells #[.int .i64 0,.int .i64 0] 31)):=Gr.auto;exact h1.trans g1):P:=h

theorem J30 (h:P:=by
 have hst:=HT.out;have hg0:=hg.out;exact St.auto):P:=h

theorem J31 (h:P:=by
 refine (tq_escaped _ R s a q out ov (RdQ.auto hRd.out) (HQ.out.es.gr Gr.auto) T (HQ.out.sh.gr Gr.auto) hlt hs (by omega)).mono ?_;rw[HX.out];cases sr with
 | bad p =>
  exact J137
 | go n t over =>
  obtain rfl:=HO.out n t over rfl;rintro e w2 ⟨rfl,ov',hr,hst⟩;refine Z18 ?_;intro hc2 hf2 hz2;refine Z163 ?_;intro HR HT;have hn3:¬FQ R ov' (w.heap.size+1):=fun hF=>by
   rcases HT.out.own _ hF with hF|hF
   · have:=HS.out.own_lt hF;omega
   simp at hF;omega
  clear hr hst;go_wp2_with fail;refine bodyPost_ret (v := .tuple #[.bool false,f0]) (by simp[results,Tryz.results241,go_sem,hc2,hc1,hy1,hy2]) rfl ⟨rfl,ov',RdQ.auto HR.out,?_⟩;exact J30):P:=h

theorem J32 (h:P:=by
 go_wp2_with (go_at_call 109;refine (tq_wrong _ s.size rfl _).mono ?_;rintro e w3 ⟨rfl,g3⟩;obtain⟨hc3,hf3,hz3⟩:=g3.use;have p0:w3.cell? ⟨w.heap.size,0,none⟩=some (.int .i64 0):=(hc3 _ _ (by omega)).trans m0;have p1:w3.cell? ⟨w.heap.size,1,none⟩=some (.int .i64 0):=(hc3 _ _ (by omega)).trans m1;have p2:w3.frozen? ⟨w.heap.size,0,none⟩=false:=(hf3 _ _ (by omega)).trans m2;have p3:w3.frozen? ⟨w.heap.size,1,none⟩=false:=(hf3 _ _ (by omega)).trans m3;clear hc3 hf3);refine bodyPost_ret (v := .tuple #[.string ⟨#[]⟩,.int .i64 0,fv 3 s.size]) (by simp[results,Tryz.results87,go_sem,p0,p1,p2,p3]) rfl ?_;rw[←Pl.readF_end _ _ _ _ _ _ HX2.out hne (by rw[List.length_drop,bs_length];omega)];refine⟨by rw[List.length_drop,bs_length,show n+(s.size-n)=s.size from by omega],by omega,Gr.auto⟩):P:=h

theorem J33 (h:P:=by
 obtain⟨k,a,out,ov,hr,hx,hna,has,hol,hg,hz,m0,m1,m2,m3⟩:=hrel;obtain⟨e0,e1,e2,e3,ez⟩:=hr.cells;have hpos:=posQ_eq hr;have HP:=Lib.hid hpos;have HR:=Lib.hid hr;have HX2:=Lib.hid hx;clear hr hx d0 d1 d2 d3 dz e3 hpos;by_cases hlt:a<s.size
 · obtain⟨k,rfl⟩:∃k',k=k'+1:=by
    cases k with
    | zero=>exact absurd HX2.out.symm hne
    | succ k=>exact⟨k,rfl⟩
   refine Z233 ?_;intro sr HS1 HS2;go_wp2_with fail;cases sr with
   | bad p =>
    refine (tq_step true q _ _ s a out ov HR.out hlt hs hol T (HQW.out.gr hg) _ HS1.out).mono ?_;exact J91
   | go m t over =>
    have hl3:=Pl.kindStep_len _ _ _ _ _ _ _ HS1.out;rw[List.length_drop,bs_length]at hl3;refine (tq_step true q _ _ s a out ov HR.out hlt hs hol T (HQW.out.gr hg) _ HS1.out).mono ?_;exact J79
 exact J32):P:=h

theorem J34 (h:P:=by
 go_roundw
 case rel=>exact⟨1,rfl,.inr (.inl rfl),hg.alloc _⟩
 case measure=>simp[intOf]):P:=h

theorem J35 (h:P:=by
 rcases Nat.lt_or_ge 1 w.heap.size with h'|h'
 · exact h'
 rw[Array.getElem?_eq_none h']at hp;cases hp):P:=h

theorem J36 (h:P:=by
 cases h;omega):P:=h

theorem J37 (h:P:=by
 go_simp;refine Z2 ?_;refine Reg.on 2 ?_;skip;go_simp;refine (clip_strs gK (acc.length+1) capK hcK.1 hcK.2 _).mono ?_;refine Z48 ?_;refine Z86 ?_;exact J153):P:=h

theorem J38 (h:P:=by
 exact .inr (by omega)):P:=h

theorem J39 (h:P:=by
 have:=HXY.out;rw[←hlf]at this;exact this):P:=h

theorem J40 (h:P:=by
 rintro (hf|hf)
 · rcases HOWNS.out _ hf with e|e
   · exact hnF e
   have:=HZB.out;omega
 have:=(HBLK.out _ hf).2;have:=HZB.out;omega):P:=h

theorem J41 (h:P:=by
 simp only[World.size_alloc]at this;exact this):P:=h

theorem J42 (h:P:=by
 go_wp2_with (refine (lower_at _ _ hlow _).mono ?_;rintro e w' ⟨rfl,rfl⟩)
 all_goals go_ret2
 all_goals exact⟨by rw[hR.out];rfl,rfl⟩):P:=h

theorem J43 (h:P:=by
 clear hdv hdB e1
 go_wp2
 all_goals go_ret2
 all_goals exact⟨by rw[hR.out];rfl,rfl⟩):P:=h

theorem J44 (h:P:=by
 rw[hbg,show (⟨#[]⟩:ByteArray).size=0 from rfl];have h5:bs (s.extract 0 s.size)=bs s:=by rw[bs_extract];rfl
 exact ByteArray.ext (Array.toList_inj.1 h5)):P:=h

theorem J45 (h:P:=by
 simp only[Bool.and_eq_true,decide_eq_true_eq]at h2;unfold Pl.digV;rw[if_pos (by omega)];omega):P:=h

theorem J46 (h:P:=by
 (repeat (first|refine Gr.setCell ?_ (by simp) _|refine Gr.drew ?_));exact (Gr.refl w).alloc _):P:=h

theorem J47 (h:P:=by
 go_enter Tryz.func136,Tryz.ntmps136;go_wp2_with fail
 go_ret
 exact⟨by (rw[HX.out];try rfl),rfl⟩):P:=h

theorem J48 (h:P:=by
 exact split_all HX.out _ _ _ _ _ _ _ _ HK.out rfl rfl rfl rfl rfl):P:=h

theorem J49 (h:P:=by
 refine Z48 ?_;clear hV;cases V with
 | false =>
  have HV:Hid (Pl.fltRead (bs s) = .bad 3 0):=Lib.hid (by rw[HX.out,if_neg (fun h=>by have h2:=h.symm.trans HVV.out;cases h2)]);clear HX;go_wp2_with fail;exact bodyPost_ret (v := .tuple #[.string ⟨#[]⟩,.int .i64 3]) (by simp[results,Tryz.results129,go_sem]) rfl ⟨post_bad HV.out,Gr.auto⟩
 | true =>
  have HV:Hid (Pl.fltRead (bs s)=Pl.decRead (Lib.trimPrefix (Pl.lowless (bs s)) [43])):=Lib.hid (HX.out.trans (if_pos HVV.out));clear HX;go_wp2_with fail;refine (replace_low s hs _ (HW.out.gr Gr.auto)).mono ?_;rintro e w8 ⟨rfl,g8⟩;obtain⟨L1,hL1⟩:∃L1:ByteArray,⟨(Lib.replaceAll (bs s) [95] []).toArray⟩=L1:=⟨_,rfl⟩
  have hL1b:bs L1=Pl.lowless (bs s):=by rw[←hL1,bs_of];rfl
  rw[hL1];have HL:=Lib.hid hL1b;clear hL1 hL1b;go_wp2_with fail;refine (Tryz.strings_TrimPrefix L1 ⟨#[43]⟩ _).mono ?_;refine Z48 ?_;obtain⟨L2,hL2⟩:∃L2:ByteArray,⟨(Lib.trimPrefix L1.data.toList (ByteArray.mk #[43]).data.toList).toArray⟩=L2:=⟨_,rfl⟩
  have hL2b:bs L2=Lib.trimPrefix (Pl.lowless (bs s)) [43]:=by rw[←hL2,bs_of,←HL.out]
  have hL2z:L2.size≤20000000:=by
   rw[←bs_length,hL2b];have h1:=Pl.lowless_len (bs s);rw[bs_length]at h1;unfold Lib.trimPrefix
   split
   · rw[List.length_drop];omega
   omega
  rw[hL2];have HL2:=Lib.hid hL2b;clear hL2 hL2b;go_wp2_with fail;refine (dc_read L2 hL2z _ (HW.out.gr Gr.auto)).mono ?_;rintro e w10 ⟨hp,g10⟩;rw[HL2.out,←HV.out]at hp;have HP:=Lib.hid hp;clear hp;unfold IntPost at HP;cases hX:Pl.fltRead (bs s) with
  | ok x =>
   rw[hX]at HP;have he:=HP.out;subst he;clear HV;go_wp2_with fail;exact bodyPost_ret (v := .tuple #[.string ⟨x.toArray⟩,.int .i64 0]) (by simp[results,Tryz.results129,go_sem]) rfl ⟨(by rw[hX];rfl),Gr.auto⟩
  | bad c p =>
   rw[hX]at HP;have he:=HP.out;subst he;go_wp2_with fail;exact bodyPost_ret (v := .tuple #[.string ⟨#[]⟩,.int .i64 c]) (by simp[results,Tryz.results129,go_sem]) rfl ⟨(by rw[hX];rfl),Gr.auto⟩):P:=h

theorem J50 (h:P:=by
 exact cut_done (d:=D) (t:=⟨#[]⟩) (p:=⟨#[]⟩) (z:=⟨#[]⟩) (n:=10) rfl rfl (cutO_4 (cutO_3 (cutO_2 (cutO_1 (cutO_0 (cutO_4 (cutO_0 hb1 _) _) _) _) _) _) _) ⟨⟨D,⟨#[]⟩,⟨#[]⟩,⟨#[]⟩,by (rw[HY.out];try rfl),by (rw[HY.out];try rfl),by (rw[HY.out];try rfl),by (rw[HY.out];try rfl),by (rw[HY.out];try rfl),HLD.out,Nat.zero_le _,Nat.zero_le _,Nat.zero_le _⟩,by (repeat refine Gr.setCell ?_ (Nat.le_refl _) _);exact hG1⟩):P:=h

theorem J51 (h:P:=by
 go_enter Tryz.func157,Tryz.ntmps157;go_wp2_with fail
 go_ret
 exact⟨by (rw[HY.out];try rfl),rfl⟩):P:=h

theorem J52 (h:P:=by
 obtain⟨p0,p1,p2,p3,p4,pf,hz⟩:=cutO_facts hb7;cases v1 with
 | false =>
  have HY:Hid (Pl.mayD c=false):=Lib.hid (by rw[HX.out,hAt,hBt,zC];rfl);go_wp2_with fail
  go_ret
  exact⟨by (rw[HY.out];try rfl),hG7⟩
 | true =>
  have HY:Hid (Pl.mayD c=v2):=Lib.hid (by rw[HX.out,hAt,hBt,zC];rfl);go_wp2_with fail;refine (HV2.out _).mono ?_;rintro e w8 ⟨rfl,g8⟩;have hG8:=hG7.trans g8;go_wp2_with fail
  go_ret
  exact⟨by (rw[HY.out];try rfl),hG8⟩):P:=h

theorem J53 (h:P:=by
 have hj:j<7:=by have:=(List.getElem?_eq_some_iff.1 hv).1;rw[ndV_length]at this;exact this
 have:=h1.cells (g:=g) rfl (i*7+j) v (by rw[ndsV_get _ _ _ hj,hi];exact hv);rw[Addr.add_lit,Nat.zero_add]at this;exact (World.cell?_of_block (w:=wr) (a:=⟨g,i*7+j,none⟩) (hb g (by omega) (by omega))).trans this):P:=h

theorem J54 (h:P:=by
 rw[heap_drew,Below.heap_setCell _ _ _ _ hIne,Below.heap_setCell _ _ _ _ hIne];exact hI3):P:=h

theorem J55 (h:P:=by
 rw[heap_drew,Below.heap_setCell _ _ _ _ hIne,Below.heap_setCell _ _ _ _ hIne];exact hIW):P:=h

theorem J56 (h:P:=by
 exact⟨none,0,by rw[e,e2]⟩):P:=h

theorem J57 (h:P:=by
 rw[if_neg hgr]at hXX;exact absurd hXX.symm hne):P:=h

theorem J58 (h:P:=by
 rw[List.getD_eq_getElem?_getD,List.getElem?_append_left (by omega),←List.getD_eq_getElem?_getD]):P:=h

theorem J59 (h:P:=by
 have h1:la<ws.length:=by have:=HLA.out;omega
 exact⟨ws[la].1,ws[la].2.1,ws[la].2.2,List.getElem?_eq_getElem h1⟩):P:=h

theorem J60 (h:P:=by
 refine Z90 ?_;exact (g5.use.1 _ _ (Nat.lt_of_lt_of_le HS0.out.rl ST2.out.size)).trans hs2):P:=h

theorem J61 (h:P:=by
 refine Z292 ?_;go_wp2_with fail
 go_meet
 exact tabR_of hpost ((((Gr.refl W).alloc (.cells #[.int .i64 0,.int .i64 0] 31)).alloc (.cells #[.int .i64 0,.int .i64 0] 60)).drew) (Gr.refl _) hlt HS0.out.rl (by omega) (by omega) (by omega) (.inl (by show _<((W.alloc _).alloc _).heap.size;rw[zb];omega)) (.inl (by show _<((W.alloc _).alloc _).heap.size;rw[zb];omega)) f5 f6):P:=h

theorem J62 (h:P:=by
 refine Z292 ?_;go_wp2_with fail
 go_meet
 exact tabR_of hpost (((Gr.refl W).alloc (.cells #[.int .i64 0,.int .i64 0] 31)).drew) (gb) hlt HS0.out.rl (by omega) (by omega) (by omega) (.inr (Nat.le_refl _)) (.inl (by show _<(W.alloc _).heap.size;rw[za];omega)) f5 f6):P:=h

theorem J63 (h:P:=by
 refine Z292 ?_;go_wp2_with fail
 go_meet
 exact tabR_of hpost ((((Gr.refl W).alloc (.cells #[.int .i64 0,.int .i64 0] 60)).alloc (.cells #[.int .i64 0,.int .i64 0] 31)).drew) (Gr.refl _) hlt HS0.out.rl (by omega) (by omega) (by omega) (.inl (by show _<((W.alloc _).alloc _).heap.size;rw[zb];omega)) (.inl (by show _<((W.alloc _).alloc _).heap.size;rw[zb];omega)) f5 f6):P:=h

theorem J64 (h:P:=by
 refine Z292 ?_;go_wp2_with fail
 go_meet
 exact tabR_of hpost (((Gr.refl W).alloc (.cells #[.int .i64 0,.int .i64 0] 60)).drew) (gb) hlt HS0.out.rl (by omega) (by omega) (by omega) (.inl (by show _<(W.alloc _).heap.size;rw[za];omega)) (.inr (Nat.le_refl _)) f5 f6):P:=h

theorem J65 (h:P:=by
 refine Z292 ?_;go_wp2_with fail
 go_meet
 exact tabR_of hpost ((Gr.refl W).drew) (g3) hlt HS0.out.rl (by omega) (by omega) (by omega) (.inr (by omega)) (.inr (by omega)) f5 f6):P:=h

theorem J66 (h:P:=by
 refine Z90 ?_;exact HMG7.out.v.cells.1.2.2.1):P:=h

theorem J67 (h:P:=by
 obtain⟨W,hW⟩:∃W,w.alloc (.cells #[.int .i64 0,.int .i64 0] 31)=W:=⟨_,rfl⟩
 have hSW:St (fun k=>k=I) (fun k=>k=I) w W:=by rw[←hW];exact (St.refl _ w).alloc _
 rw[hW]at hFn hIA ⊢;have hFd:FX w.heap.size (.int .i64 0) (.int .i64 0) W.drew:=hFn.gr (Gr.refl _).drew;clear hW;refine Z98 ?_;obtain⟨q0,q1,qf,ql⟩:=hFn;refine Z189 ?_;refine Z12 ?_;go_wp2_with fail;refine bodyPost_ret (v := .tuple #[.int .i64 n,f0]) (by simp[results,Tryz.results51,go_sem,q0,q1,qf,ql]) rfl ?_;rw[←HX.out];refine⟨rfl,hn,St.auto,nilV,nilV,nilV,?_,?_⟩
 · rw[heap_drew,Below.heap_setCell _ _ _ _ hIne,Below.heap_setCell _ _ _ _ hIne];exact hIA
 exact⟨rowC_of (nilRow _ _ _ _),rowC_of (nilRow _ _ _ _),.inl ⟨rfl,rfl⟩⟩):P:=h

theorem J68 (h:P:=by
 go_upto_region 3 with (go_at_call 43;refine (indexByte_at ⟨#[35,13,10]⟩ _ true HBI.out _).mono ?_;rintro e w3 ⟨⟨i,rfl,hi⟩,rfl⟩;have hi2:decide (i<0)=false:=by (simp at hi ⊢;omega))
 try clear hrest
 have hB3:=HB1.out;have hS3:=hB3.gr (Gr.refl w1).drew;clear p0 p1 pf pl p2 p3 pf' pl' p4 p5 pf'' pl'';obtain⟨⟨p0,p1,pf,pl⟩,⟨p2,p3,pf',pl'⟩,⟨p4,p5,pf'',pl''⟩⟩:=id hB3;refine Reg.begin' (W:=fun _=>true) (S:=WB3 w.heap.size (.int .i64 0) (.int .i64 0) (.slice none 0 0) (.int .i64 0) (.int .i64 0) (.int .i64 0)) (by kernel_rfl) ?_;refine Z4 ?_;go_wp2_with fail;obtain⟨⟨q0,q1,qf,ql⟩,⟨y0,y1,yf,yl⟩,⟨v0',v1',vf',vl'⟩⟩:=hS3;have gE:=HG1.out.drew;rw[←hXX];exact bodyPost_ret (v := .tuple #[.agg #[.int .i64 0,.int .i64 0],.agg #[.slice none 0 0,.int .i64 0],f0]) (by simp[results,Tryz.results35,go_sem,q0,q1,qf,ql,y0,y1,yf,yl,v0',v1',vf',vl']) rfl ⟨0,_,[],w1.drew.heap.size,nv,L,own,x,rfl,rfl,rfl,H.out.gr gE,(St.refl (FV own) w).gr gE,fun k hk => .inl hk,.inl ⟨rfl,rfl⟩,rfl,gE.size,fun k hk=>Decidable.byContradiction fun h=>by have:=(H.out.v.lt k h).2;have:=gE.size;omega⟩):P:=h

theorem J69 (h:P:=by
 (intro w;go_simp;refine (if_neg (by first|omega|(simp[ByteArray.size_append];omega))).trans ?_;try with_reducible rfl)):P:=h

theorem J70 (h:P:=by
 refine Z101 ?_;refine Z12 ?_;have hG4:Gr w w4:=(hG5.drew.trans g3).trans g4;clear g3 g4 hG5 c0 c1 c2 hlt hS2 hS3;obtain⟨⟨c0,c1,c2⟩,hlt⟩:=hS4;go_wp2_with fail;obtain⟨hYn,hYb,hYp⟩:=HY.out (by simp);cases Y with
 | ok v =>
  obtain⟨hv0,hv1⟩:=hYb v rfl;have HP:Hid (∀W,IntW W→Calls Tryz.prog 143 #[.string T,.int .i64 bb,.int .i64 64] W fun e w'=>e = .returned (.tuple #[.int .i64 v,.nilIface])∧Gr W w'):=fun W hW=>by
   obtain⟨ep,he⟩:=hW.err;exact hYp W ep he
  refine Z123 ?_;intro HV;clear hYp hYb hYn HY hv0 hv1
  go_region_held3 (radC3 bg bb ds w1.heap.size) (first|exact⟨⟨c0,c1,c2⟩,hlt⟩|assumption|exact radC3.gr (by assumption) (by assumption)|go_keep) (first|(go_at_call 144;refine (replace_low D (by omega) _ (HW.out.gr Gr.auto)).mono ?_;rw[←HL.out];rintro e w5 ⟨rfl,g5⟩)|(go_at_call 143;refine (HP.out _ (HW.out.gr Gr.auto)).mono ?_;rintro e w6 ⟨rfl,g6⟩))
  exact J152
 | range =>
  have HP:Hid (∀W,IntW W→Calls Tryz.prog 143 #[.string T,.int .i64 bb,.int .i64 64] W fun e w'=>(∃(k:Int) (N:Nat) (ep:Addr),e = .returned (.tuple #[.int .i64 k,.iface 254 (.pointer (some ⟨N,0,none⟩))])∧w'.cell? ⟨N,2,none⟩=some (.iface 280 (.pointer (some ep)))∧w'.cell? ⟨11,0,none⟩=some (.iface 280 (.pointer (some ep))))∧Gr W w'):=fun W hW=>by
   obtain⟨ep,he⟩:=hW.err;refine (hYp W ep he).mono ?_;rintro e w' ⟨⟨k,N,rfl,hN⟩,g⟩;exact⟨⟨k,N,ep,rfl,hN,(g.use.1 _ _ (Lib.lt_of_cell he)).trans he⟩,g⟩
  clear hYp hYb hYn HY
  go_region_held3 (radC3 bg bb ds w1.heap.size) (first|exact⟨⟨c0,c1,c2⟩,hlt⟩|assumption|exact radC3.gr (by assumption) (by assumption)|go_keep) (first|(go_at_call 144;refine (replace_low D (by omega) _ (HW.out.gr Gr.auto)).mono ?_;rw[←HL.out];rintro e w5 ⟨rfl,g5⟩)|(go_at_call 143;refine (HP.out _ (HW.out.gr Gr.auto)).mono ?_;rintro e w6 ⟨⟨k,N,ep,rfl,hN,hE⟩,g6⟩))
  exact J154
 | _=>exact absurd rfl hYn):P:=h

theorem J71 (h:P:=by
 simp only at htf;refine Z136 ?_;rintro e w5 ⟨rfl,hn2,nv5,L5,own5,hr5,rfl,hst5,hown5⟩;have hn2':¬FV own2 w.heap.size:=fun hf=>by
  rcases HOWN3.out _ hf with e|e
  · exact hnF e
  have:=HZB.out;omega
 have HOWN5:Hid (∀k,own5 k≠0→own k≠0∨z0≤k):=fun k hk=>by
  rcases hown5 k hk with e|e
  · exact HOWN3.out k e
  exact .inr (Nat.le_trans HZR.out e)
 have hn5:¬FV own5 w.heap.size:=fun hf=>by
  rcases HOWN5.out _ hf with e|e
  · exact hnF e
  have:=HZB.out;omega
 have hfx5:=HFX.out.st hst5 hn2';have HFX5:=Lib.hid (hfx5.set (.int .i64 0) (.int .i64 0));refine Z78 ?_;intro HR5 HST5;have hz5:z0≤w5.heap.size:=Nat.le_trans HZR.out hst5.size;obtain⟨a0,a1,af,al⟩:=hfx5;obtain⟨e2,he2⟩:∃e,Pl.blanksAt (bs s) n2=e:=⟨_,rfl⟩
 have he2s:e2≤s.size:=by have:=Pl.blanksAt_le (bs s) n2 (by rw[bs_length];omega);rw[bs_length]at this;omega
 rw[he2]at htf;have HTF5:=Lib.hid htf;have HE2:=Lib.hid he2;clear htf hst5 hP hr5 hown5 he2 HTF2 HTF HR3 HFX HGW HST3 HOWN3;go_wp2_with fail;refine Z155 ?_;intro w6 g6;have hz6:z0≤w6.heap.size:=by have:=g6.size;simp[World.setCell]at this;omega
 have HFX6:=Lib.hid (HFX5.out.gr g6);have HR6:=Lib.hid (HR5.out.gr g6);have HST6:=Lib.hid (HST5.out.gr g6);have jv2:=HR6.out.cells.2.2.1;clear g6 a0 a1 af al HFX5 HR5 HST5;go_wp2_with fail;refine Z222 ?_;intro w7 g7 hz7 HFX7 HR7 HST7 kv2;clear g7 jv2 HFX6 HR6 HST6;go_wp2_with fail;refine Z256 ?_;refine Z48 ?_;have htf:=HTF5.out;by_cases hb:Pl.byteAt (bs s) e2=125
 · rw[if_pos hb]at htf;have hb1:(((Pl.byteAt (bs s) e2:Nat):Int)==125)=true:=by simp;omega
   have HGS:Hid (e2<s.size):=Nat.lt_of_not_le fun hle=>by rw[byteAt_ge s e2 (by omega)]at hb;omega
   have hXX:=HX.out;rw[←htf]at hXX;simp only at hXX;cases hk8:Pl.kind8 (L5.map (·.nd)) T with
   | false=>rw[hk8,if_neg (by simp)]at hXX;exact absurd hXX.symm HN.out
   | true =>
   rw[hk8,if_pos rfl]at hXX;have HXX:=Lib.hid hXX;have HK8:=Lib.hid hk8;have HRS:=HR7;have HFS:=HFX7;have HSTS:=HST7;have HOWNS:=HOWN5;clear hXX hk8 htf hb kv2;have hwg:IntKind.i64.wrap ((e2:Int)+1)=(e2:Int)+1:=IntWalk.i64_in _ ⟨by have:=HGS.out;omega,by have:=HGS.out;omega⟩;obtain⟨rT,hrT⟩:∃r,(L5)[T]?=some r:=by
    have hk:=HK8.out;unfold Pl.kind8 at hk;rw[Bool.and_eq_true,List.getElem?_map]at hk
    replace hk:=hk.2
    cases hl:(L5)[T]? with
    | none=>rw[hl]at hk;cases hk
    | some x=>exact⟨x,rfl⟩
   have hTl:T<(L5).length:=(List.getElem?_eq_some_iff.1 hrT).1;obtain⟨gN,capN,curN,hnvE,hgNb,hgNl,hgNo,hgNR,hgNB,hgNh,hgNs,hgNc,hgNm,hgNt⟩:=HRS.out.form (by omega);have hcl:=HRS.out.cells;rw[hnvE]at hcl;obtain⟨a0,a1,a2,a3,af⟩:=hcl;have hfzN:∀o,w7.frozen? ⟨gN,o,none⟩=false:=fun o=>unfrozen_of_block hgNh o
   have hi1:(0:Int)≤(T:Int):=by omega
   have hi2:(T:Int)<((L5).length:Int):=by omega
   have HRS2:Hid (RdV w7 R B base s root (.slice (some ⟨gN,0,none⟩) (L5).length capN) L5 own5):=by rw[←hnvE];exact HRS.out
   obtain⟨p0,p1,pf,pl⟩:=HFS.out;obtain⟨_,_,_,_,_,n5,n6,_⟩:=HRS2.out.ndCells rfl T rT hrT;have n6':w7.cell? ⟨gN,T*7+5+1,none⟩=some (.int .i64 rT.nd.sp.2):=n6;clear n6;have hbN:w.heap.size≠gN:=fun e=>by
    have:own gN≠0∨z0≤gN:=HOWNS.out gN (by omega);rcases this with e2|e2
    · exact hnF (by unfold FV;rw[e];exact e2)
    have:=HZB.out;omega
   have HRT:=Lib.hid hrT;clear hrT hgNh hgNt hgNs hnvE;go_wp2_with fail;refine Z105 ?_;intro hsp HR12 HST12;have hnO:¬FV own5 w.heap.size:=fun hf=>by
    rcases HOWNS.out _ hf with e|e
    · exact hnF e
    have:=HZB.out;omega
   refine Z140 ?_;intro HF12 wS hwS;rw[hwS]at HR12 HST12 HF12 ⊢;clear hwS hsp p0 p1 pf pl n5 n6' hfzN a0 a1 a2 a3 af;obtain⟨p0,p1,pf,pl⟩:=HF12.out
   go_region
   all_goals go_wp2_with fail
   refine Z108 ?_;rfl
 rw[if_neg hb]at htf;have hb1:(((Pl.byteAt (bs s) e2:Nat):Int)==125)=false:=by simp;omega
 obtain⟨q0,q1,qf,ql⟩:=HFX7.out;by_cases hb4:Pl.byteAt (bs s) e2=44
 · rw[if_pos hb4]at htf;have hb2:(((Pl.byteAt (bs s) e2:Nat):Int) != 44)=false:=by simp;omega
   have he2l:e2<s.size:=Nat.lt_of_not_le fun hle=>by rw[byteAt_ge s e2 (by omega)]at hb4;omega
   have we2:IntKind.i64.wrap ((e2:Int)+1)=(e2:Int)+1:=IntWalk.i64_in _ ⟨by omega,by omega⟩;have HTF7:=Lib.hid htf;clear htf hb hb4;go_wp2_with fail;refine Z256 ?_;refine Z48 ?_;go_wp2_with fail;refine (tk_Blanks s _ (e2+1) (by simp) (by omega) (by omega) _).mono ?_;rintro e w10 ⟨rfl,g10⟩;have he3:Pl.blanksAt (bs s) (e2+1)≤s.size:=by have:=Pl.blanksAt_le (bs s) (e2+1) (by rw[bs_length];omega);rw[bs_length]at this;omega
   have hst10:=HST7.out.gr g10;have HST10:=Lib.hid hst10;have HFX10:=Lib.hid (HFX7.out.gr g10);have HR10:=Lib.hid (HR7.out.gr g10);have hz10:z0≤w10.heap.size:=Nat.le_trans hz7 g10.size;clear hst10 g10 kv2 q0 q1 qf ql HFX7 HR7 HST7;go_wp2_with fail
   go_roundg gk
   case measure=>omega
   case rel =>
    refine Z237 ?_;exact HTF7.out
 rw[if_neg hb4]at htf;have hb2:(((Pl.byteAt (bs s) e2:Nat):Int) != 44)=true:=by simp;omega
 have HXX:Hid (Pl.Res.bad 3 e2=X):=by
  have:=HX.out;rw[←htf]at this;exact this
 clear htf hb hb4;go_wp2_with fail;refine Z256 ?_;refine Z48 ?_;go_wp2_with fail;refine (tv_wrong e2 e2 rfl _).mono ?_;rintro e w10 ⟨rfl,g10⟩;obtain⟨u0,u1,uf,ul⟩:=HFX7.out.gr g10;have hst10:=HST7.out.gr g10;clear q0 q1 qf ql kv2;go_wp2_with fail;rw[←HXX.out];exact bodyPost_ret (v := .tuple #[.int .i64 0,.int .i64 0,fv 3 e2]) (by simp[results,Tryz.results94,go_sem,u0,u1,uf,ul]) rfl ⟨rfl,by omega,_,(hst10.setCell (.inr (Nat.le_refl _)) _).setCell (.inr (Nat.le_refl _)) _,((HR7.out.rk.gr g10).set (by omega) _).set (by omega) _⟩):P:=h

theorem J72 (h:P:=by
 refine Z1 ?_;intro gU capU V6 HR6 NBT6 hS6 hcg2 hcg3 hcg4 hfg;go_wp2_with fail
 go_end0
 exact⟨rfl,HEND.out V6 (.slice (some ⟨gK,0,none⟩) (r.nd.keys.length+1) capK) (.slice (some ⟨gS,0,none⟩) (r.nd.spots.length+1) capS) (.slice (some ⟨gU,0,none⟩) (r.nd.subs.length+1) capU) HR6.out⟩):P:=h

theorem J73 (h:P:=by
 refine Z17 ?_;intro gS capS V4 HR4 NBC4 NBF4 hS4 hcK0 hfK0 hcK1 hfK1;refine Z2 ?_;refine Reg.ty 15 ?_;refine Reg.on 16 ?_;go_simp;refine Z2 ?_;refine Reg.ty 17 ?_;refine Z12 ?_;refine Z95 ?_;intro HKS VE hVE HKS';clear HKS hcK0 hfK0 hcK1 hfK1;rw[hVE]at HKS' ⊢;clear hVE;have HK:=Lib.hid HKS';clear HKS';go_wp2_with fail;refine Z59 ?_;intro w3 g3 p0 p1 p2 p3 p4 p5 p6 p7 hklt3 HK3 a HA hab hx9;by_cases hdot:Pl.byteAt (bs s) a=46
 · rw[if_pos hdot]at hx9;refine Z261 ?_;intro hlt;rw[byteAt_lt s a hlt]at hdot;have hq1:((a:Int)==(s.size:Int))=false:=by simp;omega
   have hq2:((s[a].toNat:Int) != 46)=false:=by simp;omega
   refine Z149 ?_;intro hk1 hk2 HX9 hb2;clear hx9 hdot;go_wp2_with (go_at_call 42;refine (tk_Blanks s _ (a+1) (by omega) (by omega) (by omega) _).mono ?_;rintro e5 w5 ⟨rfl,g5⟩)
   go_roundw
   case rel =>
    have hb3:Pl.blanksAt (bs s) (a+1)≤s.size:=hb2.2
    first
     | exact⟨Pl.blanksAt (bs s) (a+1),fuel,e,_,_,_,rfl,rfl,hb3,HX9.out,HK3.out.gr g5,by simp;omega⟩
     | ((repeat apply Exists.intro);exact⟨⟨Pl.blanksAt (bs s) (a+1),fuel,e,_,_,_,rfl,rfl,hb3,HX9.out,HK3.out.gr g5,by simp;omega⟩,rfl⟩)
   case measure =>
    have hb3:a+1≤Pl.blanksAt (bs s) (a+1):=hb2.1;simp[intOf];omega
 rw[if_neg hdot]at hx9;refine Z69 ?_;intro hqq HX9 hk1;clear hx9 hdot;obtain⟨kq,hkq⟩:∃kq,kq=1:=⟨_,rfl⟩
 rcases hqq with hq1|⟨hlt,hq1,hq2⟩
 all_goals
  go_wp2_with fail;refine Z152 ?_;intro VV hVV HK4;clear hVV p0 p1 p2 p3 p4 p5 p6 p7;refine Z166 ?_;intro p0 p1 p2 p3 p4 p5 p6 p7 hklt4 HK5 hFK hFS;clear HK4;refine Z70 ?_;intro hSS hcK hcS;clear hFK hFS;refine Z115 ?_;refine Z14 ?_;intro j hj;rcases hj with rfl|rfl
  · refine Reg.one (i:=1) rfl (by rfl) ?_;go_simp;refine Z2 ?_;refine Reg.all (rs:=[2,4]) (by kernel_rfl) (by simp) ?_;refine Z14 ?_;intro j hj;rcases hj with rfl|rfl
    · refine Z208 ?_;refine Z48 ?_;refine Z86 ?_;refine Reg.on 4 ?_;skip;go_simp;refine Z2 ?_;exact J153
    refine Z267 ?_;exact J37
  refine Z267 ?_;go_simp;refine Z2 ?_;refine Reg.on 1 ?_;skip;exact J37):P:=h

theorem J74 (h:P:=by
 rintro e w1 hpost;cases X with
 | non=>exact absurd rfl HN.out
 | bad c p =>
  obtain⟨rfl,hc,F',hst,hrk⟩:=hpost;have HRK:=Lib.hid hrk;clear hrk;refine Z23 ?_;intro a0 a1 af al HST2;have HC:=Lib.hid hc;clear hst hc;go_wp2_with fail;exact bodyPost_ret (v := .tuple #[.int .i64 0,.int .i64 0,fv c p]) (by simp[results,Tryz.results68,go_sem,a0,a1,af,al]) rfl ⟨rfl,HC.out,F',(HST2.out.setCell (.inr (Nat.le_refl _)) _).setCell (.inr (Nat.le_refl _)) _,(HRK.out.set (by omega) _).set (by omega) _⟩
 | ok r =>
  obtain⟨iv,m,st'⟩:=r;obtain⟨rfl,hm,hi,nv',L',own',hr',hL',hst,hown⟩:=hpost;refine Z23 ?_;intro a0 a1 af al HST2;refine Z84 ?_;intro HR' HOWN HL';have hn':¬FV own' w.heap.size:=fun hf=>by
   rcases HOWN.out _ hf with e|e
   · exact hnF e
   omega
  clear hst hr' hown hL';go_wp2_with fail;exact bodyPost_ret (v := .tuple #[.int .i64 iv,.int .i64 m,f0]) (by simp[results,Tryz.results68,go_sem,a0,a1,af,al]) rfl ⟨rfl,hm,hi,nv',L',own',(HR'.out.setCell hn' _).setCell hn' _,HL'.out,(HST2.out.setCell (.inr (Nat.le_refl _)) _).setCell (.inr (Nat.le_refl _)) _,fun k hk=>(HOWN.out k hk).imp id (fun e=>by omega)⟩):P:=h

theorem J75 (h:P:=by
 obtain⟨p0,p1,p2,p3,p4,pf,hz⟩:=cutO_facts hb4;cases b1 with
 | false =>
  refine Z93 ?_;intro HY;go_wp2_with fail
  go_ret
  exact⟨by (rw[HY.out];try rfl),hG4⟩
 | true =>
  go_wp2_with fail;refine Z200 ?_;intro w5 g5 hb5 hG5;clear g5 hb4 hG4 p0 p1 p2 p3 p4 pf hz;obtain⟨p0,p1,p2,p3,p4,pf,hz⟩:=cutO_facts hb5;cases b2 with
  | false =>
   refine Z93 ?_;intro HY;go_wp2_with fail
   go_ret
   exact⟨by (rw[HY.out];try rfl),hG5⟩
  | true =>
   go_wp2_with fail;refine Z201 ?_;intro w6 g6 hb6 hG6;clear g6 hb5 hG5 p0 p1 p2 p3 p4 pf hz;obtain⟨p0,p1,p2,p3,p4,pf,hz⟩:=cutO_facts hb6;cases b3 with
   | false =>
    refine Z93 ?_;intro HY;go_wp2_with fail
    go_ret
    exact⟨by (rw[HY.out];try rfl),hG6⟩
   | true =>
    have hBt:B=true:=tB;rcases HC.out with⟨z1,zC⟩|⟨z1,z2,v1,v2,zC,hV1,hV2⟩
    · refine Z177 ?_;intro HY;go_wp2_with fail
      go_ret
      exact⟨by (rw[HY.out];try rfl),hG6⟩
    refine Z91 ?_;intro k1 k4 HV1 HV2;clear hV1 hV2;go_wp2_with fail;refine Z202 ?_;intro w7 g7 hb7 hG7;clear g7 hb6 hG6 p0 p1 p2 p3 p4 pf hz;exact J52):P:=h

theorem J76 (h:P:=by
 refine Z101 ?_;refine Z12 ?_;have hG4:Gr w w4:=(hG2.drew.trans g3).trans g4;clear g3 g4 hG2 c0 c1 c2 hlt hS2 hS3;obtain⟨⟨c0,c1,c2⟩,hlt⟩:=hS4;go_wp2_with fail;obtain⟨hYn,hYb,hYp⟩:=HY.out (by simp);cases Y with
 | ok v =>
  obtain⟨hv0,hv1⟩:=hYb v rfl;have HP:Hid (∀W,IntW W→Calls Tryz.prog 143 #[.string T,.int .i64 bb,.int .i64 64] W fun e w'=>e = .returned (.tuple #[.int .i64 v,.nilIface])∧Gr W w'):=fun W hW=>by
   obtain⟨ep,he⟩:=hW.err;exact hYp W ep he
  refine Z123 ?_;intro HV;clear hYp hYb hYn HY hv0 hv1
  go_region_held3 (radC3 bg bb ds w1.heap.size) (first|exact⟨⟨c0,c1,c2⟩,hlt⟩|assumption|exact radC3.gr (by assumption) (by assumption)|go_keep) (first|(go_at_call 144;refine (replace_low s (by omega) _ (HW.out.gr Gr.auto)).mono ?_;rw[←HL.out];rintro e w5 ⟨rfl,g5⟩)|(go_at_call 143;refine (HP.out _ (HW.out.gr Gr.auto)).mono ?_;rintro e w6 ⟨rfl,g6⟩))
  exact J152
 | range =>
  have HP:Hid (∀W,IntW W→Calls Tryz.prog 143 #[.string T,.int .i64 bb,.int .i64 64] W fun e w'=>(∃(k:Int) (N:Nat) (ep:Addr),e = .returned (.tuple #[.int .i64 k,.iface 254 (.pointer (some ⟨N,0,none⟩))])∧w'.cell? ⟨N,2,none⟩=some (.iface 280 (.pointer (some ep)))∧w'.cell? ⟨11,0,none⟩=some (.iface 280 (.pointer (some ep))))∧Gr W w'):=fun W hW=>by
   obtain⟨ep,he⟩:=hW.err;refine (hYp W ep he).mono ?_;rintro e w' ⟨⟨k,N,rfl,hN⟩,g⟩;exact⟨⟨k,N,ep,rfl,hN,(g.use.1 _ _ (Lib.lt_of_cell he)).trans he⟩,g⟩
  clear hYp hYb hYn HY
  go_region_held3 (radC3 bg bb ds w1.heap.size) (first|exact⟨⟨c0,c1,c2⟩,hlt⟩|assumption|exact radC3.gr (by assumption) (by assumption)|go_keep) (first|(go_at_call 144;refine (replace_low s (by omega) _ (HW.out.gr Gr.auto)).mono ?_;rw[←HL.out];rintro e w5 ⟨rfl,g5⟩)|(go_at_call 143;refine (HP.out _ (HW.out.gr Gr.auto)).mono ?_;rintro e w6 ⟨⟨k,N,ep,rfl,hN,hE⟩,g6⟩))
  exact J154
 | _=>exact absurd rfl hYn):P:=h

theorem J77 (h:P:=by
 have hR:=SY hdB;clear SY RG NX;unfold Pl.digV at hd;by_cases h48:48≤c.toNat∧c.toNat≤57
 · obtain⟨h1,h2⟩:=h48;rw[if_pos ⟨h1,h2⟩]at hd
   first
   | (exfalso;omega)
   | (subst hd
      go_wp2
      go_ret2
      exact⟨by rw[hR.out];rfl,rfl⟩)
 rw[if_neg h48]at hd;by_cases h97:97≤c.toNat∧c.toNat≤122
 · have hlow:=low_lo c h97;rw[if_pos h97]at hd;obtain⟨h1,h2⟩:=h97;clear h48;exact J166
 rw[if_neg h97]at hd;by_cases h65:65≤c.toNat∧c.toNat≤90
 · have hlow:=low_up c h65;rw[if_pos h65]at hd;obtain⟨h1,h2⟩:=h65;clear h48 h97;exact J166
 clear hd;by_cases h95:c.toNat=95
 · rw[h95]at hc;clear h48 h97 h65;go_wp2_with (refine (lower_at 95 127 (by decide +kernel) _).mono ?_;rintro e w' ⟨rfl,rfl⟩)
   go_ret2
   exact⟨by rw[hR.out];rfl,rfl⟩
 exact J157):P:=h

theorem J78 (h:P:=by
 refine Reg.all (rs:=[11,15,16]) (by kernel_rfl) (by simp) ?_;refine Z14 ?_;intro j hj;rcases hj with rfl|rfl|rfl
 · skip;refine Reg.one (i:=11) rfl (by rfl) ?_;refine Z286 ?_;rintro e w2 hpost;obtain⟨n,d,c,q,rfl,own2,hst⟩:=hpost.open hYn;dsimp only;refine Z47 ?_;refine Reg.all (rs:=[15,16]) (by kernel_rfl) (by simp) ?_;refine Z14 ?_;intro j hj;rcases hj with rfl|rfl
   · skip;refine Z117 ?_;refine Z7 ?_;refine Reg.on 16 ?_;refine Z7 ?_;refine Z38 ?_;intro hv fa ga W3 g3 r0 r1 rf rl k0 k1 kf kl f5 f6 gb;refine Z305 ?_;exact J65
   skip;refine Z157 ?_;refine Z7 ?_;refine Reg.on 15 ?_;refine Z7 ?_;refine Z37 ?_;intro hv fa ga W3 g3 r0 r1 rf rl k0 k1 kf kl f5 f6 gb;refine Z305 ?_;exact J65
 · skip;refine Z117 ?_;refine Z76 ?_;refine Reg.all (rs:=[11,16]) (by kernel_rfl) (by simp) ?_;refine Z14 ?_;intro j hj;rcases hj with rfl|rfl
   · skip;refine Reg.one (i:=11) rfl (by rfl) ?_;refine Z148 ?_;rintro e w2 hpost;obtain⟨n,d,c,q,rfl,own2,hst⟩:=hpost.open hYn;dsimp only;refine Z47 ?_;refine Reg.on 16 ?_;refine Z7 ?_;refine Z30 ?_;intro hv fa ga za fa2 hv2 W3 r0 r1 rf rl k0 k1 kf kl f5 f6 gb;refine Z305 ?_;exact J64
   skip;refine Z157 ?_;refine Z54 ?_;refine Reg.on 11 ?_;refine Z97 ?_;rintro e w2 hpost;obtain⟨n,d,c,q,rfl,own2,hst⟩:=hpost.open hYn;dsimp only;refine Z47 ?_;refine Z28 ?_;intro hv fa ga za gb f5 f6 r0 r1 rf rl k0 k1 kf kl fb zb;refine Z305 ?_;exact J63
 skip;refine Z157 ?_;refine Z75 ?_;refine Reg.all (rs:=[11,15]) (by kernel_rfl) (by simp) ?_;refine Z14 ?_;intro j hj;rcases hj with rfl|rfl
 · skip;refine Reg.one (i:=11) rfl (by rfl) ?_;refine Z147 ?_;rintro e w2 hpost;obtain⟨n,d,c,q,rfl,own2,hst⟩:=hpost.open hYn;dsimp only;refine Z47 ?_;refine Reg.on 15 ?_;refine Z7 ?_;refine Z29 ?_;intro hv fa ga za fa2 hv2 W3 r0 r1 rf rl k0 k1 kf kl f5 f6 gb;refine Z305 ?_;exact J62
 skip;refine Z117 ?_;refine Z53 ?_;refine Reg.on 11 ?_;refine Z96 ?_;rintro e w2 hpost;obtain⟨n,d,c,q,rfl,own2,hst⟩:=hpost.open hYn;dsimp only;refine Z47 ?_;refine Z27 ?_;intro hv fa ga za gb f6 f5 r0 r1 rf rl k0 k1 kf kl fb zb;refine Z305 ?_;exact J61):P:=h

theorem J79 (h:P:=by
 rintro e w2 ⟨rfl,ov',hr2,hst⟩;refine Z109 ?_;intro hu hz2 hg2;have p0:w2.cell? ⟨w.heap.size,0,none⟩=some (.int .i64 0):=(hu.1 0).trans m0;have p1:w2.cell? ⟨w.heap.size,1,none⟩=some (.int .i64 0):=(hu.1 1).trans m1;have p2:w2.frozen? ⟨w.heap.size,0,none⟩=false:=(hu.2 0).trans m2;have p3:w2.frozen? ⟨w.heap.size,1,none⟩=false:=(hu.2 1).trans m3;refine Z131 ?_;intro hlw hlw1;have hro:∀k,FQ (w.heap.size+1) ov' k→w.heap.size+1≤k:=fun k hF=>by
  rcases hst.own k hF with hF|hF
  · exact (HR.out.own_lt hF).1
  omega
 refine Z224 ?_;intro g0 g1 g2 g3 gz HR2 hcv;clear hst hu hz2 m0 m1 m2 m3 hr2 e0 e1 e2 ez;cases over with
 | false =>
  go_wp2_with fail
  go_roundw
  case rel =>
   refine⟨k,a+m,out++t,ov',HR2.out.alloc _,?_,by omega,by omega,by simp;omega,hg2.alloc _,by simp;omega,?_,?_,?_,?_⟩
   · have:=HS2.out;simp only[Bool.false_eq_true,if_false]at this;rw[show a+m-n=a-n+m from by omega];exact this
   all_goals (simp[go_sem,hlw];try assumption)
  case measure =>
   rw[posQ_eq (HR2.out.alloc _),HP.out];omega
 | true =>
  go_wp2_with fail
  go_region
  all_goals go_wp2_with fail
  all_goals
   refine Z276 ?_;have:=HS2.out;simp only[if_true]at this;rw[←this];refine⟨by rw[show n+(a-n+m)=a+m from by omega],by omega,by omega,Gr.auto⟩):P:=h

theorem J80 (h:P:=by
 go_wp2_with (refine (lower_at _ _ hlow _).mono ?_;rintro e w' ⟨rfl,rfl⟩)
 go_ret2
 exact⟨by rw[hR.out];rfl,rfl⟩):P:=h

theorem J81 (h:P:=by
 have hR:=SY hdB;clear SY RG NX;unfold Pl.digV at hd;by_cases h48:48≤c.toNat∧c.toNat≤57
 · obtain⟨h1,h2⟩:=h48;rw[if_pos ⟨h1,h2⟩]at hd
   first
   | (exfalso;omega)
   | (subst hd
      go_wp2
      all_goals go_ret2
      exact⟨by rw[hR.out];rfl,rfl⟩)
 rw[if_neg h48]at hd;by_cases h97:97≤c.toNat∧c.toNat≤122
 · have hlow:=low_lo c h97;rw[if_pos h97]at hd;obtain⟨h1,h2⟩:=h97;clear h48;subst hd;exact J42
 rw[if_neg h97]at hd;by_cases h65:65≤c.toNat∧c.toNat≤90
 · have hlow:=low_up c h65;rw[if_pos h65]at hd;obtain⟨h1,h2⟩:=h65;clear h48 h97;subst hd;exact J42
 clear hd;by_cases h95:c.toNat=95
 · rw[h95]at hc;clear h48 h97 h65;go_wp2_with (refine (lower_at 95 127 (by decide +kernel) _).mono ?_;rintro e w' ⟨rfl,rfl⟩)
   all_goals go_ret2
   all_goals exact⟨by rw[hR.out];rfl,rfl⟩
 exact J157):P:=h

theorem J82 (h:P:=by
 clear hov hacc ha;by_cases h48:48≤c.toNat∧c.toNat≤57
 · obtain⟨h1,h2⟩:=h48;rw[if_pos ⟨h1,h2⟩]at hdv;refine Z178 ?_;intro e1;rw[e1]at iov;try rw[e1]at hR
   have hdi:(c.toNat:Int)-48<16:=by omega
   clear hdv hdB e1
   go_wp2
   exact J21
 rw[if_neg h48]at hdv;by_cases h97:97≤c.toNat∧c.toNat≤122
 · have hlow:=low_lo c h97;rw[if_pos h97]at hdv;obtain⟨h1,h2⟩:=h97;clear h48;refine Z180 ?_;intro e1;rw[e1]at iov;try rw[e1]at hR
   have hdi:(c.toNat:Int)-87<16:=by omega
   clear hdv hdB e1;exact J163
 rw[if_neg h97]at hdv;by_cases h65:65≤c.toNat∧c.toNat≤90
 · have hlow:=low_up c h65;rw[if_pos h65]at hdv;obtain⟨h1,h2⟩:=h65;clear h48 h97;refine Z179 ?_;intro e1;rw[e1]at iov;try rw[e1]at hR
   have hdi:(c.toNat:Int)-55<16:=by omega
   clear hdv hdB e1;exact J163
 exact J20):P:=h

theorem J83 (h:P:=by
 have hG5:=HG2.out.trans g5d;clear p0 p1 pf pl p2 p3 pf' pl' v0 v1 vf vl hF;refine Z43 ?_;rintro e w6 hpost;obtain⟨ec,eq,rfl,own2,hst2⟩:=hpost.open hX'n;have hnb:∀k,w.heap.size≤k→¬FV own k:=fun k hk e=>by have:=(H.out.v.lt k e).2;omega
 have hB6:=hS3.1.st hst2 (fun k h1 _=>hnb k h1);have hS6:=And.intro hB6 (hS3.2.st hst2 (hnb bK (by omega)));refine Z80 ?_;obtain⟨⟨p0,p1,pf,pl⟩,⟨p2,p3,pf',pl'⟩,⟨p4,p5,pf'',pl''⟩⟩:=id hB6;refine Reg.on 5 ?_;go_simp;rw[setCell_self hB6.i.1,setCell_self hB6.i.2.1];refine Z80 ?_;refine Reg.on 6 ?_;go_simp;rw[setCell_self hB6.t.1,setCell_self hB6.t.2.1];refine Z80 ?_;refine Reg.on 7 ?_;refine Z292 ?_;go_wp2_with fail;refine Z67 ?_;intro WF hWF q0 q1 qf ql y0 y1 yf yl v0' v1' vf' vl' hPW;exact bodyPost_ret (v := .tuple #[.agg #[.int .i64 0,.int .i64 0],.agg #[.slice none 0 0,.int .i64 0],.agg #[.int .i64 ec,.int .i64 eq]]) (by simp[results,Tryz.results35,go_sem,q0,q1,qf,ql,y0,y1,yf,yl,v0',v1',vf',vl']) rfl hPW):P:=h

theorem J84 (h:P:=by
 refine Z122 ?_;intro k4 ku hFq hSq HHB HSQ hbl;clear hb2
 go_upto_region 10 with fail
 refine Z193 ?_;intro hS;refine Reg.takeY (i:=1) (v:=?_) rfl (by kernel_rfl) (by kernel_rfl) (by kernel_rfl) (fun _ _ _ h=>h) (by rfl) ?_ ?_;rotate_left
 · exact J69
 refine Z50 ?_;refine Z87 ?_;intro w4 q4 hq4 g4 hS4 hq4s;refine Z32 ?_;refine Reg.takeY (i:=9) (v:=?_) rfl (by kernel_rfl) (by kernel_rfl) (by kernel_rfl) (fun _ _ _ h=>h) (by rfl) ?_ ?_;rotate_left
 · exact J69
 refine Z50 ?_;refine Reg.takeY (i:=10) (v:=?_) rfl (by kernel_rfl) (by kernel_rfl) (by kernel_rfl) (fun _ _ _ h=>h) (by rfl) ?_ ?_;rotate_left
 · exact J69
 refine Z50 ?_;refine Reg.on 11 ?_;refine Z292 ?_;go_wp2_with fail
 go_roundw
 case rel=>exact⟨m+1,_,ub,rfl,rfl,by omega,HUB.out,by rw[←HHB.out,bs_app,bs_app,bs_app,hq4];simp[bs],(HGQ.out.trans (Gr.refl wq).drew).trans g4⟩
 case measure=>simp[intOf];omega):P:=h

theorem J85 (h:P:=by
 rw[hq]at hp HF;obtain⟨rfl,ov',hr,hst⟩:=hp;obtain⟨hc1,hf1⟩:=hst.use w.heap.size (by omega) hn0;have hz1:=hst.size;have r0:w1.cell? ⟨w.heap.size,0,none⟩=some (.int .i64 0):=(hc1 _).trans m0;have r1:w1.cell? ⟨w.heap.size,1,none⟩=some (.int .i64 0):=(hc1 _).trans m1;have r2:w1.frozen? ⟨w.heap.size,0,none⟩=false:=(hf1 _).trans m2;have r3:w1.frozen? ⟨w.heap.size,1,none⟩=false:=(hf1 _).trans m3;refine Z163 ?_;intro HR1 HST;have HQ:=Lib.hid HF;clear hr hst hc1 hf1 m0 m1 m2 m3 hq HF;go_wp2_with fail;refine Z258 ?_;rw[HX.out,HQ.out];refine⟨rfl,ov',?_,?_⟩
 · have hn3:¬FQ R ov' w.heap.size:=fun hF=>by
    rcases HST.out.own _ hF with hF|hF
    · exact hn0 hF
    omega
   have hrd:=HR1.out;exact RdQ.auto hrd
 have hst0:St (FQ R ov) (FQ R ov') w w1:=HG.out.st.trans HST.out;have hst:=hst0;exact St.auto):P:=h

theorem J86 (h:P:=by
 obtain⟨y0,y1,yf,yl⟩:=hX3.gr g4;have hI5:=(g4.block (Array.getElem?_eq_some_iff.1 hI4).1).trans hI4;refine Z55 ?_;intro hF5 hG5 i0 i1 i2 i3 i4 i5 i6 i7 i8 ifz ilt v0 v1 vf vl WF hWF HWF zI zF zG;clear hI4 hX3 hF4 hG4 g4 hWF
 try clear q0 q1 qf ql
 go_wp2_with fail
 go_region
 all_goals rw[HWF.out]
 all_goals clear HWF i0 i1 i2 i3 i4 i5 i6 i7 i8 ifz ilt v0 v1 vf vl hI5 hF5 hG5
 all_goals obtain⟨⟨i0,i1,i2,i3,i4,i5,i6,i7,i8⟩,ifz,ilt⟩:=cells9 zI
 all_goals obtain⟨v0,v1,vf,vl⟩:=id zF
 all_goals go_wp2_with fail
 all_goals refine bodyPost_ret (v := .tuple #[itZ,fv c p]) (by simp[results,Tryz.results36,go_sem,i0,i1,i2,i3,i4,i5,i6,i7,i8,v0,v1]) rfl ?_
 all_goals (rw[←HX.out];first|exact⟨rfl,hc,zG⟩|exact⟨rfl,hc,zG.drew⟩|exact⟨rfl,hc,zG.drew.drew⟩)):P:=h

theorem J87 (h:P:=by
 rw[hP]at htf;simp only at htf;refine Z136 ?_;refine Z120 ?_;intro w5 hc F5 hst5 HRK5;have hn2':¬FV own2 w.heap.size:=fun hf=>by
  rcases HOWN3.out _ hf with e|e
  · exact hnF e
  have:=HZB.out;omega
 refine Z127 ?_;intro HFX5 HST5 HXX HC a0 a1 af al hc';clear htf hst5 hP hc;go_wp2_with fail;refine Z231 ?_;intro w6 g6;obtain⟨u0,u1,uf,ul⟩:=HFX5.out.gr g6;have hst6:=HST5.out.gr g6;have hrk6:=HRK5.out.gr g6;clear g6 a0 a1 af al;go_wp2_with fail
 go_region
 all_goals go_wp2_with fail
 rw[←HXX.out];exact bodyPost_ret (v := .tuple #[.int .i64 0,.int .i64 0,fv c p]) (by simp[results,Tryz.results94,go_sem,u0,u1,uf,ul]) rfl ⟨rfl,HC.out,F5,((hst6.setCell (.inr (Nat.le_refl _)) _).setCell (.inr (Nat.le_refl _)) _).drew,((hrk6.set (by omega) _).set (by omega) _).drew⟩):P:=h

theorem J88 (h:P:=by
 clear hdv hdB e1;go_wp2_with (refine (lower_at _ _ hlow _).mono ?_;rintro e w' ⟨rfl,rfl⟩)
 all_goals refine⟨⟨k+1,_,_,rfl,(by first|rfl|(congr 1;omega)),(by first|rfl|(congr 1;omega)),by omega,hR⟩,by simp[intOf];omega⟩):P:=h

theorem J89 (h:P:=by
 refine Z79 ?_;refine Z116 ?_;intro HR' NBS' NBT';have NBU':=NBU1.out.alloc (.cells #[.int .i64 a,.int .i64 b] 73);refine Z216 ?_;intro V2 hV;rw[hV]at HR' NBS' NBT' NBU' ⊢;clear hV;refine Z49 ?_;intro HR2 NBT2;have NBU2:=Lib.hid NBU';have NBS2:=Lib.hid NBS';clear HR' NBS' NBT' NBU';refine Z31 ?_;intro hS2;refine Reg.on 8 ?_;skip;refine Z137 ?_;intro HR' NBK' NBT';have NBU':=NBU2.out.alloc (.cells #[.string key] 9);have NBS':=NBS2.out.alloc (.cells #[.string key] 9);refine Z251 ?_;intro V3 hV;rw[hV]at HR' NBK' NBT' NBU' NBS' ⊢;clear hV;refine Z49 ?_;intro HR3 NBT3;have NBU3:=Lib.hid NBU';have NBS3:=Lib.hid NBS';have NBK3:=Lib.hid NBK';clear HR' NBK' NBT' NBU' NBS';exact J10):P:=h

theorem J90 (h:P:=by
 refine Z66 ?_;refine Z154 ?_;intro HR' NBU' NBT';have NBS':=NBS1.out.alloc (.cells #[.int .i64 n] 3);refine Z249 ?_;intro V2 hV;rw[hV]at HR' NBU' NBT' NBS' ⊢;clear hV;refine Z49 ?_;intro HR2 NBT2;have NBS2:=Lib.hid NBS';have NBU2:=Lib.hid NBU';clear HR' NBU' NBT' NBS';refine Z31 ?_;intro hS2;refine Reg.on 8 ?_;skip;refine Z137 ?_;intro HR' NBK' NBT';have NBS':=NBS2.out.alloc (.cells #[.string key] 9);have NBU':=NBU2.out.alloc (.cells #[.string key] 9);refine Z251 ?_;intro V3 hV;rw[hV]at HR' NBK' NBT' NBS' NBU' ⊢;clear hV;refine Z49 ?_;intro HR3 NBT3;have NBS3:=Lib.hid NBS';have NBU3:=Lib.hid NBU';have NBK3:=Lib.hid NBK';clear HR' NBK' NBT' NBS' NBU';exact J11):P:=h

theorem J91 (h:P:=by
 rintro e w2 ⟨rfl,F',hst⟩;refine Z109 ?_;intro hu hz2 hg2;have p0:w2.cell? ⟨w.heap.size,0,none⟩=some (.int .i64 0):=(hu.1 0).trans m0;have p1:w2.cell? ⟨w.heap.size,1,none⟩=some (.int .i64 0):=(hu.1 1).trans m1;have p2:w2.frozen? ⟨w.heap.size,0,none⟩=false:=(hu.2 0).trans m2;have p3:w2.frozen? ⟨w.heap.size,1,none⟩=false:=(hu.2 1).trans m3;have hlw:w.heap.size<w2.heap.size:=by omega
 clear hst hu hz2 m0 m1 m2 m3;go_wp2_with fail
 go_region
 all_goals go_wp2_with fail
 all_goals
  refine Z247 ?_;refine⟨by rw[show n+(a-n+p)=a+p from by omega],by omega,Gr.auto⟩):P:=h

theorem J92 (h:P:=by
 refine Z33 ?_;intro gN capN V4 HR4;refine Z2 ?_;have hRe:=HRK.out V4 HR4.out.st;obtain⟨k7,k8,kf⟩:=hRe;refine Z190 ?_;refine Z2 ?_;refine Reg.ty 19 ?_;refine Reg.ty 20 ?_;refine Reg.on 21 ?_;refine Z292 ?_;go_wp2_with fail
 go_meet
 exact itmR_of HGMe.out HGIe.out HR4.out):P:=h

theorem J93 (h:P:=by
 rw[hq]at hp HF;obtain⟨rfl,hst⟩:=hp;obtain⟨hc1,hf1⟩:=hst.use w.heap.size (by omega) hn0;have hz1:=hst.size;have r0:w1.cell? ⟨w.heap.size,0,none⟩=some (.int .i64 0):=(hc1 _).trans m0;have r1:w1.cell? ⟨w.heap.size,1,none⟩=some (.int .i64 0):=(hc1 _).trans m1;have r2:w1.frozen? ⟨w.heap.size,0,none⟩=false:=(hf1 _).trans m2;have r3:w1.frozen? ⟨w.heap.size,1,none⟩=false:=(hf1 _).trans m3;have HST:=Lib.hid hst;have HQ:=Lib.hid HF;clear hst hc1 hf1 m0 m1 m2 m3 hq HF;go_wp2_with fail;refine Z264 ?_;intro hst0 hst;exact⟨rfl,St.auto⟩):P:=h

theorem J94 (h:P:=by
 go_wp2_with fail;refine (tq_wrong _ (a+2) (by omega) _).mono ?_;rintro e w2 ⟨rfl,g2⟩;obtain⟨hc1,hf1,hz2⟩:=g2.use;have q0:w2.cell? ⟨w.heap.size,0,none⟩=some (.int .i64 0):=(hc1 _ _ (by omega)).trans n0;have q1:w2.cell? ⟨w.heap.size,1,none⟩=some (.int .i64 0):=(hc1 _ _ (by omega)).trans n1;have q2:w2.frozen? ⟨w.heap.size,0,none⟩=false:=(hf1 _ _ (by omega)).trans n2;have q3:w2.frozen? ⟨w.heap.size,1,none⟩=false:=(hf1 _ _ (by omega)).trans n3;clear hc1 hf1 n0 n1 n2 n3;go_wp2_with fail;refine Z240 ?_;intro hst;exact⟨rfl,St.auto⟩):P:=h

theorem J95 (h:P:=by
 obtain⟨z1,z2⟩:=beqs _ 48 _ hz;have HZ:Hid ((bs D)[0]?=some 48):=Lib.hid (by
  have h2:=idx_bs D 0 e0;simp only[List.drop_zero]at h2;rw[h2];simp only[List.getElem?_cons_zero,Option.some.injEq,←UInt8.toNat_inj]
  simpa using hz)
 clear hz;refine Z5 ?_;intro w4 g4 hS4;refine Z77 ?_;refine Z101 ?_;refine Z12 ?_;have hG4:Gr w w4:=(hG5.drew.trans g3).trans g4;exact J161):P:=h

theorem J96 (h:P:=by
 clear g3;go_wp2_with fail;exact bodyPost_ret (v := .tuple #[.string ⟨#[]⟩,.int .i64 3]) (by simp[results,Tryz.results128,go_sem]) rfl ⟨post_bad (HXf.out (by simp)),hG3⟩):P:=h

theorem J97 (h:P:=by
 rintro e w4 hp;obtain⟨x,y,z,rfl⟩:=hp.form HNE.out;obtain⟨q0,q1,qf,ql⟩:=hFB.st (hp.st HNE.out) (by simpa using Ne.symm hIne);clear i0 i1 i2 i3 i4 i5 i6 i7 i8 ifz ilt;go_wp2_with fail;refine Z174 ?_;exact hp.setF2 hSB (Nat.le_refl _) hzB hIne _ _):P:=h

theorem J98 (h:P:=by
 clear hdv hdB e1;exact J163):P:=h

theorem J99 (h:P:=by
 intro k hk
 replace hk:(if kv.ownBlock=some k then 4+3*i else if sv.ownBlock=some k then 5+3*i else if uv.ownBlock=some k then 6+3*i else own k)≠0:=hk
 have fi:∀b,FI own i b∨w.heap.size≤b→own b≠0∨w.heap.size≤b:=fun b e=>e.imp (fun e=>by unfold FI at e;omega) id
 exact J164):P:=h

theorem J100 (h:P:=by
 obtain⟨rfl,rfl⟩:=hrel;go_wp2_with fail
 go_step3
 go_wp2_with fail
 go_quiet (fail)
 go_wp2_with fail
 go_quiet ((go_at_call 43;first|exact quiet_any (pm_byte _ _ c hl _) ⟨_,rfl⟩|exact quiet_any2 (pm_byte _ _ c hl _) ⟨_,rfl⟩))
 exact J160):P:=h

theorem J101 (h:P:=by
 go_wp2_with fail
 go_region
 all_goals go_wp2_with fail
 have hXe:X = .bad 5 a:=by have:=HX.out;rw[←HY5.out]at this;exact this.symm
 rw[hXe];exact bodyPost_ret (v := .tuple #[.int .i64 0,fv 5 a]) (by simp[results,Tryz.results118,go_sem,q0,q1,qf,ql]) rfl ⟨rfl,by omega,FV own',((HST.out.setCell (.inr (Nat.le_refl _)) _).setCell (.inr (Nat.le_refl _)) _).drew,((HR'.out.rk.set (by omega) _).set (by omega) _).drew⟩):P:=h

theorem J102 (h:P:=by
 go_wp2_with fail;refine Z283 ?_;intro w3 kk x cc hcc g3;obtain⟨rfl,hc⟩:=hcc;obtain⟨q0,q1,qf,ql⟩:=hF1.gr g3;have hcb:((cc:Int) != 0)=true:=by simp;omega
 have hG3:Gr w w3:=hG1.trans g3;clear g3 hG1 hF1;go_wp2_with fail;exact bodyPost_ret (v := .tuple #[.int .i64 0,.int .i64 0,fv cc n]) (by simp[results,Tryz.results90,go_sem,q0,q1,qf,ql]) rfl ⟨rfl,hc,FV own,St.auto,H.out.rk.gr Gr.auto⟩):P:=h

theorem J103 (h:P:=by
 have s2:decide ((256:Int)<(d:Int)+2)=true:=by simp;omega
 rw[if_pos hdp]at hXX;have hE':=(HE.out.gr G7.out)
 obtain⟨r0,r1,rf,rl⟩:=id hE';go_wp2_with fail;refine Z68 ?_;intro sF7 WF q0 q1 qf ql sF hc2;exact bodyPost_ret (v:=fv 4 a) (by simp[results,Tryz.results46,go_sem,q0,q1,qf,ql]) rfl ⟨rfl,by decide,own',sF,hc2,fun k hk=>(HON.out k hk).imp id (fun h=>by have:=HG.out.size;omega)⟩):P:=h

theorem J104 (h:P:=by
 refine Z35 ?_;intro HR' NBS' NBT';have NBK':=NBK2.out.alloc (.cells #[.int .i64 a,.int .i64 b] 73);have NBU':=NBU2.out.alloc (.cells #[.int .i64 a,.int .i64 b] 73);refine Z133 ?_;intro V3 hV;rw[hV]at HR' NBS' NBT' NBK' NBU' ⊢;clear hV;refine Z49 ?_;intro HR3 NBT3;have NBK3:=Lib.hid NBK';have NBU3:=Lib.hid NBU';have NBS3:=Lib.hid NBS';clear HR' NBS' NBT' NBK' NBU';exact J10):P:=h

theorem J105 (h:P:=by
 refine Z35 ?_;intro HR' NBS' NBT';have NBU':=NBU2.out.alloc (.cells #[.int .i64 a,.int .i64 b] 73);have NBK':=NBK2.out.alloc (.cells #[.int .i64 a,.int .i64 b] 73);refine Z133 ?_;intro V3 hV;rw[hV]at HR' NBS' NBT' NBU' NBK' ⊢;clear hV;refine Z49 ?_;intro HR3 NBT3;have NBU3:=Lib.hid NBU';have NBK3:=Lib.hid NBK';have NBS3:=Lib.hid NBS';clear HR' NBS' NBT' NBU' NBK';exact J10):P:=h

theorem J106 (h:P:=by
 go_wp2_with fail;refine Z283 ?_;intro w3 kk x cc hcc g3;obtain⟨hkk,hx,hc0⟩:=hcc;have hF:=hF1.gr g3;have hG3:Gr w w3:=hG1.trans g3;clear g3 hG1 hF1;subst hc0 hx hkk;go_wp2_with fail;refine Z34 ?_;intro hS w4 nv' own' p0 p1 pf pl hn3 H3 HS3 HO3;refine Z12 ?_;go_wp2_with fail;refine Z146 ?_;exact (HS3.out.setCell (.inr (Nat.le_refl _)) _).setCell (.inr (Nat.le_refl _)) _):P:=h

theorem J107 (h:P:=by
 refine Z57 ?_;refine Reg.tl 2 hS ?_ (hy:=by intro w hSw;obtain⟨q0,q1,q2⟩:=hSw;go_simp;try with_reducible rfl);refine Z42 ?_;refine Z186 ?_;intro k1 os1 hS1 hG1;refine Z64 ?_;refine Z308 ?_;refine Z12 ?_;go_wp2_with fail;exact bodyPost_ret (v := .string R) (by simp[results,Tryz.results172,go_sem]) rfl ⟨⟨R,rfl,HR.out⟩,hG1⟩):P:=h

theorem J108 (h:P:=by
 refine Z56 ?_;intro HR' NBU' NBT';have NBK':=NBK2.out.alloc (.cells #[.int .i64 n] 3);have NBS':=NBS2.out.alloc (.cells #[.int .i64 n] 3);refine Z170 ?_;intro V3 hV;rw[hV]at HR' NBU' NBT' NBK' NBS' ⊢;clear hV;refine Z49 ?_;intro HR3 NBT3;have NBK3:=Lib.hid NBK';have NBS3:=Lib.hid NBS';have NBU3:=Lib.hid NBU';clear HR' NBU' NBT' NBK' NBS';exact J11):P:=h

theorem J109 (h:P:=by
 refine Z56 ?_;intro HR' NBU' NBT';have NBS':=NBS2.out.alloc (.cells #[.int .i64 n] 3);have NBK':=NBK2.out.alloc (.cells #[.int .i64 n] 3);refine Z170 ?_;intro V3 hV;rw[hV]at HR' NBU' NBT' NBS' NBK' ⊢;clear hV;refine Z49 ?_;intro HR3 NBT3;have NBS3:=Lib.hid NBS';have NBK3:=Lib.hid NBK';have NBU3:=Lib.hid NBU';clear HR' NBU' NBT' NBS' NBK';exact J11):P:=h

theorem J110 (h:P:=by
 rw[hv];refine (Tryz.slices_Index_string b 0 r.nd.keys.length c (r.nd.keys.map fun k=>(⟨k.toArray⟩:ByteArray)) key w (by simp) (by unfold maxLen at hcm;omega) ?_).mono ?_
 · intro j hj;rw[List.length_map]at hj;rw[Nat.zero_add];refine hcl j _ ?_;simp[keysV,hj,List.getD]
 refine Z48 ?_;rw[List.take_of_length_le (by simp),hidx];exact⟨rfl,rfl⟩):P:=h

theorem J111 (h:P:=by
 go_enter Tryz.func156,Tryz.ntmps156;go_wp2_with fail
 try rw[hU]
 refine (HA.out _).mono ?_;rintro e w1 ⟨rfl,g1⟩;go_wp2_with fail
 go_ret
 exact⟨by (rw[HY.out];try rfl),g1⟩):P:=h

theorem J112 (h:P:=by
 intro n hn h1 h2;subst hn;exact Lib.hid ⟨by omega,by omega,by rw[hdec];simp[h1,h2]⟩):P:=h

theorem J113 (h:P:=by
 go_wp2_with fail;exact bodyPost_ret (v := .bool true) (by simp[results,Tryz.results3,go_sem]) rfl ⟨rfl,HG6.out⟩):P:=h

theorem J114 (h:P:=by
 go_enter Tryz.func87,Tryz.ntmps87;go_wp2_with (go_at_call 109;refine (tq_wrong _ n rfl _).mono ?_;rintro e w1 ⟨rfl,g1⟩;obtain⟨hc1,hf1,hz1⟩:=g1.use;simp at hz1);exact bodyPost_ret (v := .tuple #[.string ⟨#[]⟩,.int .i64 0,fv 3 n]) (by simp[results,Tryz.results87,go_sem,hc1,hf1]) rfl ⟨rfl,Gr.auto⟩):P:=h

theorem J115 (h:P:=by
 rw[List.getElem?_map]at hi;cases hx:L[i]? with
 | none=>rw[hx]at hi;cases hi
 | some x =>
  rw[hx]at hi;cases hi;have hR:=hr.rows i x hx;exact⟨fun k e=>hR.tk k (by rw[←clipV_block];exact e),fun k e=>hR.ts k (by rw[←clipV_block];exact e),fun k e=>hR.tu k (by rw[←clipV_block];exact e)⟩):P:=h

theorem J116 (h:P:=by
 intro k hk;rw[hsz];by_cases h0:own k=0
 · split at hk
   · rename_i e;have:=H.k.lt k e;exact this
   split at hk
   · rename_i e;have:=H.s.lt k e;exact this
   split at hk
   · rename_i e;have:=H.u.lt k e;exact this
   exact absurd h0 hk
 have:=h.lt k h0;exact⟨this.1,by omega⟩):P:=h

theorem J117 (h:P:=by
 rw[Lib.toList_data];show (bs x=[]∧(bs x).isEmpty=true∧(bs x).isEmpty=true)∨_;cases h:bs x with
 | nil=>exact .inl ⟨rfl,rfl,rfl⟩
 | cons c l =>
  right;refine⟨?_,?_,rfl⟩
  · show ¬bs x=[];rw[h];simp
  show (bs x).isEmpty=false;rw[h];rfl):P:=h

theorem J119 (h:P:=by
 rintro e w1 ⟨rfl,g1⟩;go_wp2_with fail
 go_ret
 exact⟨by (rw[HX.out];try rfl),g1⟩):P:=h

theorem J120 (h:P:=by
 go_enter Tryz.func115,Tryz.ntmps115;go_wp2_with fail;exact bodyPost_ret (v := .tuple #[.int .u8 1,.string t,.int .i64 0]) (by simp[results,Tryz.results115,go_sem]) rfl ⟨⟨1,t,0,rfl,by rw[HX.out];exact⟨rfl,rfl,rfl⟩⟩,Gr.refl _⟩):P:=h

theorem J121 (h:P:=by
 rw[hF]at hdec;subst ha;clear hacc hF a0 a1
 go_wp2
 go_ret2
 first|exact⟨rfl,rfl⟩|exact⟨by rw[hdec];rfl,rfl⟩):P:=h

theorem J122 (h:P:=by
 obtain⟨h1,h2⟩:=h48;rw[if_pos ⟨h1,h2⟩]at hdv;refine Z178 ?_;intro e1;rw[e1]at iov;try rw[e1]at hR
 exact J168):P:=h

theorem J123 (h:P:=by
 go_wp2
 go_ret
 exact⟨rfl,(Gr.refl _).alloc _⟩):P:=h

theorem J124 (h:P:=by
 split at hk
 · rename_i e
   subst e;refine⟨?_,hlt⟩;rcases hrow.2 with⟨h6,_⟩|⟨g5,c5,u5,h6,h7,_⟩
   · cases h6
   cases h6;exact h7
 have:=h.lt k hk;exact⟨this.1,by omega⟩):P:=h

theorem J125 (h:P:=by
 intro k hk;by_cases h1:k=w.heap.size+1
 · subst h1;simp;omega
 rw[if_neg h1]at hk;by_cases h2:k=w.heap.size
 · subst h2;simp;omega
 rw[if_neg h2]at hk;exact absurd rfl hk):P:=h

theorem J126 (h:P:=by
 intro h1 h2;exact Lib.hid (by rw[hdec];simp[h1,h2])):P:=h

theorem J127 (h:P:=by
 rw[hX];exact bodyPost_ret (v := .tuple #[.agg #[.int .i64 i,.int .i64 ((d:Int)+1)],.bool false]) (by simp[results,Tryz.results66,go_sem,q0,q1,qf,ql]) rfl ⟨⟨_,_,rfl⟩,gE⟩):P:=h

theorem J128 (h:P:=by
 clear hdv hdB e1
 go_wp2
 all_goals refine⟨⟨k+1,_,_,rfl,(by first|rfl|(congr 1;omega)),(by first|rfl|(congr 1;omega)),by omega,hR⟩,by simp[intOf];omega⟩):P:=h

theorem J129 (h:P:=by
 go_wp2_with fail
 go_region
 all_goals go_wp2_with fail
 exact bodyPost_ret (v := .tuple #[.int .i64 i,f0]) (by simp[results,Tryz.results72,go_sem]) rfl ⟨rfl,Gr.auto⟩):P:=h

theorem J130 (h:P:=by
 intro h1;exact Lib.hid (by rw[hdec];simp[h1])):P:=h

theorem J131 (h:P:=by
 go_wp2_with fail;exact bodyPost_ret (v := .tuple #[.string ⟨#[]⟩,.int .i64 3]) (by simp[results,Tryz.results127,go_sem]) rfl ⟨post_bad HY.out,Gr.auto⟩):P:=h

theorem J132 (h:P:=by
 rw[long_pre,Bool.or_eq_true]at hl';rcases hl' with h|h
 all_goals
  have:=Pl.pre_length _ _ h;rw[List.length_drop,bs_length]at this;simp at this;omega):P:=h

theorem J133 (h:P:=by
 refine Z205 ?_;refine Z12 ?_;go_wp2_with fail
 go_roundw
 case rel=>exact⟨j+1,by go_num,by omega,HSTEP.out⟩
 case measure=>simp[intOf];omega):P:=h

theorem J134 (h:P:=by
 go_wp2_with fail
 go_quiet (fail)
 go_wp2_with fail;refine Z182 ?_;intro w2 p0 p1 pf pl hG2;go_wp2_with fail;refine Z280 ?_;rw[←HX3.out];exact rfl):P:=h

theorem J135 (h:P:=by
 split at hk
 · rename_i e
   subst e;rcases hg0 with h5|h5
   · exact .inl (.inl (by unfold FV;omega))
   exact .inr h5.2
 exact .inl (.inl hk)):P:=h

theorem J136 (h:P:=by
 go_enter Tryz.func137,Tryz.ntmps137;go_wp2_with fail
 go_ret
 exact⟨⟨_,rfl,by (rw[HX.out];try rfl),by (simp;try omega)⟩,Gr.auto⟩):P:=h

theorem J137 (h:P:=by
 rintro e w2 ⟨rfl,hst⟩;refine Z18 ?_;intro hc2 hf2 hz2;have HT:=Lib.hid hst;clear hst;go_wp2_with fail;refine Z273 ?_;exact J30):P:=h

theorem J138 (h:P:=by
 rw[hF]at hdec;subst ha;clear hacc hF a0 a1
 go_wp2
 all_goals go_ret2
 first|exact⟨rfl,rfl⟩|exact⟨by rw[hdec];rfl,rfl⟩):P:=h

theorem J139 (h:P:=by
 go_enter Tryz.func137,Tryz.ntmps137;go_wp2_with fail
 go_ret
 exact⟨⟨_,rfl,by (rw[HX.out];try rfl),Nat.zero_le _⟩,Gr.auto⟩):P:=h

theorem J140 (h:P:=by
 intro k hk hn;refine hold k hk (fun e=>hn (.inl ?_)) (fun e=>hn (.inl ?_))
 · subst e;unfold FV;rw[h.oR];omega
 unfold FV;omega):P:=h

theorem J141 (h:P:=by
 intro k e;simp[Value.ownBlock]at e;subst e;show (if _ then _ else _)=3;rw[tg g (by omega) (nF g 3 hgo (by omega))];exact hgo):P:=h

theorem J142 (h:P:=by
 split at hk
 · rename_i e
   subst e;rcases hg0 with h5|h5
   · exact .inl (by omega)
   exact .inr (.inr h5.2)
 exact .inl hk):P:=h

theorem J143 (h:P:=by
 intro k e;simp only at e;have a1:kv.ownBlock≠some k:=fun e2=>H.ks k e2 e
 simp only[a1,e,if_true,if_false]):P:=h

theorem J145 (h:P:=by
 intro hv fa ga W3 g3 r0 r1 rf rl k0 k1 kf kl f5 f6 gb;refine Z313 ?_;exact J65):P:=h

theorem J146 (h:P:=by
 rw[hv];refine (Tryz.slices_Index_string_empty a c key w).mono ?_;refine Z48 ?_;rw[h0];exact⟨rfl,rfl⟩):P:=h

theorem J147 (h:P:=by
 refine Z191 ?_;exact (HST12.out.setCell (.inr (Nat.le_refl _)) _).setCell (.inr (Nat.le_refl _)) _):P:=h

theorem J148 (h:P:=by
 rw[HX.out,←HE.out];have hst:=HT.out;have hst2:=HT2.out;exact⟨rfl,St.auto⟩):P:=h

theorem J149 (h:P:=by
 go_wp2_with fail;refine Z20 ?_;intro V0 HR0 NBT0 hS0;refine Z14 ?_;intro j hj;rcases hj with rfl|rfl|rfl
 · refine Z187 ?_;refine Z291 ?_;intro V1 HR1 NBT1 NBK1 hS1;refine Reg.all (rs:=[9,15,22]) (by kernel_rfl) (by simp) ?_;refine Z14 ?_;intro j hj;rcases hj with rfl|rfl|rfl
   · refine Z62 ?_;intro gK capK V2 HR2 NBT2 hS2;refine Z14 ?_;intro j hj;rcases hj with rfl|rfl
     · refine Z315 ?_;intro V3 HR3 NBT3 NBS3 hS3;intro j hj;exact J172
     refine Z318 ?_;intro V3 HR3 NBT3 NBU3 hS3;skip;refine Z10 ?_;exact J173
   · refine Z295 ?_;intro V2 HR2 NBT2 NBK2 NBS2 hS2 j hj;rcases hj with rfl|rfl
     · refine Z293 ?_;intro gK capK V3 HR3 NBT3 NBS3 hS3 j hj;exact J172
     exact J108
   refine Z297 ?_;intro V2 HR2 NBT2 NBK2 NBU2 hS2 j hj;rcases hj with rfl|rfl
   · refine Z299 ?_;intro gK capK V3 HR3 NBT3 NBU3 hS3;skip;refine Z10 ?_;exact J173
   exact J104
 · refine Z79 ?_;refine Z185 ?_;refine Z291 ?_;intro V1 HR1 NBT1 NBS1 hS1;refine Reg.all (rs:=[8,22]) (by kernel_rfl) (by simp) ?_;refine Z14 ?_;intro j hj;rcases hj with rfl|rfl
   · refine Z300 ?_;intro V2 HR2 NBT2 NBS2 NBK2 hS2 j hj;rcases hj with rfl|rfl
     · refine Z293 ?_;intro gK capK V3 HR3 NBT3 NBS3 hS3 j hj;exact J172
     exact J109
   exact J90
 refine Z66 ?_;refine Z221 ?_;refine Z291 ?_;intro V1 HR1 NBT1 NBU1 hS1;refine Reg.all (rs:=[8,15]) (by kernel_rfl) (by simp) ?_;refine Z14 ?_;intro j hj;rcases hj with rfl|rfl
 · refine Z301 ?_;intro V2 HR2 NBT2 NBU2 NBK2 hS2 j hj;rcases hj with rfl|rfl
   · refine Z299 ?_;intro gK capK V3 HR3 NBT3 NBU3 hS3;skip;refine Z10 ?_;exact J173
   exact J105
 exact J89):P:=h

theorem J150 (h:P:=by
 refine Z12 ?_;have hG2:Gr w w2:=hGq.drew.trans g2;clear g2 hG0 hGq c0 c1 c2 hlt hS0;obtain⟨⟨c0,c1,c2⟩,hlt⟩:=hS1;go_wp2_with fail
 go_quiet (fail)
 obtain⟨W2,hW2⟩:∃W2,w2.drewN nq=W2:=⟨_,rfl⟩
 have hG5:Gr w W2:=by rw[←hW2];exact hG2.drewN _
 have k0:W2.cell? ⟨w1.heap.size,0,none⟩=some (.string bg):=by rw[←hW2];exact c0
 have k1:W2.cell? ⟨w1.heap.size,1,none⟩=some (.int .i64 bb):=by rw[←hW2];exact c1
 have k2:W2.cell? ⟨w1.heap.size,2,none⟩=some (.string ds):=by rw[←hW2];exact c2
 have kl:w1.heap.size<W2.heap.size:=by rw[←hW2];exact hlt
 rw[hW2];clear c0 c1 c2 hlt hG2 hW2;refine Z213 ?_;intro c0 c1 c2 hlt;clear k0 k1 k2 kl;go_wp2_with fail;have hS2:radC3 bg bb ds w1.heap.size W2.drew:=⟨⟨c0,c1,c2⟩,hlt⟩
 refine Z25 ?_;intro w3 g3 hS3;refine Z16 ?_;cases r with
 | false =>
  refine Z22 ?_;refine Z12 ?_;have hG3:Gr w w3:=hG5.drew.trans g3;exact J96
 | true =>
  by_cases h1:1<D.size
  · have e1:decide ((1:Int)<(D.size:Int))=true:=by simp;omega
    have H1:=Lib.hid h1;have e0:0<D.size:=by omega
    have e2:(0:Int)<(D.size:Int):=by omega
    cases hz:((D[0]'e0).toNat==48) with
    | true =>
     exact J95
    | false =>
     obtain⟨z1,z2⟩:=beqs _ 48 _ hz;have HIF:Hid (¬(1<D.size∧(bs D)[0]?=some 48)):=Lib.hid (by
      rintro⟨_,h3⟩;have h2:=idx_bs D 0 e0;simp only[List.drop_zero]at h2;rw[h2]at h3;simp only[List.getElem?_cons_zero,Option.some.injEq]at h3;rw[h3]at hz;simp at hz)
     clear hz;refine Z5 ?_;intro w4 g4 hS4;refine Z77 ?_;exact J70
  have e1:decide ((1:Int)<(D.size:Int))=false:=by simp;omega
  have HIF:Hid (¬(1<D.size∧(bs D)[0]?=some 48)):=Lib.hid (fun h3=>h1 h3.1);refine Z5 ?_;intro w4 g4 hS4;refine Z94 ?_;exact J70):P:=h

theorem J151 (h:P:=by
 clear hov hacc ha;by_cases h48:48≤c.toNat∧c.toNat≤57
 · exact J122
 rw[if_neg h48]at hdv;by_cases h97:97≤c.toNat∧c.toNat≤122
 · have hlow:=low_lo c h97;rw[if_pos h97]at hdv;obtain⟨h1,h2⟩:=h97;clear h48;refine Z180 ?_;intro e1;rw[e1]at iov;try rw[e1]at hR
   have hdi:(c.toNat:Int)-87<16:=by omega
   clear hdv hdB e1;exact J80
 rw[if_neg h97]at hdv;by_cases h65:65≤c.toNat∧c.toNat≤90
 · have hlow:=low_up c h65;rw[if_pos h65]at hdv;obtain⟨h1,h2⟩:=h65;clear h48 h97;refine Z179 ?_;intro e1;rw[e1]at iov;try rw[e1]at hR
   have hdi:(c.toNat:Int)-55<16:=by omega
   clear hdv hdB e1;exact J80
 exact J20):P:=h

theorem J152 (h:P:=by
 refine Z39 ?_;intro hG6 hW6 ep he HF;clear g5 g6 hG4;go_wp2_with (first|(go_at_call 145;refine (err_is_none _ _ _).mono ?_;rintro e w7 ⟨rfl,g7⟩)|(go_at_call 146;refine (HF.out _ (hW6.gr Gr.auto)).mono ?_;rintro e w8 ⟨rfl,k8,os8,rfl⟩));exact bodyPost_ret (v := .tuple #[.string ⟨(Lib.itoa v).toArray⟩,.int .i64 0]) (by simp[results,Tryz.results128,go_sem]) rfl ⟨post_ok (HXt.out (by simp) HIF.out),(hG6.trans g7).trans (grow_gr _ _ _)⟩):P:=h

theorem J153 (h:P:=by
 refine Reg.on 5 ?_;skip;refine Z227 ?_;refine Z48 ?_;refine Z86 ?_;refine Z211 ?_;refine Z2 ?_;refine Reg.ty 10 ?_;refine Reg.on 11 ?_;refine Z292 ?_;go_wp2_with fail;refine Z21 ?_;intro hl0 hdn e1;refine⟨_,_,rfl,hes,?_,?_,by rw[e1];omega,by rw[e1];omega,hdn.2.2⟩
 · rw[e1];rw[e1]at hdn;exact hdn.1
 rw[e1];rw[e1]at hdn;exact hdn.2.1):P:=h

theorem J154 (h:P:=by
 refine Z158 ?_;intro hG6;clear g5 g6 hG4;go_wp2_with (go_at_call 145;refine (is_range N ep _ hN).mono ?_;rintro e w7 ⟨rfl,rfl⟩);exact bodyPost_ret (v := .tuple #[.string ⟨#[]⟩,.int .i64 8]) (by simp[results,Tryz.results128,go_sem]) rfl ⟨post_bad (HXt.out (by simp) HIF.out),hG6⟩):P:=h

theorem J155 (h:P:=by
 clear h1 h34;go_enter Tryz.func68,Tryz.ntmps68;go_wp2_with fail;refine Z145 ?_;refine Z48 ?_;rw[HC.out];go_wp2_with fail;refine (tv_text E hE _ R B base s root nv L own HR1.out HG1.out hs n d n rfl hn X HX.out HN.out).mono ?_;exact J74):P:=h

theorem J156 (h:P:=by
 have htf:=HTF2.out;cases hP:Pl.pairS E V (bs s) T m2 d (L2.map (·.nd)) with
 | non=>rw[hP]at htf;exact absurd htf.symm HYN.out
 | bad c p =>
  exact J87
 | ok r =>
  obtain⟨n2,st2⟩:=r;rw[hP]at htf;exact J71):P:=h

theorem J157 (h:P:=by
 refine Z26 ?_;intro v hv i48 i95 hno hv0 hv1;clear h48 h97 h65 h95;go_wp2_with (refine (lower_at _ _ hv _).mono ?_;rintro e w' ⟨rfl,rfl⟩)
 all_goals go_ret2
 all_goals exact⟨by rw[hR.out];rfl,rfl⟩):P:=h

theorem J158 (h:P:=by
 clear ho hg ha hz;have hS4:=putS_of HR4.out NBT4.out HC.out;refine⟨fun _ _=>hS4,?_⟩;refine Reg.pt ?_;refine Reg.on 16 ?_;skip;refine Z3 ?_;intro gS capS V5 HR5 NBT5 NBU5 hS5;skip;exact J72):P:=h

theorem J159 (h:P:=by
 have hS2:=keyS_of NBC2.out;refine⟨by first|exact hS2|exact fun _=>hS2,?_⟩;refine Reg.pt ?_;refine Reg.on 4 ?_;skip;refine Z61 ?_;intro gK capK V3 HR3 NBC3 NBF3 NBS3 hS3;skip;exact J73):P:=h

theorem J160 (h:P:=by
 go_wp2_with fail;simp +zetaDelta only [Exit.inBlock,Exit.noGoto,Exit.then];exact bodyPost_ret (v := .int .i64 (-1)) (by simp[results,Tryz.results125,go_sem]) rfl ⟨rfl,(Gr.refl wr).drewN _⟩):P:=h

theorem J161 (h:P:=by
 clear g3 g4;go_wp2_with fail;exact bodyPost_ret (v := .tuple #[.string ⟨#[]⟩,.int .i64 3]) (by simp[results,Tryz.results128,go_sem]) rfl ⟨post_bad (HXz.out ⟨H1.out,HZ.out⟩),hG4⟩):P:=h

theorem J162 (h:P:=by
 go_wp2_with fail;refine (HB1.out _).mono ?_;rintro e w4 ⟨rfl,g4⟩;have hb4:=(g4.block hz).trans hb3;have hG4:=hG3.trans g4;clear g4 hb3 hG3 p0 p1 p2 p3 p4 pf hz;exact J75):P:=h

theorem J163 (h:P:=by
 go_wp2_with (refine (lower_at _ _ hlow _).mono ?_;rintro e w' ⟨rfl,rfl⟩);exact J21):P:=h

theorem J164 (h:P:=by
 split at hk
 · rename_i e;exact fi k (H.fk k e)
 split at hk
 · rename_i e;exact fi k (H.fs k e)
 split at hk
 · rename_i e;exact fi k (H.fu k e)
 exact .inl hk):P:=h

theorem J165 (h:P:=by
 clear ho hg ha hz;have hS3:=HIS.out V3 HR3.out.st;refine⟨fun _ _=>hS3,?_⟩;refine Reg.pt ?_;clear NBN;have NBN:=NBN';exact J92):P:=h

theorem J166 (h:P:=by
 subst hd;go_wp2_with (refine (lower_at _ _ hlow _).mono ?_;rintro e w' ⟨rfl,rfl⟩)
 go_ret2
 exact⟨by rw[hR.out];rfl,rfl⟩):P:=h

theorem J167 (h:P:=by
 go_wp2_with fail;refine (HB1.out _).mono ?_;refine Z285 ?_;intro w4 g4 hb4 hG4;clear g4 hb0 hG0 p0 p1 p2 p3 p4 pf hz;exact J75):P:=h

theorem J168 (h:P:=by
 have hdi:(c.toNat:Int)-48<16:=by omega
 clear hdv hdB e1
 go_wp2
 go_ret2
 exact⟨by rw[hR.out];rfl,rfl⟩):P:=h

theorem J169 (h:P:=by
 go_wp2_with fail;refine Z255 ?_;intro w6 HG6;exact J113):P:=h

theorem J170 (h:P:=by
 go_enter Tryz.func152,Tryz.ntmps152;go_wp2_with fail
 try rw[hr]
 refine (HR.out _).mono ?_;exact J119):P:=h

theorem J171 (h:P:=by
 go_enter Tryz.func152,Tryz.ntmps152;go_wp2_with fail;refine (HD.out _).mono ?_;exact J119):P:=h

theorem J172 (h:P:=by
 rcases hj with rfl|rfl
 · refine Z8 ?_;intro gS capS V4 HR4 NBT4 hS4;skip;refine Z13 ?_;intro V5 HR5 NBT5 NBU5 hS5;skip;exact J72
 refine Z11 ?_;intro V4 HR4 NBT4 NBS4 NBU4 hS4;skip;refine Z3 ?_;intro gS capS V5 HR5 NBT5 NBU5 hS5;skip;exact J72):P:=h

theorem J173 (h:P:=by
 intro V4 HR4 NBT4 NBU4 NBS4 hS4;skip;refine Z3 ?_;intro gS capS V5 HR5 NBT5 NBU5 hS5;skip;exact J72):P:=h
end Go.Proofs.YtfogfaagjpebcaaGreatDoor
