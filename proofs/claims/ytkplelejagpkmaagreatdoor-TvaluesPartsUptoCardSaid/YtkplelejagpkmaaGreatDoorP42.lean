/-
 The walks and plain laws that the claim rests on, part 42.
-/
import Derived.Test.YtkplelejagpkmaaGreatDoorP02
import Derived.Test.YtkplelejagpkmaaGreatDoorP05
import Derived.Test.YtkplelejagpkmaaGreatDoorP11
import Derived.Test.YtkplelejagpkmaaGreatDoorP13
import Derived.Test.YtkplelejagpkmaaGreatDoorP40
import Derived.WalkMore
set_option maxHeartbeats 16000000
set_option linter.all false
set_option linter.unusedVariables false
set_option linter.unusedSimpArgs false
namespace Go.Proofs.YtkplelejagpkmaaGreatDoor
open Go.RowKit Go.Joins
def keyWords (acc:List Pl.KW):List Pl.Bs:=acc.map (·.1)
def keySpans (acc:List Pl.KW):List (Nat × Nat):=acc.map (·.2)
structure KS (w W:World) (kv sv:Value) (acc:List Pl.KW):Prop where
 rows:Rows3 w W w.heap.size (fun _=>False) kv sv (.slice none 0 0) acc.length acc.length 0 (keysV (keyWords acc)) (spotsV (keySpans acc)) []
 k:NewB W w.heap.size #[kv,sv] 57 kv sv (.slice none 0 0)
 f:NewB W (w.heap.size+1) #[.int .i64 0,.int .i64 0] 31 kv sv (.slice none 0 0)
theorem KS.gr {w W W':World} {kv sv:Value} {acc:List Pl.KW} (h:KS w W kv sv acc) (g:Gr W W'):KS w W' kv sv acc:=⟨h.rows.gr g,h.k.gr g,h.f.gr g⟩
theorem KS.cells {w W:World} {kv sv:Value} {acc:List Pl.KW} (h:KS w W kv sv acc) :
    W.cell? ⟨w.heap.size,0,none⟩=some kv∧W.cell? ⟨w.heap.size,1,none⟩=some sv∧W.frozen? ⟨w.heap.size,0,none⟩=false∧W.frozen? ⟨w.heap.size,1,none⟩=false ∧
    W.cell? ⟨w.heap.size+1,0,none⟩=some (.int .i64 0)∧W.cell? ⟨w.heap.size+1,1,none⟩=some (.int .i64 0)∧W.frozen? ⟨w.heap.size+1,0,none⟩=false∧W.frozen? ⟨w.heap.size+1,1,none⟩=false :=
 ⟨(h.k.cell (i:=0) rfl).1,(h.k.cell (i:=1) rfl).1,(h.k.cell (i:=0) rfl).2,(h.k.cell (i:=1) rfl).2,(h.f.cell (i:=0) rfl).1,(h.f.cell (i:=1) rfl).1,(h.f.cell (i:=0) rfl).2,(h.f.cell (i:=1) rfl).2⟩
theorem KS.below {w W:World} {kv sv:Value} {acc:List Pl.KW} (h:KS w W kv sv acc):Gr w W:=h.rows.st.below (Gr.refl w) (fun _ hF=>hF.elim)
theorem KS.lt {w W:World} {kv sv:Value} {acc:List Pl.KW} (h:KS w W kv sv acc):w.heap.size+1<W.heap.size:=h.f.lt
def KeyS (w:World) (kv sv:Value) (V:World):Prop:=V.cell? ⟨w.heap.size,0,none⟩=some kv∧V.cell? ⟨w.heap.size,1,none⟩=some sv
theorem keyS_of {w V:World} {a b kv sv uv:Value} (h:NewB V w.heap.size #[a,b] 57 kv sv uv):KeyS w a b V:=⟨(h.cell (i:=0) rfl).1,(h.cell (i:=1) rfl).1⟩
theorem ks_put {w V:World} {kv sv:Value} {a b:Value} {t:Pl.Bs} {n e:Nat} {acc:List Pl.KW}
    (H:Rows3 w V w.heap.size (fun _=>False) kv sv (.slice none 0 0) (acc.length+1) (acc.length+1) 0 (keysV (keyWords acc)++[strV t]) (spotsV (keySpans acc)++[.int .i64 n,.int .i64 e]) [])
    (C:NewB V w.heap.size #[a,b] 57 kv sv (.slice none 0 0)) (Ff:NewB V (w.heap.size+1) #[.int .i64 0,.int .i64 0] 31 kv sv (.slice none 0 0)) :
    KS w ((V.setCell ⟨w.heap.size,0,none⟩ kv).setCell ⟨w.heap.size,1,none⟩ sv) kv sv (acc++[(t,n,e)]):=by
 refine⟨?_,?_,?_⟩
 · have h1:=(H.setCell (i:=0) (Nat.le_refl _) C.k C.s C.u kv).setCell (i:=1) (Nat.le_refl _) C.k C.s C.u sv;have e1:(acc++[(t,n,e)]).length=acc.length+1:=by simp
   have e2:keysV (keyWords (acc++[(t,n,e)]))=keysV (keyWords acc)++[strV t]:=by simp[keysV,keyWords]
   have e3:spotsV (keySpans (acc++[(t,n,e)]))=spotsV (keySpans acc)++[.int .i64 n,.int .i64 e]:=by simp[spotsV,keySpans]
   rw[e1,e2,e3];exact h1
 · have:=(C.set (i:=0) kv).set (i:=1) sv
   simpa using this
 exact (Ff.setOther (by simp) _).setOther (by simp) _
def KeyS2 (w:World) (V:World):Prop:=V.cell? ⟨w.heap.size+1,0,none⟩=some (.int .i64 0)∧V.cell? ⟨w.heap.size+1,1,none⟩=some (.int .i64 0)
theorem keyS2_set {w V:World} {a b:Value} (h:KeyS2 w V):KeyS2 w ((V.setCell ⟨w.heap.size,0,none⟩ a).setCell ⟨w.heap.size,1,none⟩ b) :=
 ⟨by rw[World.cell?_setCell_other _ _ _ _ (by simp),World.cell?_setCell_other _ _ _ _ (by simp)];exact h.1,by rw[World.cell?_setCell_other _ _ _ _ (by simp),World.cell?_setCell_other _ _ _ _ (by simp)];exact h.2⟩
theorem ks_done {w V:World} {kv sv:Value} {acc:List Pl.KW} (h:KS w V kv sv acc) :
    RowC ((((V.setCell ⟨w.heap.size,0,none⟩ (clipV kv)).setCell ⟨w.heap.size,1,none⟩ (clipV sv)).setCell ⟨w.heap.size+1,0,none⟩ (.int .i64 0)).setCell ⟨w.heap.size+1,1,none⟩ (.int .i64 0)) w.heap.size 9 1 (clipV kv) acc.length (keysV (keyWords acc)) ∧
    RowC ((((V.setCell ⟨w.heap.size,0,none⟩ (clipV kv)).setCell ⟨w.heap.size,1,none⟩ (clipV sv)).setCell ⟨w.heap.size+1,0,none⟩ (.int .i64 0)).setCell ⟨w.heap.size+1,1,none⟩ (.int .i64 0)) w.heap.size 38 2 (clipV sv) acc.length (spotsV (keySpans acc)) ∧
    Gr w ((((V.setCell ⟨w.heap.size,0,none⟩ (clipV kv)).setCell ⟨w.heap.size,1,none⟩ (clipV sv)).setCell ⟨w.heap.size+1,0,none⟩ (.int .i64 0)).setCell ⟨w.heap.size+1,1,none⟩ (.int .i64 0)):=by
 have h1:=(((h.rows.setCell (i:=0) (Nat.le_refl _) h.k.k h.k.s h.k.u (clipV kv)).setCell (i:=1) (Nat.le_refl _) h.k.k h.k.s h.k.u (clipV sv)).setCell (i:=0) (Nat.le_succ _) h.f.k h.f.s h.f.u (.int .i64 0)).setCell (i:=1) (Nat.le_succ _) h.f.k h.f.s h.f.u (.int .i64 0);exact⟨rowC_clip h1.k,rowC_clip h1.s,⟨h1.st.os,h1.st.tape,h1.st.output,h1.st.size,fun k hk=>h1.st.block k hk (fun e=>e)⟩⟩
def KeyPost (s:ByteArray) (w:World) (x:Pl.Res (List Pl.KW × Nat)) (e:Ending) (w':World):Prop :=
 match x with
 | .non=>True
 | .ok (ws,m)=>∃kv sv,e = .returned (.tuple #[.agg #[kv,sv],.int .i64 m,f0])∧m≤s.size∧RowC w' w.heap.size 9 1 kv ws.length (keysV (keyWords ws))∧RowC w' w.heap.size 38 2 sv ws.length (spotsV (keySpans ws))∧ws.length≤s.size+2∧0<ws.length∧Gr w w'
 | .bad c p=>e = .returned (.tuple #[.agg #[.slice none 0 0,.slice none 0 0],.int .i64 0,fv c p])∧c≠0∧Gr w w'
theorem gr_of3 {w W:World} {base:Nat} {kv sv uv:Value} {nk ns nu:Nat} {xk xs xu:List Value} (h:Rows3 w W base (fun _=>False) kv sv uv nk ns nu xk xs xu):Gr w W :=
 ⟨h.st.os,h.st.tape,h.st.output,h.st.size,fun k hk=>h.st.block k hk (fun e=>e)⟩
set_option maxRecDepth 100000 in
theorem tk_Read (T:Nat→UInt8 × UInt8) (E:Pl.Env) (hE:EnvStr T E) (s:ByteArray) (i:Int) (n0:Nat) (hi:i=n0) (hn0:n0≤s.size) (hs:s.size≤20000000) (X:Pl.Res (List Pl.KW × Nat)) (hX:Pl.keyS E (bs s) n0=X) (hne:X ≠ .non) (w:World) (hQ:QW T w) :
    Calls Tryz.prog 80 #[.string s,.int .i64 i] w (KeyPost s w X):=by
 have HQW:=Lib.hid hQ;clear hQ;subst hi;unfold Pl.keyS at hX;rw[bs_length]at hX;have HX:=Lib.hid hX;obtain⟨iK,k1,k2,k3,k4⟩:=info_parts infoStr;obtain⟨iS,s1,s2,s3,s4⟩:=info_parts infoSpan;have HIK:=Lib.hid (And.intro k1 (And.intro k2 (And.intro k3 k4)));have HIS:=Lib.hid (And.intro s1 (And.intro s2 (And.intro s3 s4)));have hd0:decide ((n0:Int)<0)=false:=by simp
 have hd1:decide (s.size<n0)=false:=by simp;omega
 have HK0:Hid (KS w ((w.alloc (.cells #[.slice none 0 0,.slice none 0 0] 57)).alloc (.cells #[.int .i64 0,.int .i64 0] 31)) (.slice none 0 0) (.slice none 0 0) []):=by
  have hnb:∀(b:Nat),(Value.slice none 0 0).ownBlock≠some b:=fun b e=>by simp[Value.ownBlock]at e
  refine⟨⟨((St.refl _ w).alloc _).alloc _ |>.to (fun _ e=>e.elim),nilRow _ _ _ _,nilRow _ _ _ _,nilRow _ _ _ _,fun b e=>absurd e (hnb b),fun b e=>absurd e (hnb b),fun b e=>absurd e (hnb b),fun b e=>absurd e (hnb b),fun b e=>absurd e (hnb b),fun b e=>absurd e (hnb b)⟩,⟨?_,hnb _,hnb _,hnb _⟩,⟨?_,hnb _,hnb _,hnb _⟩⟩
  · exact (((Gr.refl _).alloc _).block (by simp)).trans (heap_alloc_new w _)
  have:=heap_alloc_new (w.alloc (.cells #[.slice none 0 0,.slice none 0 0] 57)) (.cells #[.int .i64 0,.int .i64 0] 31)
  rwa [World.size_alloc]at this
 clear hX k1 k2 k3 k4 s1 s2 s3 s4;go_enter Tryz.func80,Tryz.ntmps80;go_wp2_with fail
 go_step3
 go_wp2_with fail
 go_step3
 go_wp2_with fail
 go_loopw [1,5] (fun v1 v5 wr=>∃(n fuel:Nat) (m5:Int) (acc:List Pl.KW) (kv sv:Value),v1 = .int .i64 n∧v5 = .int .i64 m5∧n≤s.size∧Pl.keyF E (bs s) fuel n acc=X∧KS w wr kv sv acc∧acc.length+fuel=s.size+2) (fun v1 _ _=>s.size-(intOf v1).toNat)
 case atStart=>exact⟨n0,s.size+2,0,[],_,_,rfl,rfl,hn0,HX.out,HK0.out,by simp⟩
 case round =>
  obtain⟨n,fuel,m5,acc,kv,sv,rfl,rfl,hn,hx,hks,hlen⟩:=hrel;cases fuel with
  | zero=>exact absurd hx.symm hne
  | succ fuel =>
   unfold Pl.keyF at hx;obtain⟨c0,c1,z0,z1,f0',f1',y0,y1⟩:=hks.cells;have hklt:=hks.lt;have HK:=Lib.hid hks;clear hks;cases hw:Pl.word E (bs s) n with
   | non=>rw[hw]at hx;exact absurd hx.symm hne
   | bad c p =>
    rw[hw]at hx;dsimp only at hx;have HXX:=Lib.hid hx;have HW:=Lib.hid hw;clear hx hw;go_wp2_with fail;refine (tk_word T E hE s _ n rfl hn hs _ HW.out (by simp) _ (by first|exact HQW.out.gr HK.out.below|exact HQW.out.gr (HK.out.below.drewN _))).mono ?_;rintro e w1 ⟨⟨m,rfl⟩,hc,g1⟩;obtain⟨hc1,hf1,hz1⟩:=g1.use;have p0:w1.cell? ⟨w.heap.size,0,none⟩=some kv:=(hc1 _ _ (by omega)).trans c0;have p1:w1.cell? ⟨w.heap.size,1,none⟩=some sv:=(hc1 _ _ (by omega)).trans c1;have p2:w1.frozen? ⟨w.heap.size,0,none⟩=false:=(hf1 _ _ (by omega)).trans z0;have p3:w1.frozen? ⟨w.heap.size,1,none⟩=false:=(hf1 _ _ (by omega)).trans z1;have p4:w1.cell? ⟨w.heap.size+1,0,none⟩=some (.int .i64 0):=(hc1 _ _ (by omega)).trans f0';have p5:w1.cell? ⟨w.heap.size+1,1,none⟩=some (.int .i64 0):=(hc1 _ _ (by omega)).trans f1';have p6:w1.frozen? ⟨w.heap.size+1,0,none⟩=false:=(hf1 _ _ (by omega)).trans y0;have p7:w1.frozen? ⟨w.heap.size+1,1,none⟩=false:=(hf1 _ _ (by omega)).trans y1;have hl0:w.heap.size<w1.heap.size:=by omega
    have hl1:w.heap.size+1<w1.heap.size:=by omega
    have hgw:Gr w wr:=gr_of3 HK.out.rows;clear hc1 hf1 c0 c1 z0 z1 f0' f1' y0 y1;have hcc:¬(c:Int)=0:=by omega
    go_wp2_with fail
    go_region
    all_goals go_wp2_with fail
    all_goals
     rw[Exit.noGoto_ret];refine bodyPost_ret (v := .tuple #[.agg #[.slice none 0 0,.slice none 0 0],.int .i64 0,fv c p]) (by simp[results,Tryz.results80,go_sem,p0,p1,p2,p3,p4,p5,p6,p7,hl0,hl1]) rfl ?_;rw[←HXX.out];exact⟨rfl,hc,Gr.auto⟩
   | ok r =>
    obtain⟨t,e⟩:=r;rw[hw]at hx;dsimp only at hx;have hle:=word_le E _ _ _ _ hw;have HXX:=Lib.hid hx;have HW:=Lib.hid hw;clear hx hw;go_wp2_with fail;refine (tk_word T E hE s _ n rfl hn hs _ HW.out (by simp) _ (by first|exact HQW.out.gr HK.out.below|exact HQW.out.gr (HK.out.below.drewN _))).mono ?_;rintro e' w1 ⟨rfl,hes,g1⟩;have hk1:=HK.out.gr g1;have hk2:=hk1.gr ((Gr.refl w1).alloc (.cells #[.int .i64 0,.int .i64 0] 31));obtain⟨p0,p1,p2,p3,p4,p5,p6,p7⟩:=hk1.cells;have hklt1:=hk1.lt;have HK1:=Lib.hid hk1;have HK2:=Lib.hid hk2;clear hk1 hk2 c0 c1 z0 z1 f0' f1' y0 y1;go_wp2_with fail;refine Reg.begin' (W:=fun i=>i != 14 && i != 16) (S:=KeyS w kv sv) (by kernel_rfl) ?_;obtain⟨V0,hV⟩:∃V0,(w1.alloc (.cells #[.int .i64 0,.int .i64 0] 31)).drew=V0:=⟨_,rfl⟩
    have HK3:=HK2.out.gr ((Gr.refl _).drew);rw[hV]at HK3 ⊢;clear hV p0 p1 p2 p3 p4 p5 p6 p7;have HR0:=Lib.hid HK3.rows;have NBC0:=Lib.hid HK3.k;have NBF0:=Lib.hid HK3.f;clear HK3;have hS0:=keyS_of NBC0.out;refine Reg.ty 0 ?_;refine Reg.ty 2 ?_;refine Reg.ty 5 ?_;refine Reg.ty 7 ?_;refine Reg.ty 8 ?_;refine Reg.ty 9 ?_;refine Reg.ty 12 ?_;refine Reg.tl 1 hS0 ?_ (hy:=by intro w hSw;obtain⟨q1,q2⟩:=hSw;go_simp;try with_reducible rfl);refine Reg.tl 6 hS0 ?_ (hy:=by intro w hSw;obtain⟨q1,q2⟩:=hSw;go_simp;try with_reducible rfl);refine Reg.all (rs:=[3,10]) (by kernel_rfl) (by simp) ?_;intro j hj;simp only[List.mem_cons,List.not_mem_nil,or_false]at hj;rcases hj with rfl|rfl
    · refine Reg.one (i:=3) rfl (by rfl) ?_;go_simp;have HR':=HR0.out.alloc (.cells #[strV t] 9);have NBK':=HR0.out.newB #[strV t] 9;have NBC':=NBC0.out.alloc (.cells #[strV t] 9);have NBF':=NBF0.out.alloc (.cells #[strV t] 9);obtain⟨V1,hV⟩:∃V',V0.alloc (.cells #[strV t] 9)=V':=⟨_,rfl⟩
      rw[hV]at HR' NBK' NBC' NBF' ⊢;clear hV;have HR1:=Lib.hid HR';have NBC1:=Lib.hid NBC';have NBF1:=Lib.hid NBF';have NBK1:=Lib.hid NBK';clear HR' NBK' NBC' NBF';have hS1:=keyS_of NBC1.out;refine⟨by first|exact hS1|exact fun _=>hS1,?_⟩;refine Reg.pt ?_;refine Reg.all (rs:=[4,10]) (by kernel_rfl) (by simp) ?_;intro j hj;simp only[List.mem_cons,List.not_mem_nil,or_false]at hj;rcases hj with rfl|rfl
      · refine Reg.one (i:=4) rfl (by rfl) ?_;refine wp_append_lies _ (.tmp 33) (.tmp 35) 22 (by rfl) w.heap.size 9 iK _ 1 16 Tryz.underlying22 HIK.out.1 HIK.out.2.1 HIK.out.2.2.1 HIK.out.2.2.2 (by rfl) (by decide) kv acc.length _ (by rfl) HR1.out.k _ 1 1 [strV t] (by rfl) (by rfl) (World.news_of_block NBK1.out.blk) (by simp[Value.oneCell']) (by decide) (by unfold maxLen;omega) (by omega) HR1.out.size _ rfl ?_;intro gK capK V2 ho hg ha hz;have HR2:=Lib.hid (HR1.out.appK ho hg ha);have NBC2:=Lib.hid (NBC1.out.appK (n:=acc.length+1) (cap:=capK) hg ha);have NBF2:=Lib.hid (NBF1.out.appK (n:=acc.length+1) (cap:=capK) hg ha);clear ho hg ha hz;have hS2:=keyS_of NBC2.out;refine⟨fun _ _=>hS2,?_⟩;refine Reg.pt ?_;refine Reg.ty 13 ?_;refine Reg.on 10 ?_;skip;go_simp;have HR':=HR2.out.alloc (.cells #[.int .i64 n,.int .i64 e] 38);have NBS':=HR2.out.newB #[.int .i64 n,.int .i64 e] 38;have NBC':=NBC2.out.alloc (.cells #[.int .i64 n,.int .i64 e] 38);have NBF':=NBF2.out.alloc (.cells #[.int .i64 n,.int .i64 e] 38);obtain⟨V3,hV⟩:∃V',V2.alloc (.cells #[.int .i64 n,.int .i64 e] 38)=V':=⟨_,rfl⟩
        rw[hV]at HR' NBS' NBC' NBF' ⊢;clear hV;have HR3:=Lib.hid HR';have NBC3:=Lib.hid NBC';have NBF3:=Lib.hid NBF';have NBS3:=Lib.hid NBS';clear HR' NBS' NBC' NBF';have hS3:=keyS_of NBC3.out;refine⟨by first|exact hS3|exact fun _=>hS3,?_⟩;refine Reg.pt ?_;refine Reg.on 11 ?_;skip;refine wp_append_lies _ (.tmp 38) (.tmp 42) 36 (by rfl) w.heap.size 38 iS _ 2 16 Tryz.underlying36 HIS.out.1 HIS.out.2.1 HIS.out.2.2.1 HIS.out.2.2.2 (by rfl) (by decide) sv acc.length _ (by rfl) HR3.out.s _ 1 1 [.int .i64 n,.int .i64 e] (by rfl) (by rfl) (World.news_of_block NBS3.out.blk) (by simp[Value.oneCell']) (by decide) (by unfold maxLen;omega) (by omega) HR3.out.size _ rfl ?_;intro gS capS V4 ho hg ha hz;have HR4:=Lib.hid (HR3.out.appS ho hg ha);have NBC4:=Lib.hid (NBC3.out.appS (n:=acc.length+1) (cap:=capS) hg ha);have NBF4:=Lib.hid (NBF3.out.appS (n:=acc.length+1) (cap:=capS) hg ha);clear ho hg ha hz;have hS4:=keyS_of NBC4.out;refine⟨fun _ _=>hS4,?_⟩;refine Reg.pt ?_;obtain⟨hcK0,hfK0⟩:=NBC4.out.cell (i:=0) rfl;obtain⟨hcK1,hfK1⟩:=NBC4.out.cell (i:=1) rfl;refine Reg.on 14 ?_;go_simp
        try simp only[Act.put,List.setIfInBounds_toArray,List.set_cons_zero,List.set_cons_succ]
        refine Reg.ty 15 ?_;refine Reg.on 16 ?_;go_simp
        try simp only[Act.put,List.setIfInBounds_toArray,List.set_cons_zero,List.set_cons_succ]
        refine Reg.ty 17 ?_;refine Reg.done (by kernel_rfl) ?_ _;have HKS:=Lib.hid (ks_put HR4.out NBC4.out NBF4.out);obtain⟨VE,hVE⟩:∃VE,(V4.setCell ⟨w.heap.size,0,none⟩ (.slice (some ⟨gK,0,none⟩) (acc.length+1) capK)).setCell ⟨w.heap.size,1,none⟩ (.slice (some ⟨gS,0,none⟩) (acc.length+1) capS)=VE:=⟨_,rfl⟩
        have HKS':=HKS.out;clear HKS hcK0 hfK0 hcK1 hfK1;rw[hVE]at HKS' ⊢;clear hVE;have HK:=Lib.hid HKS';clear HKS';go_wp2_with fail;refine (tk_Blanks s _ e rfl hes (by omega) _).mono ?_;rintro e3 w3 ⟨rfl,g3⟩;have hab:=Pl.blanksAt_le (bs s) e (by rw[bs_length];exact hes);rw[bs_length]at hab;have hks3:=HK.out.gr g3;obtain⟨p0,p1,p2,p3,p4,p5,p6,p7⟩:=hks3.cells;have hklt3:=hks3.lt;have HK3:=Lib.hid hks3;have hx9:=HXX.out
        try dsimp only at hx9
        obtain⟨a,ha⟩:∃a,Pl.blanksAt (bs s) e=a:=⟨_,rfl⟩
        rw[ha]at hab hx9 ⊢;have HA:=Lib.hid ha;clear ha hks3;by_cases hdot:Pl.byteAt (bs s) a=46
        · rw[if_pos hdot]at hx9;have hlt:a<s.size:=by
           by_cases h:a<s.size
           · exact h
           rw[byteAt_ge s a h]at hdot;cases hdot
          rw[byteAt_lt s a hlt]at hdot;have hq1:((a:Int)==(s.size:Int))=false:=by simp;omega
          have hq2:((s[a].toNat:Int) != 46)=false:=by simp;omega
          have hb2:=Pl.blanksAt_le (bs s) (a+1) (by rw[bs_length];omega);rw[bs_length]at hb2;have hk1:(0:Int)≤(a:Int):=by omega
          have hk2:(a:Int)<(s.size:Int):=by omega
          have HX9:=Lib.hid hx9;clear hx9 hdot;go_wp2_with (go_at_call 61;refine (tk_Blanks s _ (a+1) (by omega) (by omega) (by omega) _).mono ?_;rintro e5 w5 ⟨rfl,g5⟩)
          go_roundw
          case rel =>
           have hb3:Pl.blanksAt (bs s) (a+1)≤s.size:=hb2.2
           first
            | exact⟨Pl.blanksAt (bs s) (a+1),fuel,e,_,_,_,rfl,rfl,hb3,HX9.out,HK3.out.gr g5,by simp;omega⟩
            | ((repeat apply Exists.intro);exact⟨⟨Pl.blanksAt (bs s) (a+1),fuel,e,_,_,_,rfl,rfl,hb3,HX9.out,HK3.out.gr g5,by simp;omega⟩,rfl⟩)
          case measure =>
           have hb3:a+1≤Pl.blanksAt (bs s) (a+1):=hb2.1;simp[intOf];omega
        rw[if_neg hdot]at hx9;have hqq:(((a:Int)==(s.size:Int))=true)∨(∃hlt:a<s.size,((a:Int)==(s.size:Int))=false∧((s[a].toNat:Int) != 46)=true):=by
         by_cases h:a<s.size
         · refine .inr ⟨h,by simp;omega,?_⟩;rw[byteAt_lt s a h]at hdot;simp;omega
         exact .inl (by simp;omega)
        have HX9:=Lib.hid hx9;have hk1:(0:Int)≤(a:Int):=by omega
        clear hx9 hdot;obtain⟨kq,hkq⟩:∃kq,kq=1:=⟨_,rfl⟩
        rcases hqq with hq1|⟨hlt,hq1,hq2⟩
        all_goals
         go_wp2_with fail;refine Reg.begin' (W:=fun i=>i != 11) (S:=KeyS2 w) (by kernel_rfl) ?_;obtain⟨VV,hVV⟩:∃VV,w3.drew=VV:=⟨_,rfl⟩
         have HK4:=HK3.out.gr ((Gr.refl w3).drew);rw[hVV]at HK4 ⊢;clear hVV p0 p1 p2 p3 p4 p5 p6 p7;obtain⟨p0,p1,p2,p3,p4,p5,p6,p7⟩:=HK4.cells;have hklt4:=HK4.lt;have hFK:=own_form HK4.rows.k;have hFS:=own_form HK4.rows.s;rw[show (acc++[(t,n,e)]).length=acc.length+1 from by simp]at hFK hFS;have HK5:=Lib.hid HK4;clear HK4;have hSS:KeyS2 w VV:=⟨p4,p5⟩
         have hcK:acc.length+1≤capK∧capK≤9223372036854775807:=by
          rcases hFK with⟨h,_⟩|⟨g,c,h,h1,h2⟩
          · cases h
          cases h;exact⟨h1,h2⟩
         have hcS:acc.length+1≤capS∧capS≤9223372036854775807:=by
          rcases hFS with⟨h,_⟩|⟨g,c,h,h1,h2⟩
          · cases h
          cases h;exact⟨h1,h2⟩
         clear hFK hFS;refine Reg.ty 0 ?_;refine Reg.ty 3 ?_;refine Reg.ty 7 ?_;refine Reg.tl 8 hSS ?_ (hy:=by intro w hSw;obtain⟨q1,q2⟩:=hSw;go_simp;try with_reducible rfl);refine Reg.all (rs:=[1,4]) (by kernel_rfl) (by simp) ?_;intro j hj;simp only[List.mem_cons,List.not_mem_nil,or_false]at hj;rcases hj with rfl|rfl
         · refine Reg.one (i:=1) rfl (by rfl) ?_;go_simp
           try simp only[Act.put,List.setIfInBounds_toArray,List.set_cons_zero,List.set_cons_succ]
           refine Reg.all (rs:=[2,4]) (by kernel_rfl) (by simp) ?_;intro j hj;simp only[List.mem_cons,List.not_mem_nil,or_false]at hj;rcases hj with rfl|rfl
           · refine Reg.one (i:=2) rfl (by rfl) ?_;go_simp;refine (clip_strs gK (acc.length+1) capK hcK.1 hcK.2 _).mono ?_;rintro ee ww ⟨rfl,rfl⟩;refine⟨by first|exact hSS|exact fun _=>hSS|exact fun _ h=>h,?_⟩;refine Reg.pt ?_;refine Reg.on 4 ?_;skip;go_simp
             try simp only[Act.put,List.setIfInBounds_toArray,List.set_cons_zero,List.set_cons_succ]
             refine Reg.on 5 ?_;skip;go_simp;refine (clip_spans gS (acc.length+1) capS hcS.1 hcS.2 _).mono ?_;rintro ee ww ⟨rfl,rfl⟩;refine⟨by first|exact hSS|exact fun _=>hSS|exact fun _ h=>h,?_⟩;refine Reg.pt ?_;refine Reg.ty 6 ?_;refine Reg.on 9 ?_;go_simp;refine⟨keyS2_set hSS,?_⟩
             try simp only[Act.put,List.setIfInBounds_toArray,List.set_cons_zero,List.set_cons_succ]
             refine Reg.ty 10 ?_;refine Reg.on 11 ?_;go_simp
             try simp only[Act.put,List.setIfInBounds_toArray,List.set_cons_zero,List.set_cons_succ]
             refine Reg.done (by kernel_rfl) ?_ _;go_wp2_with fail;rw[Exit.noGoto_ret];have hl0:w.heap.size<VV.heap.size:=by omega
             refine bodyPost_ret (v := .tuple #[.agg #[.slice (some ⟨gK,0,none⟩) (acc.length+1) (acc.length+1),.slice (some ⟨gS,0,none⟩) (acc.length+1) (acc.length+1)],.int .i64 e,f0]) (by simp[results,Tryz.results80,go_sem,p0,p1,p2,p3,p4,p5,p6,p7,hl0,hklt4]) rfl ?_;rw[←HX9.out];have hdn:=ks_done HK5.out;have e1:(acc++[(t,n,e)]).length=acc.length+1:=by simp
             refine⟨_,_,rfl,hes,?_,?_,by rw[e1];omega,by rw[e1];omega,hdn.2.2⟩
             · rw[e1];rw[e1]at hdn;exact hdn.1
             rw[e1];rw[e1]at hdn;exact hdn.2.1
           refine Reg.one (i:=4) rfl (by rfl) ?_;go_simp
           try simp only[Act.put,List.setIfInBounds_toArray,List.set_cons_zero,List.set_cons_succ]
           refine Reg.on 2 ?_;skip;go_simp;refine (clip_strs gK (acc.length+1) capK hcK.1 hcK.2 _).mono ?_;rintro ee ww ⟨rfl,rfl⟩;refine⟨by first|exact hSS|exact fun _=>hSS|exact fun _ h=>h,?_⟩;refine Reg.pt ?_;refine Reg.on 5 ?_;skip;go_simp;refine (clip_spans gS (acc.length+1) capS hcS.1 hcS.2 _).mono ?_;rintro ee ww ⟨rfl,rfl⟩;refine⟨by first|exact hSS|exact fun _=>hSS|exact fun _ h=>h,?_⟩;refine Reg.pt ?_;refine Reg.ty 6 ?_;refine Reg.on 9 ?_;go_simp;refine⟨keyS2_set hSS,?_⟩
           try simp only[Act.put,List.setIfInBounds_toArray,List.set_cons_zero,List.set_cons_succ]
           refine Reg.ty 10 ?_;refine Reg.on 11 ?_;go_simp
           try simp only[Act.put,List.setIfInBounds_toArray,List.set_cons_zero,List.set_cons_succ]
           refine Reg.done (by kernel_rfl) ?_ _;go_wp2_with fail;rw[Exit.noGoto_ret];have hl0:w.heap.size<VV.heap.size:=by omega
           refine bodyPost_ret (v := .tuple #[.agg #[.slice (some ⟨gK,0,none⟩) (acc.length+1) (acc.length+1),.slice (some ⟨gS,0,none⟩) (acc.length+1) (acc.length+1)],.int .i64 e,f0]) (by simp[results,Tryz.results80,go_sem,p0,p1,p2,p3,p4,p5,p6,p7,hl0,hklt4]) rfl ?_;rw[←HX9.out];have hdn:=ks_done HK5.out;have e1:(acc++[(t,n,e)]).length=acc.length+1:=by simp
           refine⟨_,_,rfl,hes,?_,?_,by rw[e1];omega,by rw[e1];omega,hdn.2.2⟩
           · rw[e1];rw[e1]at hdn;exact hdn.1
           rw[e1];rw[e1]at hdn;exact hdn.2.1
         refine Reg.one (i:=4) rfl (by rfl) ?_;go_simp
         try simp only[Act.put,List.setIfInBounds_toArray,List.set_cons_zero,List.set_cons_succ]
         refine Reg.on 1 ?_;skip;go_simp
         try simp only[Act.put,List.setIfInBounds_toArray,List.set_cons_zero,List.set_cons_succ]
         refine Reg.on 2 ?_;skip;go_simp;refine (clip_strs gK (acc.length+1) capK hcK.1 hcK.2 _).mono ?_;rintro ee ww ⟨rfl,rfl⟩;refine⟨by first|exact hSS|exact fun _=>hSS|exact fun _ h=>h,?_⟩;refine Reg.pt ?_;refine Reg.on 5 ?_;skip;go_simp;refine (clip_spans gS (acc.length+1) capS hcS.1 hcS.2 _).mono ?_;rintro ee ww ⟨rfl,rfl⟩;refine⟨by first|exact hSS|exact fun _=>hSS|exact fun _ h=>h,?_⟩;refine Reg.pt ?_;refine Reg.ty 6 ?_;refine Reg.on 9 ?_;go_simp;refine⟨keyS2_set hSS,?_⟩
         try simp only[Act.put,List.setIfInBounds_toArray,List.set_cons_zero,List.set_cons_succ]
         refine Reg.ty 10 ?_;refine Reg.on 11 ?_;go_simp
         try simp only[Act.put,List.setIfInBounds_toArray,List.set_cons_zero,List.set_cons_succ]
         refine Reg.done (by kernel_rfl) ?_ _;go_wp2_with fail;rw[Exit.noGoto_ret];have hl0:w.heap.size<VV.heap.size:=by omega
         refine bodyPost_ret (v := .tuple #[.agg #[.slice (some ⟨gK,0,none⟩) (acc.length+1) (acc.length+1),.slice (some ⟨gS,0,none⟩) (acc.length+1) (acc.length+1)],.int .i64 e,f0]) (by simp[results,Tryz.results80,go_sem,p0,p1,p2,p3,p4,p5,p6,p7,hl0,hklt4]) rfl ?_;rw[←HX9.out];have hdn:=ks_done HK5.out;have e1:(acc++[(t,n,e)]).length=acc.length+1:=by simp
         refine⟨_,_,rfl,hes,?_,?_,by rw[e1];omega,by rw[e1];omega,hdn.2.2⟩
         · rw[e1];rw[e1]at hdn;exact hdn.1
         rw[e1];rw[e1]at hdn;exact hdn.2.1
      refine Reg.one (i:=10) rfl (by rfl) ?_;go_simp;have HR':=HR1.out.alloc (.cells #[.int .i64 n,.int .i64 e] 38);have NBS':=HR1.out.newB #[.int .i64 n,.int .i64 e] 38;have NBC':=NBC1.out.alloc (.cells #[.int .i64 n,.int .i64 e] 38);have NBF':=NBF1.out.alloc (.cells #[.int .i64 n,.int .i64 e] 38);have NBK':=NBK1.out.alloc (.cells #[.int .i64 n,.int .i64 e] 38);obtain⟨V2,hV⟩:∃V',V1.alloc (.cells #[.int .i64 n,.int .i64 e] 38)=V':=⟨_,rfl⟩
      rw[hV]at HR' NBS' NBC' NBF' NBK' ⊢;clear hV;have HR2:=Lib.hid HR';have NBC2:=Lib.hid NBC';have NBF2:=Lib.hid NBF';have NBK2:=Lib.hid NBK';have NBS2:=Lib.hid NBS';clear HR' NBS' NBC' NBF' NBK';have hS2:=keyS_of NBC2.out;refine⟨by first|exact hS2|exact fun _=>hS2,?_⟩;refine Reg.pt ?_;refine Reg.on 4 ?_;skip;refine wp_append_lies _ (.tmp 33) (.tmp 35) 22 (by rfl) w.heap.size 9 iK _ 1 16 Tryz.underlying22 HIK.out.1 HIK.out.2.1 HIK.out.2.2.1 HIK.out.2.2.2 (by rfl) (by decide) kv acc.length _ (by rfl) HR2.out.k _ 1 1 [strV t] (by rfl) (by rfl) (World.news_of_block NBK2.out.blk) (by simp[Value.oneCell']) (by decide) (by unfold maxLen;omega) (by omega) HR2.out.size _ rfl ?_;intro gK capK V3 ho hg ha hz;have HR3:=Lib.hid (HR2.out.appK ho hg ha);have NBC3:=Lib.hid (NBC2.out.appK (n:=acc.length+1) (cap:=capK) hg ha);have NBF3:=Lib.hid (NBF2.out.appK (n:=acc.length+1) (cap:=capK) hg ha);have NBS3:=Lib.hid (NBS2.out.appK (n:=acc.length+1) (cap:=capK) hg ha);clear ho hg ha hz;have hS3:=keyS_of NBC3.out;refine⟨fun _ _=>hS3,?_⟩;refine Reg.pt ?_;refine Reg.ty 13 ?_;refine Reg.on 11 ?_;skip;refine wp_append_lies _ (.tmp 38) (.tmp 42) 36 (by rfl) w.heap.size 38 iS _ 2 16 Tryz.underlying36 HIS.out.1 HIS.out.2.1 HIS.out.2.2.1 HIS.out.2.2.2 (by rfl) (by decide) sv acc.length _ (by rfl) HR3.out.s _ 1 1 [.int .i64 n,.int .i64 e] (by rfl) (by rfl) (World.news_of_block NBS3.out.blk) (by simp[Value.oneCell']) (by decide) (by unfold maxLen;omega) (by omega) HR3.out.size _ rfl ?_;intro gS capS V4 ho hg ha hz;have HR4:=Lib.hid (HR3.out.appS ho hg ha);have NBC4:=Lib.hid (NBC3.out.appS (n:=acc.length+1) (cap:=capS) hg ha);have NBF4:=Lib.hid (NBF3.out.appS (n:=acc.length+1) (cap:=capS) hg ha);clear ho hg ha hz;have hS4:=keyS_of NBC4.out;refine⟨fun _ _=>hS4,?_⟩;refine Reg.pt ?_;obtain⟨hcK0,hfK0⟩:=NBC4.out.cell (i:=0) rfl;obtain⟨hcK1,hfK1⟩:=NBC4.out.cell (i:=1) rfl;refine Reg.on 14 ?_;go_simp
      try simp only[Act.put,List.setIfInBounds_toArray,List.set_cons_zero,List.set_cons_succ]
      refine Reg.ty 15 ?_;refine Reg.on 16 ?_;go_simp
      try simp only[Act.put,List.setIfInBounds_toArray,List.set_cons_zero,List.set_cons_succ]
      refine Reg.ty 17 ?_;refine Reg.done (by kernel_rfl) ?_ _;have HKS:=Lib.hid (ks_put HR4.out NBC4.out NBF4.out);obtain⟨VE,hVE⟩:∃VE,(V4.setCell ⟨w.heap.size,0,none⟩ (.slice (some ⟨gK,0,none⟩) (acc.length+1) capK)).setCell ⟨w.heap.size,1,none⟩ (.slice (some ⟨gS,0,none⟩) (acc.length+1) capS)=VE:=⟨_,rfl⟩
      have HKS':=HKS.out;clear HKS hcK0 hfK0 hcK1 hfK1;rw[hVE]at HKS' ⊢;clear hVE;have HK:=Lib.hid HKS';clear HKS';go_wp2_with fail;refine (tk_Blanks s _ e rfl hes (by omega) _).mono ?_;rintro e3 w3 ⟨rfl,g3⟩;have hab:=Pl.blanksAt_le (bs s) e (by rw[bs_length];exact hes);rw[bs_length]at hab;have hks3:=HK.out.gr g3;obtain⟨p0,p1,p2,p3,p4,p5,p6,p7⟩:=hks3.cells;have hklt3:=hks3.lt;have HK3:=Lib.hid hks3;have hx9:=HXX.out
      try dsimp only at hx9
      obtain⟨a,ha⟩:∃a,Pl.blanksAt (bs s) e=a:=⟨_,rfl⟩
      rw[ha]at hab hx9 ⊢;have HA:=Lib.hid ha;clear ha hks3;by_cases hdot:Pl.byteAt (bs s) a=46
      · rw[if_pos hdot]at hx9;have hlt:a<s.size:=by
         by_cases h:a<s.size
         · exact h
         rw[byteAt_ge s a h]at hdot;cases hdot
        rw[byteAt_lt s a hlt]at hdot;have hq1:((a:Int)==(s.size:Int))=false:=by simp;omega
        have hq2:((s[a].toNat:Int) != 46)=false:=by simp;omega
        have hb2:=Pl.blanksAt_le (bs s) (a+1) (by rw[bs_length];omega);rw[bs_length]at hb2;have hk1:(0:Int)≤(a:Int):=by omega
        have hk2:(a:Int)<(s.size:Int):=by omega
        have HX9:=Lib.hid hx9;clear hx9 hdot;go_wp2_with (go_at_call 61;refine (tk_Blanks s _ (a+1) (by omega) (by omega) (by omega) _).mono ?_;rintro e5 w5 ⟨rfl,g5⟩)
        go_roundw
        case rel =>
         have hb3:Pl.blanksAt (bs s) (a+1)≤s.size:=hb2.2
         first
          | exact⟨Pl.blanksAt (bs s) (a+1),fuel,e,_,_,_,rfl,rfl,hb3,HX9.out,HK3.out.gr g5,by simp;omega⟩
          | ((repeat apply Exists.intro);exact⟨⟨Pl.blanksAt (bs s) (a+1),fuel,e,_,_,_,rfl,rfl,hb3,HX9.out,HK3.out.gr g5,by simp;omega⟩,rfl⟩)
        case measure =>
         have hb3:a+1≤Pl.blanksAt (bs s) (a+1):=hb2.1;simp[intOf];omega
      rw[if_neg hdot]at hx9;have hqq:(((a:Int)==(s.size:Int))=true)∨(∃hlt:a<s.size,((a:Int)==(s.size:Int))=false∧((s[a].toNat:Int) != 46)=true):=by
       by_cases h:a<s.size
       · refine .inr ⟨h,by simp;omega,?_⟩;rw[byteAt_lt s a h]at hdot;simp;omega
       exact .inl (by simp;omega)
      have HX9:=Lib.hid hx9;have hk1:(0:Int)≤(a:Int):=by omega
      clear hx9 hdot;obtain⟨kq,hkq⟩:∃kq,kq=1:=⟨_,rfl⟩
      rcases hqq with hq1|⟨hlt,hq1,hq2⟩
      all_goals
       go_wp2_with fail;refine Reg.begin' (W:=fun i=>i != 11) (S:=KeyS2 w) (by kernel_rfl) ?_;obtain⟨VV,hVV⟩:∃VV,w3.drew=VV:=⟨_,rfl⟩
       have HK4:=HK3.out.gr ((Gr.refl w3).drew);rw[hVV]at HK4 ⊢;clear hVV p0 p1 p2 p3 p4 p5 p6 p7;obtain⟨p0,p1,p2,p3,p4,p5,p6,p7⟩:=HK4.cells;have hklt4:=HK4.lt;have hFK:=own_form HK4.rows.k;have hFS:=own_form HK4.rows.s;rw[show (acc++[(t,n,e)]).length=acc.length+1 from by simp]at hFK hFS;have HK5:=Lib.hid HK4;clear HK4;have hSS:KeyS2 w VV:=⟨p4,p5⟩
       have hcK:acc.length+1≤capK∧capK≤9223372036854775807:=by
        rcases hFK with⟨h,_⟩|⟨g,c,h,h1,h2⟩
        · cases h
        cases h;exact⟨h1,h2⟩
       have hcS:acc.length+1≤capS∧capS≤9223372036854775807:=by
        rcases hFS with⟨h,_⟩|⟨g,c,h,h1,h2⟩
        · cases h
        cases h;exact⟨h1,h2⟩
       clear hFK hFS;refine Reg.ty 0 ?_;refine Reg.ty 3 ?_;refine Reg.ty 7 ?_;refine Reg.tl 8 hSS ?_ (hy:=by intro w hSw;obtain⟨q1,q2⟩:=hSw;go_simp;try with_reducible rfl);refine Reg.all (rs:=[1,4]) (by kernel_rfl) (by simp) ?_;intro j hj;simp only[List.mem_cons,List.not_mem_nil,or_false]at hj;rcases hj with rfl|rfl
       · refine Reg.one (i:=1) rfl (by rfl) ?_;go_simp
         try simp only[Act.put,List.setIfInBounds_toArray,List.set_cons_zero,List.set_cons_succ]
         refine Reg.all (rs:=[2,4]) (by kernel_rfl) (by simp) ?_;intro j hj;simp only[List.mem_cons,List.not_mem_nil,or_false]at hj;rcases hj with rfl|rfl
         · refine Reg.one (i:=2) rfl (by rfl) ?_;go_simp;refine (clip_strs gK (acc.length+1) capK hcK.1 hcK.2 _).mono ?_;rintro ee ww ⟨rfl,rfl⟩;refine⟨by first|exact hSS|exact fun _=>hSS|exact fun _ h=>h,?_⟩;refine Reg.pt ?_;refine Reg.on 4 ?_;skip;go_simp
           try simp only[Act.put,List.setIfInBounds_toArray,List.set_cons_zero,List.set_cons_succ]
           refine Reg.on 5 ?_;skip;go_simp;refine (clip_spans gS (acc.length+1) capS hcS.1 hcS.2 _).mono ?_;rintro ee ww ⟨rfl,rfl⟩;refine⟨by first|exact hSS|exact fun _=>hSS|exact fun _ h=>h,?_⟩;refine Reg.pt ?_;refine Reg.ty 6 ?_;refine Reg.on 9 ?_;go_simp;refine⟨keyS2_set hSS,?_⟩
           try simp only[Act.put,List.setIfInBounds_toArray,List.set_cons_zero,List.set_cons_succ]
           refine Reg.ty 10 ?_;refine Reg.on 11 ?_;go_simp
           try simp only[Act.put,List.setIfInBounds_toArray,List.set_cons_zero,List.set_cons_succ]
           refine Reg.done (by kernel_rfl) ?_ _;go_wp2_with fail;rw[Exit.noGoto_ret];have hl0:w.heap.size<VV.heap.size:=by omega
           refine bodyPost_ret (v := .tuple #[.agg #[.slice (some ⟨gK,0,none⟩) (acc.length+1) (acc.length+1),.slice (some ⟨gS,0,none⟩) (acc.length+1) (acc.length+1)],.int .i64 e,f0]) (by simp[results,Tryz.results80,go_sem,p0,p1,p2,p3,p4,p5,p6,p7,hl0,hklt4]) rfl ?_;rw[←HX9.out];have hdn:=ks_done HK5.out;have e1:(acc++[(t,n,e)]).length=acc.length+1:=by simp
           refine⟨_,_,rfl,hes,?_,?_,by rw[e1];omega,by rw[e1];omega,hdn.2.2⟩
           · rw[e1];rw[e1]at hdn;exact hdn.1
           rw[e1];rw[e1]at hdn;exact hdn.2.1
         refine Reg.one (i:=4) rfl (by rfl) ?_;go_simp
         try simp only[Act.put,List.setIfInBounds_toArray,List.set_cons_zero,List.set_cons_succ]
         refine Reg.on 2 ?_;skip;go_simp;refine (clip_strs gK (acc.length+1) capK hcK.1 hcK.2 _).mono ?_;rintro ee ww ⟨rfl,rfl⟩;refine⟨by first|exact hSS|exact fun _=>hSS|exact fun _ h=>h,?_⟩;refine Reg.pt ?_;refine Reg.on 5 ?_;skip;go_simp;refine (clip_spans gS (acc.length+1) capS hcS.1 hcS.2 _).mono ?_;rintro ee ww ⟨rfl,rfl⟩;refine⟨by first|exact hSS|exact fun _=>hSS|exact fun _ h=>h,?_⟩;refine Reg.pt ?_;refine Reg.ty 6 ?_;refine Reg.on 9 ?_;go_simp;refine⟨keyS2_set hSS,?_⟩
         try simp only[Act.put,List.setIfInBounds_toArray,List.set_cons_zero,List.set_cons_succ]
         refine Reg.ty 10 ?_;refine Reg.on 11 ?_;go_simp
         try simp only[Act.put,List.setIfInBounds_toArray,List.set_cons_zero,List.set_cons_succ]
         refine Reg.done (by kernel_rfl) ?_ _;go_wp2_with fail;rw[Exit.noGoto_ret];have hl0:w.heap.size<VV.heap.size:=by omega
         refine bodyPost_ret (v := .tuple #[.agg #[.slice (some ⟨gK,0,none⟩) (acc.length+1) (acc.length+1),.slice (some ⟨gS,0,none⟩) (acc.length+1) (acc.length+1)],.int .i64 e,f0]) (by simp[results,Tryz.results80,go_sem,p0,p1,p2,p3,p4,p5,p6,p7,hl0,hklt4]) rfl ?_;rw[←HX9.out];have hdn:=ks_done HK5.out;have e1:(acc++[(t,n,e)]).length=acc.length+1:=by simp
         refine⟨_,_,rfl,hes,?_,?_,by rw[e1];omega,by rw[e1];omega,hdn.2.2⟩
         · rw[e1];rw[e1]at hdn;exact hdn.1
         rw[e1];rw[e1]at hdn;exact hdn.2.1
       refine Reg.one (i:=4) rfl (by rfl) ?_;go_simp
       try simp only[Act.put,List.setIfInBounds_toArray,List.set_cons_zero,List.set_cons_succ]
       refine Reg.on 1 ?_;skip;go_simp
       try simp only[Act.put,List.setIfInBounds_toArray,List.set_cons_zero,List.set_cons_succ]
       refine Reg.on 2 ?_;skip;go_simp;refine (clip_strs gK (acc.length+1) capK hcK.1 hcK.2 _).mono ?_;rintro ee ww ⟨rfl,rfl⟩;refine⟨by first|exact hSS|exact fun _=>hSS|exact fun _ h=>h,?_⟩;refine Reg.pt ?_;refine Reg.on 5 ?_;skip;go_simp;refine (clip_spans gS (acc.length+1) capS hcS.1 hcS.2 _).mono ?_;rintro ee ww ⟨rfl,rfl⟩;refine⟨by first|exact hSS|exact fun _=>hSS|exact fun _ h=>h,?_⟩;refine Reg.pt ?_;refine Reg.ty 6 ?_;refine Reg.on 9 ?_;go_simp;refine⟨keyS2_set hSS,?_⟩
       try simp only[Act.put,List.setIfInBounds_toArray,List.set_cons_zero,List.set_cons_succ]
       refine Reg.ty 10 ?_;refine Reg.on 11 ?_;go_simp
       try simp only[Act.put,List.setIfInBounds_toArray,List.set_cons_zero,List.set_cons_succ]
       refine Reg.done (by kernel_rfl) ?_ _;go_wp2_with fail;rw[Exit.noGoto_ret];have hl0:w.heap.size<VV.heap.size:=by omega
       refine bodyPost_ret (v := .tuple #[.agg #[.slice (some ⟨gK,0,none⟩) (acc.length+1) (acc.length+1),.slice (some ⟨gS,0,none⟩) (acc.length+1) (acc.length+1)],.int .i64 e,f0]) (by simp[results,Tryz.results80,go_sem,p0,p1,p2,p3,p4,p5,p6,p7,hl0,hklt4]) rfl ?_;rw[←HX9.out];have hdn:=ks_done HK5.out;have e1:(acc++[(t,n,e)]).length=acc.length+1:=by simp
       refine⟨_,_,rfl,hes,?_,?_,by rw[e1];omega,by rw[e1];omega,hdn.2.2⟩
       · rw[e1];rw[e1]at hdn;exact hdn.1
       rw[e1];rw[e1]at hdn;exact hdn.2.1
    refine Reg.one (i:=10) rfl (by rfl) ?_;go_simp;have HR':=HR0.out.alloc (.cells #[.int .i64 n,.int .i64 e] 38);have NBS':=HR0.out.newB #[.int .i64 n,.int .i64 e] 38;have NBC':=NBC0.out.alloc (.cells #[.int .i64 n,.int .i64 e] 38);have NBF':=NBF0.out.alloc (.cells #[.int .i64 n,.int .i64 e] 38);obtain⟨V1,hV⟩:∃V',V0.alloc (.cells #[.int .i64 n,.int .i64 e] 38)=V':=⟨_,rfl⟩
    rw[hV]at HR' NBS' NBC' NBF' ⊢;clear hV;have HR1:=Lib.hid HR';have NBC1:=Lib.hid NBC';have NBF1:=Lib.hid NBF';have NBS1:=Lib.hid NBS';clear HR' NBS' NBC' NBF';have hS1:=keyS_of NBC1.out;refine⟨by first|exact hS1|exact fun _=>hS1,?_⟩;refine Reg.pt ?_;refine Reg.on 3 ?_;skip;go_simp;have HR':=HR1.out.alloc (.cells #[strV t] 9);have NBK':=HR1.out.newB #[strV t] 9;have NBC':=NBC1.out.alloc (.cells #[strV t] 9);have NBF':=NBF1.out.alloc (.cells #[strV t] 9);have NBS':=NBS1.out.alloc (.cells #[strV t] 9);obtain⟨V2,hV⟩:∃V',V1.alloc (.cells #[strV t] 9)=V':=⟨_,rfl⟩
    rw[hV]at HR' NBK' NBC' NBF' NBS' ⊢;clear hV;have HR2:=Lib.hid HR';have NBC2:=Lib.hid NBC';have NBF2:=Lib.hid NBF';have NBS2:=Lib.hid NBS';have NBK2:=Lib.hid NBK';clear HR' NBK' NBC' NBF' NBS';have hS2:=keyS_of NBC2.out;refine⟨by first|exact hS2|exact fun _=>hS2,?_⟩;refine Reg.pt ?_;refine Reg.on 4 ?_;skip;refine wp_append_lies _ (.tmp 33) (.tmp 35) 22 (by rfl) w.heap.size 9 iK _ 1 16 Tryz.underlying22 HIK.out.1 HIK.out.2.1 HIK.out.2.2.1 HIK.out.2.2.2 (by rfl) (by decide) kv acc.length _ (by rfl) HR2.out.k _ 1 1 [strV t] (by rfl) (by rfl) (World.news_of_block NBK2.out.blk) (by simp[Value.oneCell']) (by decide) (by unfold maxLen;omega) (by omega) HR2.out.size _ rfl ?_;intro gK capK V3 ho hg ha hz;have HR3:=Lib.hid (HR2.out.appK ho hg ha);have NBC3:=Lib.hid (NBC2.out.appK (n:=acc.length+1) (cap:=capK) hg ha);have NBF3:=Lib.hid (NBF2.out.appK (n:=acc.length+1) (cap:=capK) hg ha);have NBS3:=Lib.hid (NBS2.out.appK (n:=acc.length+1) (cap:=capK) hg ha);clear ho hg ha hz;have hS3:=keyS_of NBC3.out;refine⟨fun _ _=>hS3,?_⟩;refine Reg.pt ?_;refine Reg.ty 13 ?_;refine Reg.on 11 ?_;skip;refine wp_append_lies _ (.tmp 38) (.tmp 42) 36 (by rfl) w.heap.size 38 iS _ 2 16 Tryz.underlying36 HIS.out.1 HIS.out.2.1 HIS.out.2.2.1 HIS.out.2.2.2 (by rfl) (by decide) sv acc.length _ (by rfl) HR3.out.s _ 1 1 [.int .i64 n,.int .i64 e] (by rfl) (by rfl) (World.news_of_block NBS3.out.blk) (by simp[Value.oneCell']) (by decide) (by unfold maxLen;omega) (by omega) HR3.out.size _ rfl ?_;intro gS capS V4 ho hg ha hz;have HR4:=Lib.hid (HR3.out.appS ho hg ha);have NBC4:=Lib.hid (NBC3.out.appS (n:=acc.length+1) (cap:=capS) hg ha);have NBF4:=Lib.hid (NBF3.out.appS (n:=acc.length+1) (cap:=capS) hg ha);clear ho hg ha hz;have hS4:=keyS_of NBC4.out;refine⟨fun _ _=>hS4,?_⟩;refine Reg.pt ?_;obtain⟨hcK0,hfK0⟩:=NBC4.out.cell (i:=0) rfl;obtain⟨hcK1,hfK1⟩:=NBC4.out.cell (i:=1) rfl;refine Reg.on 14 ?_;go_simp
    try simp only[Act.put,List.setIfInBounds_toArray,List.set_cons_zero,List.set_cons_succ]
    refine Reg.ty 15 ?_;refine Reg.on 16 ?_;go_simp
    try simp only[Act.put,List.setIfInBounds_toArray,List.set_cons_zero,List.set_cons_succ]
    refine Reg.ty 17 ?_;refine Reg.done (by kernel_rfl) ?_ _;have HKS:=Lib.hid (ks_put HR4.out NBC4.out NBF4.out);obtain⟨VE,hVE⟩:∃VE,(V4.setCell ⟨w.heap.size,0,none⟩ (.slice (some ⟨gK,0,none⟩) (acc.length+1) capK)).setCell ⟨w.heap.size,1,none⟩ (.slice (some ⟨gS,0,none⟩) (acc.length+1) capS)=VE:=⟨_,rfl⟩
    have HKS':=HKS.out;clear HKS hcK0 hfK0 hcK1 hfK1;rw[hVE]at HKS' ⊢;clear hVE;have HK:=Lib.hid HKS';clear HKS';go_wp2_with fail;refine (tk_Blanks s _ e rfl hes (by omega) _).mono ?_;rintro e3 w3 ⟨rfl,g3⟩;have hab:=Pl.blanksAt_le (bs s) e (by rw[bs_length];exact hes);rw[bs_length]at hab;have hks3:=HK.out.gr g3;obtain⟨p0,p1,p2,p3,p4,p5,p6,p7⟩:=hks3.cells;have hklt3:=hks3.lt;have HK3:=Lib.hid hks3;have hx9:=HXX.out
    try dsimp only at hx9
    obtain⟨a,ha⟩:∃a,Pl.blanksAt (bs s) e=a:=⟨_,rfl⟩
    rw[ha]at hab hx9 ⊢;have HA:=Lib.hid ha;clear ha hks3;by_cases hdot:Pl.byteAt (bs s) a=46
    · rw[if_pos hdot]at hx9;have hlt:a<s.size:=by
       by_cases h:a<s.size
       · exact h
       rw[byteAt_ge s a h]at hdot;cases hdot
      rw[byteAt_lt s a hlt]at hdot;have hq1:((a:Int)==(s.size:Int))=false:=by simp;omega
      have hq2:((s[a].toNat:Int) != 46)=false:=by simp;omega
      have hb2:=Pl.blanksAt_le (bs s) (a+1) (by rw[bs_length];omega);rw[bs_length]at hb2;have hk1:(0:Int)≤(a:Int):=by omega
      have hk2:(a:Int)<(s.size:Int):=by omega
      have HX9:=Lib.hid hx9;clear hx9 hdot;go_wp2_with (go_at_call 61;refine (tk_Blanks s _ (a+1) (by omega) (by omega) (by omega) _).mono ?_;rintro e5 w5 ⟨rfl,g5⟩)
      go_roundw
      case rel =>
       have hb3:Pl.blanksAt (bs s) (a+1)≤s.size:=hb2.2
       first
        | exact⟨Pl.blanksAt (bs s) (a+1),fuel,e,_,_,_,rfl,rfl,hb3,HX9.out,HK3.out.gr g5,by simp;omega⟩
        | ((repeat apply Exists.intro);exact⟨⟨Pl.blanksAt (bs s) (a+1),fuel,e,_,_,_,rfl,rfl,hb3,HX9.out,HK3.out.gr g5,by simp;omega⟩,rfl⟩)
      case measure =>
       have hb3:a+1≤Pl.blanksAt (bs s) (a+1):=hb2.1;simp[intOf];omega
    rw[if_neg hdot]at hx9;have hqq:(((a:Int)==(s.size:Int))=true)∨(∃hlt:a<s.size,((a:Int)==(s.size:Int))=false∧((s[a].toNat:Int) != 46)=true):=by
     by_cases h:a<s.size
     · refine .inr ⟨h,by simp;omega,?_⟩;rw[byteAt_lt s a h]at hdot;simp;omega
     exact .inl (by simp;omega)
    have HX9:=Lib.hid hx9;have hk1:(0:Int)≤(a:Int):=by omega
    clear hx9 hdot;obtain⟨kq,hkq⟩:∃kq,kq=1:=⟨_,rfl⟩
    rcases hqq with hq1|⟨hlt,hq1,hq2⟩
    all_goals
     go_wp2_with fail;refine Reg.begin' (W:=fun i=>i != 11) (S:=KeyS2 w) (by kernel_rfl) ?_;obtain⟨VV,hVV⟩:∃VV,w3.drew=VV:=⟨_,rfl⟩
     have HK4:=HK3.out.gr ((Gr.refl w3).drew);rw[hVV]at HK4 ⊢;clear hVV p0 p1 p2 p3 p4 p5 p6 p7;obtain⟨p0,p1,p2,p3,p4,p5,p6,p7⟩:=HK4.cells;have hklt4:=HK4.lt;have hFK:=own_form HK4.rows.k;have hFS:=own_form HK4.rows.s;rw[show (acc++[(t,n,e)]).length=acc.length+1 from by simp]at hFK hFS;have HK5:=Lib.hid HK4;clear HK4;have hSS:KeyS2 w VV:=⟨p4,p5⟩
     have hcK:acc.length+1≤capK∧capK≤9223372036854775807:=by
      rcases hFK with⟨h,_⟩|⟨g,c,h,h1,h2⟩
      · cases h
      cases h;exact⟨h1,h2⟩
     have hcS:acc.length+1≤capS∧capS≤9223372036854775807:=by
      rcases hFS with⟨h,_⟩|⟨g,c,h,h1,h2⟩
      · cases h
      cases h;exact⟨h1,h2⟩
     clear hFK hFS;refine Reg.ty 0 ?_;refine Reg.ty 3 ?_;refine Reg.ty 7 ?_;refine Reg.tl 8 hSS ?_ (hy:=by intro w hSw;obtain⟨q1,q2⟩:=hSw;go_simp;try with_reducible rfl);refine Reg.all (rs:=[1,4]) (by kernel_rfl) (by simp) ?_;intro j hj;simp only[List.mem_cons,List.not_mem_nil,or_false]at hj;rcases hj with rfl|rfl
     · refine Reg.one (i:=1) rfl (by rfl) ?_;go_simp
       try simp only[Act.put,List.setIfInBounds_toArray,List.set_cons_zero,List.set_cons_succ]
       refine Reg.all (rs:=[2,4]) (by kernel_rfl) (by simp) ?_;intro j hj;simp only[List.mem_cons,List.not_mem_nil,or_false]at hj;rcases hj with rfl|rfl
       · refine Reg.one (i:=2) rfl (by rfl) ?_;go_simp;refine (clip_strs gK (acc.length+1) capK hcK.1 hcK.2 _).mono ?_;rintro ee ww ⟨rfl,rfl⟩;refine⟨by first|exact hSS|exact fun _=>hSS|exact fun _ h=>h,?_⟩;refine Reg.pt ?_;refine Reg.on 4 ?_;skip;go_simp
         try simp only[Act.put,List.setIfInBounds_toArray,List.set_cons_zero,List.set_cons_succ]
         refine Reg.on 5 ?_;skip;go_simp;refine (clip_spans gS (acc.length+1) capS hcS.1 hcS.2 _).mono ?_;rintro ee ww ⟨rfl,rfl⟩;refine⟨by first|exact hSS|exact fun _=>hSS|exact fun _ h=>h,?_⟩;refine Reg.pt ?_;refine Reg.ty 6 ?_;refine Reg.on 9 ?_;go_simp;refine⟨keyS2_set hSS,?_⟩
         try simp only[Act.put,List.setIfInBounds_toArray,List.set_cons_zero,List.set_cons_succ]
         refine Reg.ty 10 ?_;refine Reg.on 11 ?_;go_simp
         try simp only[Act.put,List.setIfInBounds_toArray,List.set_cons_zero,List.set_cons_succ]
         refine Reg.done (by kernel_rfl) ?_ _;go_wp2_with fail;rw[Exit.noGoto_ret];have hl0:w.heap.size<VV.heap.size:=by omega
         refine bodyPost_ret (v := .tuple #[.agg #[.slice (some ⟨gK,0,none⟩) (acc.length+1) (acc.length+1),.slice (some ⟨gS,0,none⟩) (acc.length+1) (acc.length+1)],.int .i64 e,f0]) (by simp[results,Tryz.results80,go_sem,p0,p1,p2,p3,p4,p5,p6,p7,hl0,hklt4]) rfl ?_;rw[←HX9.out];have hdn:=ks_done HK5.out;have e1:(acc++[(t,n,e)]).length=acc.length+1:=by simp
         refine⟨_,_,rfl,hes,?_,?_,by rw[e1];omega,by rw[e1];omega,hdn.2.2⟩
         · rw[e1];rw[e1]at hdn;exact hdn.1
         rw[e1];rw[e1]at hdn;exact hdn.2.1
       refine Reg.one (i:=4) rfl (by rfl) ?_;go_simp
       try simp only[Act.put,List.setIfInBounds_toArray,List.set_cons_zero,List.set_cons_succ]
       refine Reg.on 2 ?_;skip;go_simp;refine (clip_strs gK (acc.length+1) capK hcK.1 hcK.2 _).mono ?_;rintro ee ww ⟨rfl,rfl⟩;refine⟨by first|exact hSS|exact fun _=>hSS|exact fun _ h=>h,?_⟩;refine Reg.pt ?_;refine Reg.on 5 ?_;skip;go_simp;refine (clip_spans gS (acc.length+1) capS hcS.1 hcS.2 _).mono ?_;rintro ee ww ⟨rfl,rfl⟩;refine⟨by first|exact hSS|exact fun _=>hSS|exact fun _ h=>h,?_⟩;refine Reg.pt ?_;refine Reg.ty 6 ?_;refine Reg.on 9 ?_;go_simp;refine⟨keyS2_set hSS,?_⟩
       try simp only[Act.put,List.setIfInBounds_toArray,List.set_cons_zero,List.set_cons_succ]
       refine Reg.ty 10 ?_;refine Reg.on 11 ?_;go_simp
       try simp only[Act.put,List.setIfInBounds_toArray,List.set_cons_zero,List.set_cons_succ]
       refine Reg.done (by kernel_rfl) ?_ _;go_wp2_with fail;rw[Exit.noGoto_ret];have hl0:w.heap.size<VV.heap.size:=by omega
       refine bodyPost_ret (v := .tuple #[.agg #[.slice (some ⟨gK,0,none⟩) (acc.length+1) (acc.length+1),.slice (some ⟨gS,0,none⟩) (acc.length+1) (acc.length+1)],.int .i64 e,f0]) (by simp[results,Tryz.results80,go_sem,p0,p1,p2,p3,p4,p5,p6,p7,hl0,hklt4]) rfl ?_;rw[←HX9.out];have hdn:=ks_done HK5.out;have e1:(acc++[(t,n,e)]).length=acc.length+1:=by simp
       refine⟨_,_,rfl,hes,?_,?_,by rw[e1];omega,by rw[e1];omega,hdn.2.2⟩
       · rw[e1];rw[e1]at hdn;exact hdn.1
       rw[e1];rw[e1]at hdn;exact hdn.2.1
     refine Reg.one (i:=4) rfl (by rfl) ?_;go_simp
     try simp only[Act.put,List.setIfInBounds_toArray,List.set_cons_zero,List.set_cons_succ]
     refine Reg.on 1 ?_;skip;go_simp
     try simp only[Act.put,List.setIfInBounds_toArray,List.set_cons_zero,List.set_cons_succ]
     refine Reg.on 2 ?_;skip;go_simp;refine (clip_strs gK (acc.length+1) capK hcK.1 hcK.2 _).mono ?_;rintro ee ww ⟨rfl,rfl⟩;refine⟨by first|exact hSS|exact fun _=>hSS|exact fun _ h=>h,?_⟩;refine Reg.pt ?_;refine Reg.on 5 ?_;skip;go_simp;refine (clip_spans gS (acc.length+1) capS hcS.1 hcS.2 _).mono ?_;rintro ee ww ⟨rfl,rfl⟩;refine⟨by first|exact hSS|exact fun _=>hSS|exact fun _ h=>h,?_⟩;refine Reg.pt ?_;refine Reg.ty 6 ?_;refine Reg.on 9 ?_;go_simp;refine⟨keyS2_set hSS,?_⟩
     try simp only[Act.put,List.setIfInBounds_toArray,List.set_cons_zero,List.set_cons_succ]
     refine Reg.ty 10 ?_;refine Reg.on 11 ?_;go_simp
     try simp only[Act.put,List.setIfInBounds_toArray,List.set_cons_zero,List.set_cons_succ]
     refine Reg.done (by kernel_rfl) ?_ _;go_wp2_with fail;rw[Exit.noGoto_ret];have hl0:w.heap.size<VV.heap.size:=by omega
     refine bodyPost_ret (v := .tuple #[.agg #[.slice (some ⟨gK,0,none⟩) (acc.length+1) (acc.length+1),.slice (some ⟨gS,0,none⟩) (acc.length+1) (acc.length+1)],.int .i64 e,f0]) (by simp[results,Tryz.results80,go_sem,p0,p1,p2,p3,p4,p5,p6,p7,hl0,hklt4]) rfl ?_;rw[←HX9.out];have hdn:=ks_done HK5.out;have e1:(acc++[(t,n,e)]).length=acc.length+1:=by simp
     refine⟨_,_,rfl,hes,?_,?_,by rw[e1];omega,by rw[e1];omega,hdn.2.2⟩
     · rw[e1];rw[e1]at hdn;exact hdn.1
     rw[e1];rw[e1]at hdn;exact hdn.2.1
end Go.Proofs.YtkplelejagpkmaaGreatDoor
