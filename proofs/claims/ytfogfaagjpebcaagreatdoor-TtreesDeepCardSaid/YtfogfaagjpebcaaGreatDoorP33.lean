/-
 The walks and plain laws that the claim rests on, part 33.
-/
import Derived.Test.YtfogfaagjpebcaaGreatDoorP00
import Derived.Test.YtfogfaagjpebcaaGreatDoorP08
import Derived.Test.YtfogfaagjpebcaaGreatDoorP31
import Derived.Test.YtfogfaagjpebcaaGreatDoorP32
import Derived.Deep.LoopGhost
set_option maxHeartbeats 16000000
set_option linter.all false
set_option linter.unusedVariables false
set_option linter.unusedSimpArgs false
namespace Go.Proofs.YtfogfaagjpebcaaGreatDoor
open Go.RowKit Go.Shelf Go.Joins
attribute [local go_sem] Oper.semAt_some
variable {Tb:Nat→UInt8 × UInt8}
theorem tv_pair (E:Pl.Env) (hE:EnvStr Tb E) (w:World) (R B base:Nat) (s:ByteArray) (root:Int) (V:Pl.ValF) (hV:ValueC Tb s R B base root V) (nv:Value) (L:List NdR) (own:Nat→Nat) (h:RdV w R B base s root nv L own) (hg:GW Tb base w) (hs:s.size≤20000000)
    (table d n:Nat) (hn:n≤s.size) (hd:d≤256) (ht:table≤30000000) (X:Pl.Res (Nat × Pl.Nds)) (hX:Pl.pairS E V (bs s) table n d (L.map (·.nd))=X) (hne:X ≠ .non) :
    Calls Tryz.prog 118 #[.pointer (some ⟨R,0,none⟩),.int .i64 table,.int .i64 n,.int .i64 d] w (PairPost s R B base root own w X):=by
 cases hk:Pl.keyS E (bs s) n with
 | non=>unfold Pl.pairS at hX;rw[hk]at hX;exact absurd hX.symm hne
 | bad c p =>
  unfold Pl.pairS at hX;rw[hk]at hX;subst hX;exact tv_pair_bad E hE w R B base s root nv L own h hg hs table d n hn c p hk
 | ok r =>
  obtain⟨ws,m⟩:=r;exact tv_pair_ok E hE w R B base s root V hV nv L own h hg hs table d n hn hd ht ws m hk X hX hne
theorem gapF_bad:∀(f:Nat) (l:Pl.Bs) (c p:Nat),Pl.gapF f l = .bad c p→c=3:=by
 intro f
 induction f with
 | zero=>intro l c p h;cases h
 | succ f ih =>
  intro l c p h;unfold Pl.gapF at h;cases hs:Pl.gapStep l with
  | bad c2 p2 =>
   rw[hs]at h;cases h;unfold Pl.gapStep at hs;dsimp only at hs
   split at hs <;> cases hs
   rfl
  | ok n =>
   rw[hs]at h;cases n with
   | zero=>cases h
   | succ n =>
    simp only at h;cases hf:Pl.gapF f (l.drop (n+1)) with
    | bad c2 p2=>rw[hf]at h;cases h;exact ih _ _ _ hf
    | ok k=>rw[hf]at h;cases h
theorem gapAt_code (l:Pl.Bs) (n c p:Nat) (h:Pl.gapAt l n = .bad c p):c=3:=by
 unfold Pl.gapAt Pl.gap at h;cases hf:Pl.gapF ((l.drop n).length+1) (l.drop n) with
 | bad c2 p2=>rw[hf]at h;cases h;exact gapF_bad _ _ _ _ hf
 | ok k=>rw[hf]at h;cases h
theorem tv_Gap' (s:ByteArray) (i:Int) (n0:Nat) (hi:i=n0) (hn0:n0≤s.size) (hs:s.size≤20000000) (w:World) :
    Calls Tryz.prog 117 #[.string s,.int .i64 i] w fun e w'=>∃m c p:Nat,e = .returned (.tuple #[.int .i64 m,fv c p])∧m≤s.size∧((Pl.gapAt (bs s) n0 = .ok m∧c=0∧p=0)∨(Pl.gapAt (bs s) n0 = .bad c p∧c≠0))∧Gr w w':=by
 refine (tv_Gap s i n0 hi hn0 (by omega) w).mono ?_;rintro e w' ⟨h,g⟩;cases hg:Pl.gapAt (bs s) n0 with
 | ok m =>
  rw[hg]at h;obtain⟨rfl,hm⟩:=h;exact⟨m,0,0,rfl,hm,.inl ⟨rfl,rfl,rfl⟩,g⟩
 | bad c p =>
  rw[hg]at h;subst h;exact⟨0,c,p,rfl,by omega,.inr ⟨rfl,by have:=gapAt_code _ _ _ _ hg;omega⟩,g⟩
theorem clip_ints_own {w:World} {base n:Nat} {v:Value} {xs:List Value} (h:w.ownsRow base 3 1 v n xs) (W:World):Calls Tryz.prog 24 #[v] W fun e w'=>e = .returned (clipV v)∧W=w':=by
 rcases own_form h with⟨rfl,_⟩|⟨g,cap,rfl,h1,h2⟩
 · exact clip_ints0 W
 exact clip_ints g n cap h1 h2 W
theorem clip_ints_lit {w:World} {base n:Nat} {a:Option Addr} {k c:Nat} {xs:List Value} (h:w.ownsRow base 3 1 (.slice a k c) n xs) (W:World):Calls Tryz.prog 24 #[.slice a k c] W fun e w'=>e = .returned (.slice a k k)∧W=w':=clip_ints_own h W
def listR (subs:List Nat) (a b:Nat) (uv:Value):NdR:=⟨Pl.listNd subs a b,nilV,nilV,uv⟩
theorem list_node (W:World) (R B base:Nat) (s:ByteArray) (root:Int) (nv:Value) (L:List NdR) (own:Nat→Nat) (h:RdV W R B base s root nv L own) (hr:Pl.room (L.map (·.nd))=true)
    (uv:Value) (subs:List Nat) (ho:W.ownsRow base 3 1 uv subs.length (subsV subs)) (h0:∀b,uv.ownBlock=some b→own b=0) (a b:Nat) (b':Int) (hb:b'=b) :
    Calls Tryz.prog 116 #[.pointer (some ⟨R,0,none⟩),.agg #[.int .u8 7,.string ⟨#[]⟩,nilV,nilV,clipV uv,.int .i64 a,.int .i64 b']] W fun e w' =>
     e = .returned (.int .i64 L.length)∧∃nv' own',RdV w' R B base s root nv' (L++[listR subs a b (clipV uv)]) own'∧St (fun k=>FV own k∨uv.ownBlock=some k) (FV own') W w'∧(∀k,own' k≠0→own k≠0∨uv.ownBlock=some k∨W.heap.size≤k):=by
 have hl:L.length≤30000000:=by simp[Pl.room]at hr;omega
 subst hb;have h1:(clipV uv).oneCell'=true:=by
  rcases own_form ho with⟨rfl,_⟩|⟨g,cap,rfl,_,_⟩ <;> rfl
 have h2:(clipV uv).ownBlock=uv.ownBlock:=clipV_block uv;refine (tv_node W R B base s root nv L own h hl (listR subs a b (clipV uv)) h1 rfl rfl rfl rfl rfl (rowC_clip ho) (fun e=>by cases e) (fun k e=>⟨h0 k (by rw[←h2];exact e),(ho.lt k (by rw[←h2];exact e)).2⟩) 7 ⟨#[]⟩ nilV nilV (clipV uv) a b (by simp[ndV,listR,Pl.listNd])).mono ?_;rintro e w' ⟨rfl,nv',own',h3,h4,h5⟩;have e2:(listR subs a b (clipV uv)).uv.ownBlock=uv.ownBlock:=h2;rw[e2]at h4 h5;exact⟨rfl,nv',own',h3,h4,h5⟩
def Pl.listEnd (n:Nat) (Y:Pl.Res (List Nat × Nat × Pl.Nds)):Pl.Res (Nat × Nat × Pl.Nds):=match Y with
 | .non => .non
 | .bad c p => .bad c p
 | .ok (subs,e,st1)=>if Pl.room st1 then .ok (st1.length,e+1,st1++[Pl.listNd subs n (e+1)]) else .non
def ListI (s:ByteArray) (R B base:Nat) (root:Int) (V:Pl.ValF) (d:Nat) (own:Nat→Nat) (w:World) (z0 bF:Nat) (Y:Pl.Res (List Nat × Nat × Pl.Nds)) (k:Nat) (v7 v9:Value) (wr:World):Prop :=
 (∃(n:Nat) (subs:List Nat) (nv':Value) (L':List NdR) (own':Nat→Nat) (ua:Option Addr) (uc:Nat),v7 = .int .i64 n∧v9 = .slice ua subs.length uc∧n≤s.size∧RdV wr R B base s root nv' L' own'∧Pl.listF V (bs s) d k n subs (L'.map (·.nd))=Y∧FX bF (.int .i64 0) (.int .i64 0) wr∧GW Tb base wr ∧
  St (FV own) (FV own') w wr∧(∀k,own' k≠0→own k≠0∨z0≤k)∧z0≤wr.heap.size∧wr.ownsRow base 3 1 (.slice ua subs.length uc) subs.length (subsV subs)∧(∀b,(Value.slice ua subs.length uc).ownBlock=some b→own' b=0∧z0≤b)) ∨
 (∃(m c p:Nat) (F':Nat→Prop),v7 = .int .i64 m∧c≠0∧Y = .bad c p∧FX bF (.int .i64 c) (.int .i64 p) wr∧St (FV own) F' w wr∧RK R wr)
set_option maxRecDepth 100000 in
theorem tv_list (s:ByteArray) (R B base:Nat) (root:Int) (V:Pl.ValF) (hV:ValueC Tb s R B base root V) (w:World) (nv:Value) (L:List NdR) (own:Nat→Nat) (h:RdV w R B base s root nv L own) (hg:GW Tb base w) (hs:s.size≤20000000)
    (d n:Nat) (hb:Pl.byteAt (bs s) n=91) (X:Pl.Res (Nat × Nat × Pl.Nds)) (hX:Pl.listS V (bs s) d n (L.map (·.nd))=X) (hne:X ≠ .non) :
    Calls Tryz.prog 93 #[.pointer (some ⟨R,0,none⟩),.int .i64 n,.int .i64 d] w (ValPost s R B base root own w X):=by
 have hn:n<s.size:=Nat.lt_of_not_le fun hle=>by rw[byteAt_ge s n (by omega)]at hb;omega
 obtain⟨c0,c1,c2,c3,fz⟩:=h.cells;have hR:=h.R_lt;have H:=Lib.hid h;have HG:=Lib.hid hg;have HV:=Lib.hid hV;have hnF:¬FV own w.heap.size:=h.not_new (Nat.le_refl _);unfold Pl.listS at hX;have w1:IntKind.i64.wrap ((n:Int)+1)=(n:Int)+1:=IntWalk.i64_in _ ⟨by omega,by omega⟩;by_cases hdp:256<d
 · rw[if_pos hdp]at hX;subst hX;have b1:decide ((256:Int)<(d:Int))=true:=by simp;omega
   clear c0 c1 c2 c3 fz h hg hV hb hdp;go_enter Tryz.func93,Tryz.ntmps93;go_wp2_with fail;exact bodyPost_ret (v := .tuple #[.int .i64 0,.int .i64 0,fv 4 n]) (by simp[results,Tryz.results93,go_sem]) rfl ⟨rfl,by omega,FV own,St.auto,H.out.rk.gr Gr.auto⟩
 rw[if_neg hdp]at hX;have b1:decide ((256:Int)<(d:Int))=false:=by simp;omega
 have HX:=Lib.hid hX;have HN:=Lib.hid hne;have hd:d≤256:=by omega
 clear c0 c1 c3 fz h hg hV hb hdp hX hne;go_enter Tryz.func93,Tryz.ntmps93;go_wp2_with fail;refine (tv_Gap' s _ (n+1) (by simp) (by omega) hs _).mono ?_;rintro e w1' ⟨m,c,p,rfl,hm,hgap,g1⟩;have hF1:=(FX.new w (.int .i64 0) (.int .i64 0) 31).gr g1;obtain⟨z0,hz0⟩:∃z,w1'.heap.size=z:=⟨_,rfl⟩
 have hz1:w.heap.size<z0:=by have:=g1.size;simp at this;omega
 have HF2:=Lib.hid (hF1.set (.int .i64 c) (.int .i64 p));have HG1:=Lib.hid (Gr.trans ((Gr.refl w).alloc (.cells #[.int .i64 0,.int .i64 0] 31)) g1);have HZ:=Lib.hid hz0;have HGAP:=Lib.hid hgap;obtain⟨f1,f2,f3,f4⟩:=hF1;clear g1 hz0 hgap;go_wp2_with fail;obtain⟨Y,hY⟩:∃Y,(match Pl.gapAt (bs s) (n+1) with
  | .bad c p => .bad c p
  | .ok g=>Pl.listF V (bs s) d ((bs s).length+2) g [] (L.map (·.nd)):Pl.Res (List Nat × Nat × Pl.Nds))=Y:=⟨_,rfl⟩
 have hXY:Pl.listEnd n Y=X:=by
  rw[←hY,←HX.out];cases Pl.gapAt (bs s) (n+1) <;> rfl
 have HXY:=Lib.hid hXY;have HYN:Hid (Y ≠ .non):=by
  intro e;rw[e]at hXY;exact HN.out hXY.symm
 have hst1:St (FV own) (FV own) w ((w1'.setCell ⟨w.heap.size,0,none⟩ (.int .i64 c)).setCell ⟨w.heap.size,1,none⟩ (.int .i64 p)):=(HG1.out.st.setCell (.inr (Nat.le_refl _)) _).setCell (.inr (Nat.le_refl _)) _;have HST1:=Lib.hid hst1;have HY:=Lib.hid hY;clear hXY hY hst1 f1 f2 f3 f4
 go_loopg [7,9] ((bs s).length+2) (fun k v7 v9 wr=>ListI s R B base root V d own w z0 w.heap.size Y k v7 v9 wr)
 case atStart =>
  have hY:=HY.out;rcases HGAP.out with⟨hgp,rfl,rfl⟩|⟨hgp,hc⟩
  · rw[hgp]at hY;refine .inl ⟨m,[],nv,L,own,none,0,rfl,rfl,hm,?_,hY,HF2.out,?_,HST1.out,fun k hk => .inl hk,by simp;exact Nat.le_of_eq HZ.out.symm,nilRow _ _ _ _,fun b e=>by simp[Value.ownBlock]at e⟩
    · exact ((H.out.gr HG1.out).setCell hnF _).setCell hnF _
    exact HG.out.st HST1.out (fun k hk=>(H.out.lt k hk).1)
  rw[hgp]at hY;exact .inr ⟨m,c,p,FV own,rfl,hc,hY.symm,HF2.out,HST1.out,(((H.out.gr HG1.out).setCell hnF _).setCell hnF _).rk⟩
 case round =>
  rcases hrel with⟨m2,subs,nv2,L2,own2,ua,uc,rfl,rfl,hm2,hr,hlf,hfx,hgw,hst,hown,hzr,hrow,hblk⟩|⟨m2,c2,p2,F2,rfl,hc2,hYb,hfx,hst,hrk⟩
  · -- the fault is none
    obtain⟨gk,rfl⟩:∃f,gk=f+1:=by
     cases gk with
     | zero=>exact absurd hlf.symm HYN.out
     | succ f=>exact⟨f,rfl⟩
    rw[Pl.listF]at hlf;obtain⟨v0,v1,vf,vl⟩:=hfx;have HFX:=Lib.hid (show FX w.heap.size (.int .i64 0) (.int .i64 0) wr from ⟨v0,v1,vf,vl⟩);have HR2:=Lib.hid hr;have HLF:=Lib.hid hlf;have HGW:=Lib.hid hgw;have HST2:=Lib.hid hst;have HOWN2:=Lib.hid hown;have HZR:=Lib.hid hzr;have HROW2:=Lib.hid hrow;have HBLK:=Lib.hid hblk;have HZB:=Lib.hid hz1;clear hr hlf hgw hst hown hzr hrow hblk hz1;go_wp2_with fail;refine Z155 ?_;intro w3 g3;have HFX3:=Lib.hid (HFX.out.gr g3);have HR3:=Lib.hid (HR2.out.gr g3);have HGW3:=Lib.hid (HGW.out.gr g3);have HST3:=Lib.hid (HST2.out.gr g3);have HZ3:=Lib.hid (Nat.le_trans HZR.out g3.size);have HROW3:=Lib.hid (ownsRow_of_block HROW2.out (fun k e=>g3.block (HROW2.out.lt k e).2));clear g3 v0 v1 vf vl HFX HR2 HGW HST2 HZR HROW2;obtain⟨jv0,jv1,jv2,jv3,jvf⟩:=HR3.out.cells;go_wp2_with fail;refine (tv_byte w3 R s jv2 m2 m2 rfl).mono ?_;refine Z48 ?_;have hlf:=HLF.out;by_cases hb:Pl.byteAt (bs s) m2=93
    · rw[if_pos hb]at hlf;have hb1:(((Pl.byteAt (bs s) m2:Nat):Int) != 93)=false:=by simp;omega
      have HGS:Hid (m2<s.size):=Nat.lt_of_not_le fun hle=>by rw[byteAt_ge s m2 (by omega)]at hb;omega
      have hXX:=HXY.out;rw[←hlf]at hXX;simp only[Pl.listEnd]at hXX;cases hrm:Pl.room (L2.map (·.nd)) with
      | false=>rw[hrm,if_neg (by simp)]at hXX;exact absurd hXX.symm HN.out
      | true =>
      rw[hrm,if_pos rfl]at hXX;have HXX:=Lib.hid hXX;have HRM:=Lib.hid hrm;have HFS:=HFX3;have HRS:=HR3;have HSTS:=HST3;have HOWNS:=HOWN2;have HZS:=HZ3;have HROW:=HROW3;clear hXX hrm hlf hb jv0 jv1 jv2 jv3 jvf;obtain⟨p0,p1,pf,pl⟩:=HFS.out;go_wp2_with fail;refine Z155 ?_;intro w9 g9;refine Z244 ?_;intro HFS9 HRS9 HST9 HROW9 hz9;clear g9 p0 p1 pf pl;have hwg:IntKind.i64.wrap ((m2:Int)+1)=(m2:Int)+1:=IntWalk.i64_in _ ⟨by have:=HGS.out;omega,by have:=HGS.out;omega⟩;go_wp2_with fail;refine Z239 ?_;intro hS;refine Z57 ?_;refine Z42 ?_;refine Z199 ?_;refine Z48 ?_;refine Z58 ?_;refine Reg.ty 6 ?_;refine Reg.on 7 ?_;go_simp;refine (list_node w9.drew R B base s root _ _ _ HRS9.out.drew HRM.out (Value.slice ua subs.length uc) subs (ownsRow_of_block HROW9.out (fun k e=>(Gr.refl w9).drew.block (HROW9.out.lt k e).2)) (fun b e=>(HBLK.out b e).1) n (m2+1) _ (by simp)).mono ?_;rintro e w11 ⟨rfl,nv11,own11,hr11,hst11,hown11⟩;have hnS:¬(FV own2 w.heap.size∨((Value.slice ua subs.length uc)).ownBlock=some w.heap.size):=by
       exact J40
      have hF4:=hS.st hst11 hnS;refine Z135 ?_;refine Z65 ?_;obtain⟨p0,p1,pf,pl⟩:=hF4;have hown12:∀k,own11 k≠0→own k≠0∨z0≤k:=by
       intro k hk;rcases hown11 k hk with e|e|e
       · exact HOWNS.out k e
       · exact .inr (HBLK.out k e).2
       exact .inr (Nat.le_trans hz9 (by simpa using e))
      have hn11:¬FV own11 w.heap.size:=by
       intro hf;rcases hown12 _ hf with e|e
       · exact hnF e
       have:=HZB.out;omega
      have hst12:St (FV own) (FV own11) w w11:=(((HST9.out.drew).to (fun i hi=>by
       rcases hi with hi|hi
       · exact HST9.out.own i hi
       exact .inr (by have:=(HBLK.out i hi).2;have:=HZB.out;omega))).trans hst11)
      have H11:=Lib.hid hr11;have HST12:=Lib.hid hst12;have HOWN12:=Lib.hid hown12;clear hr11 hst12 hown12 hst11 hown11 hnS;refine Reg.on 12 ?_;go_simp;refine Z12 ?_;go_wp2_with fail;refine bodyPost_ret (v := .tuple #[.int .i64 (L2).length,.int .i64 (m2+1:Nat),f0]) (by simp[results,Tryz.results93,go_sem,p0,p1,pf,pl]) rfl ?_;exact J147
    rw[if_neg hb]at hlf;have hb1:(((Pl.byteAt (bs s) m2:Nat):Int) != 93)=true:=by simp;omega
    obtain⟨q0,q1,qf,ql⟩:=HFX3.out;refine Z153 ?_;intro wd;have HLF4:=Lib.hid hlf;clear hlf hb HLF;go_wp2_with fail;have hlf:=HLF4.out;cases hZ:V (d+1) m2 (L2.map (·.nd)) with
    | non=>rw[hZ]at hlf;exact absurd hlf.symm HYN.out
    | bad c p =>
     rw[hZ]at hlf;simp only at hlf;refine Z214 ?_;refine Z120 ?_;intro w5 hc F5 hst5 HRK5;have hnF5:¬FV own2 w.heap.size:=fun hf=>by
      rcases HOWN2.out _ hf with e|e
      · exact hnF e
      have:=HZB.out;omega
     have hfx5:=HFX3.out.st hst5 hnF5;have HFX:=Lib.hid (hfx5.set (.int .i64 c) (.int .i64 p));have HSTX:=Lib.hid ((((HST3.out.trans hst5).setCell (p:=⟨w.heap.size,0,none⟩) (.inr (Nat.le_refl _)) (.int .i64 c)).setCell (p:=⟨w.heap.size,1,none⟩) (.inr (Nat.le_refl _)) (.int .i64 p)));have HXX:Hid (Pl.Res.bad c p=X):=by
      exact J39
     have HC:=Lib.hid hc;have HC2:=Lib.hid hc;obtain⟨a0,a1,af,al⟩:=hfx5;have hc':¬(c:Int)=0:=by omega
     clear hlf hst5 hZ hc q0 q1 qf ql jv0 jv1 jv2 jv3 jvf;go_wp2_with fail;refine Z231 ?_;intro w6 g6;have HFX':=Lib.hid (HFX.out.gr g6);have HSTX':=Lib.hid (HSTX.out.gr g6);have HRKX:=Lib.hid (HRK5.out.gr g6);clear HFX HSTX g6 a0 a1 af al;have HFX:=HFX';have HSTX:=HSTX';have hcc':¬(c:Int)=0:=by have:=HC.out;omega
     clear HC;obtain⟨p0,p1,pf,pl⟩:=HFX.out;go_wp2_with fail;refine (tv_fine_no c p hcc' _).mono ?_;rintro e w9 ⟨rfl,g9⟩;obtain⟨u0,u1,uf,ul⟩:=HFX.out.gr g9;have hst9:=HSTX.out.gr g9;have hrk9:=HRKX.out.gr g9;clear g9 p0 p1 pf pl;go_wp2_with fail
     go_region
     all_goals go_wp2_with fail
     rw[←HXX.out];exact bodyPost_ret (v := .tuple #[.int .i64 0,.int .i64 0,fv c p]) (by simp[results,Tryz.results93,go_sem,u0,u1,uf,ul]) rfl ⟨rfl,HC2.out,_,((hst9.setCell (.inr (Nat.le_refl _)) _).setCell (.inr (Nat.le_refl _)) _).drew,((hrk9.set (by omega) _).set (by omega) _).drew⟩
    | ok r =>
     obtain⟨iv,n2,st2⟩:=r;rw[hZ]at hlf;simp only at hlf;have hsl:subs.length≤30000000:=by
      by_cases hle:30000000<subs.length
      · rw[if_pos hle]at hlf;exact absurd hlf.symm HYN.out
      omega
     rw[if_neg (by omega)]at hlf;refine Z214 ?_;rintro e w5 ⟨rfl,hn2,hiv,nv5,L5,own5,hr5,rfl,hst5,hown5⟩;have hnF5:¬FV own2 w.heap.size:=fun hf=>by
      rcases HOWN2.out _ hf with e|e
      · exact hnF e
      have:=HZB.out;omega
     have hfx5:=HFX3.out.st hst5 hnF5;have HFX5:=Lib.hid (hfx5.set (.int .i64 0) (.int .i64 0));have HOWN5:Hid (∀k,own5 k≠0→own k≠0∨z0≤k):=fun k hk=>by
      rcases hown5 k hk with e|e
      · exact HOWN2.out k e
      exact .inr (Nat.le_trans HZ3.out e)
     have hn5:¬FV own5 w.heap.size:=fun hf=>by
      rcases HOWN5.out _ hf with e|e
      · exact hnF e
      have:=HZB.out;omega
     refine Z78 ?_;intro HR5 HST5;have HBLK5:Hid (∀b,(Value.slice ua subs.length uc).ownBlock=some b→own5 b=0∧z0≤b):=fun b e=>by
      refine⟨?_,(HBLK.out b e).2⟩;by_cases h0:own5 b=0
      · exact h0
      rcases hown5 b h0 with e2|e2
      · exact absurd (HBLK.out b e).1 e2
      have:=(HROW3.out.lt b e).2;omega
     have HROW5:Hid (((w5.setCell ⟨w.heap.size,0,none⟩ (.int .i64 0)).setCell ⟨w.heap.size,1,none⟩ (.int .i64 0)).ownsRow base 3 1 (.slice ua subs.length uc) subs.length (subsV subs)) :=
      ownsRow_setCell_ne (ownsRow_setCell_ne (ownsRow_of_block HROW3.out (fun k e=>hst5.block k (HROW3.out.lt k e).2 (fun hf=>hf (HBLK.out k e).1))) (fun k e=>by have:=(HBLK.out k e).2;have:=HZB.out;show k≠w.heap.size;omega) _) (fun k e=>by have:=(HBLK.out k e).2;have:=HZB.out;show k≠w.heap.size;omega) _
     obtain⟨a0,a1,af,al⟩:=hfx5;have hz5:z0≤w5.heap.size:=Nat.le_trans HZ3.out hst5.size;have HLF5:=Lib.hid hlf;have HSL:=Lib.hid hsl;obtain⟨iU,u1,u2,u3,u4⟩:=info_parts infoInt;have HIU:=Lib.hid (And.intro u1 (And.intro u2 (And.intro u3 u4)));clear hlf hst5 hZ q0 q1 qf ql jv0 jv1 jv2 jv3 jvf hr5 hown5 u1 u2 u3 u4 HFX3 HR3 HGW3 HST3 HROW3 HLF4 hsl;go_wp2_with fail;refine Z155 ?_;intro w6 g6;have hz6:z0≤w6.heap.size:=by have:=g6.size;simp[World.setCell]at this;omega
     have HFX6:=Lib.hid (HFX5.out.gr g6);have HR6:=Lib.hid (HR5.out.gr g6);have HST6:=Lib.hid (HST5.out.gr g6);have HROW6:=Lib.hid (ownsRow_of_block HROW5.out (fun k e=>g6.block (HROW5.out.lt k e).2));have HN6:Hid (∀j u,[Value.int .i64 iv][j]?=some u→(w6.alloc (.cells #[.int .i64 iv] 3)).cell? ((⟨w6.heap.size,0,none⟩:Addr).add j)=some u):=fun j u hu=>by
      have:=cell_one_new w6 (.int .i64 iv) 3 j u hu;exact this
     have hb6:base≤w6.heap.size:=by have h1:=HR6.out.R_lt;omega
     clear g6 a0 a1 af al HFX5 HR5 HST5 HROW5;obtain⟨uv,huv⟩:∃v,Value.slice ua subs.length uc=v:=⟨_,rfl⟩
     rw[huv]at HROW6 HBLK5 ⊢;clear HBLK huv;have HAFT:Hid (∀w7 gb cap,(w6.alloc (.cells #[.int .i64 iv] 3)).grownBy w7 uv.ownBlock→(uv.ownBlock=some gb∨gb=(w6.alloc (.cells #[.int .i64 iv] 3)).heap.size)→w7.ownsRow base 3 1 (.slice (some ⟨gb,0,none⟩) (subs.length+1) cap) (subs.length+1) (subsV subs++[.int .i64 iv]) →
         RdV w7 R B base s root nv5 L5 own5∧FX w.heap.size (.int .i64 0) (.int .i64 0) w7∧St (FV own) (FV own5) w w7∧(own5 gb=0∧z0≤gb)∧z0≤w7.heap.size∧w7.ownsRow base 3 1 (.slice (some ⟨gb,0,none⟩) (subs.length+1) cap) (subs++[iv]).length (subsV (subs++[iv]))):=by
      intro w7 gb cap hg7 hl7 hrow7;have hstA:St (fun k=>uv.ownBlock=some k) (fun k=>uv.ownBlock=some k) (w6.alloc (.cells #[.int .i64 iv] 3)) w7:=(St.refl _ _).grown hg7 (fun k e => .inl e);have hrA:=HR6.out.alloc (.cells #[.int .i64 iv] 3);refine⟨hrA.kept (fun k hk=>hstA.block k (hrA.lt k hk).2 (fun e=>hk (HBLK5.out k e).1)) hstA.size,(HFX6.out.gr ((Gr.refl _).alloc _)).st hstA (fun e=>by have:=(HBLK5.out _ e).2;have:=HZB.out;omega),(HST6.out.alloc _).grown hg7 (fun k e => .inr (by have:=(HBLK5.out k e).2;have:=HZB.out;omega)),?_,?_,by simpa [subsV]using hrow7⟩
      · rcases hl7 with e|e
        · exact HBLK5.out gb e
        refine⟨?_,by rw[e];simp;omega⟩;by_cases h0:own5 gb=0
        · exact h0
        have:=(hrA.lt gb h0).2;omega
      have:=hstA.size;simp at this;omega
     go_wp2_with (at_builtin;refine wpList_append_lies _ rfl (.tmp 45) (.tmp 47) 51 rfl base 3 iU _ 1 8 Tryz.underlying51 HIU.out.1 HIU.out.2.1 HIU.out.2.2.1 HIU.out.2.2.2 rfl (by decide) uv subs.length (subsV subs) rfl (HROW6.out.alloc _) ⟨w6.heap.size,0,none⟩ 1 1 [.int .i64 iv] rfl (by simp) HN6.out (by simp[Value.oneCell']) (by decide) (by have:=HSL.out;unfold maxLen;omega) (by have:=HSL.out;omega) (by simp;omega) _ rfl ?_;intro gb cap w7 hown7 hg7 hl7 hz7;have HA7:=Lib.hid (HAFT.out w7 gb cap hg7 hl7 hown7);clear hown7 hg7 hl7 hz7;have hk2:=HA7.out.1.cells.2.2.1;obtain⟨p0,p1,pf,pl⟩:=HA7.out.2.1);refine (tv_Gap' s _ n2 rfl hn2 hs _).mono ?_;rintro e w8 ⟨m8,c8,p8,rfl,hm8,hgap8,g8⟩;have hn5':∀o,¬FV own5 (⟨w.heap.size,o,none⟩:Addr).block:=fun _=>hn5
     obtain⟨a0,a1,af,al⟩:=HA7.out.2.1.gr g8;have HFX8:=Lib.hid ((HA7.out.2.1.gr g8).set (.int .i64 c8) (.int .i64 p8));have HR8:=Lib.hid (((HA7.out.1.gr g8).setCell (p:=⟨w.heap.size,0,none⟩) hn5 (.int .i64 c8)).setCell (p:=⟨w.heap.size,1,none⟩) hn5 (.int .i64 p8));have HST8:=Lib.hid (((HA7.out.2.2.1.gr g8).setCell (p:=⟨w.heap.size,0,none⟩) (.inr (Nat.le_refl _)) (.int .i64 c8)).setCell (p:=⟨w.heap.size,1,none⟩) (.inr (Nat.le_refl _)) (.int .i64 p8));have HBLK8:Hid (∀b,(Value.slice (some ⟨gb,0,none⟩) (subs.length+1) cap).ownBlock=some b→own5 b=0∧z0≤b):=fun b e=>by
      simp[Value.ownBlock]at e;subst e;exact HA7.out.2.2.2.1
     have hgbn:gb≠w.heap.size:=by have:=HA7.out.2.2.2.1.2;have:=HZB.out;omega
     have HROW8:Hid (((w8.setCell ⟨w.heap.size,0,none⟩ (.int .i64 c8)).setCell ⟨w.heap.size,1,none⟩ (.int .i64 p8)).ownsRow base 3 1 (.slice (some ⟨gb,0,none⟩) (subs.length+1) cap) (subs++[iv]).length (subsV (subs++[iv]))) :=
      ownsRow_setCell_ne (ownsRow_setCell_ne (ownsRow_of_block HA7.out.2.2.2.2.2 (fun k e=>g8.block (HA7.out.2.2.2.2.2.lt k e).2)) (fun k e=>by simp[Value.ownBlock]at e;subst e;exact hgbn) _) (fun k e=>by simp[Value.ownBlock]at e;subst e;exact hgbn) _
     have hz8:z0≤w8.heap.size:=Nat.le_trans HA7.out.2.2.2.2.1 g8.size;have hlf:=HLF5.out;clear p0 p1 pf pl hk2 HAFT HROW6 HR6 HFX6 HST6 HBLK5 HN6 HIU g8;rcases hgap8 with⟨hgp,rfl,rfl⟩|⟨hgp,hc8⟩
     · rw[hgp]at hlf;simp only at hlf;have HLF8:=Lib.hid hlf;clear hlf hgp;go_wp2_with fail;refine Z155 ?_;intro w9' g9';have HFX9:=Lib.hid (HFX8.out.gr g9');have HR9:=Lib.hid (HR8.out.gr g9');have HST9':=Lib.hid (HST8.out.gr g9');have HROW9':=Lib.hid (ownsRow_of_block HROW8.out (fun k e=>g9'.block (HROW8.out.lt k e).2));have hz9':z0≤w9'.heap.size:=by have:=g9'.size;simp[World.setCell]at this;omega
       have jv2:=HR9.out.cells.2.2.1;clear g9' HFX8 HR8 HST8 HROW8 a0 a1 af al;go_wp2_with fail;refine (tv_byte w9' R s jv2 m8 m8 rfl).mono ?_;refine Z48 ?_;have hlf:=HLF8.out;by_cases hb:Pl.byteAt (bs s) m8=93
       · rw[if_pos hb]at hlf;have hb1:(((Pl.byteAt (bs s) m8:Nat):Int)==93)=true:=by simp;omega
         have HGS:Hid (m8<s.size):=Nat.lt_of_not_le fun hle=>by rw[byteAt_ge s m8 (by omega)]at hb;omega
         have hXX:=HXY.out;rw[←hlf]at hXX;simp only[Pl.listEnd]at hXX;cases hrm:Pl.room (L5.map (·.nd)) with
         | false=>rw[hrm,if_neg (by simp)]at hXX;exact absurd hXX.symm HN.out
         | true =>
         rw[hrm,if_pos rfl]at hXX;have HXX:=Lib.hid hXX;have HRM:=Lib.hid hrm;have HFS:=HFX9;have HRS:=HR9;have HSTS:=HST9';have HOWNS:=HOWN5;have HZS:=Lib.hid hz9';have HROW:=HROW9';have HBLK:=HBLK8;clear hXX hrm hlf hb jv2;obtain⟨p0,p1,pf,pl⟩:=HFS.out;go_wp2_with fail;refine Z155 ?_;intro w9 g9;refine Z244 ?_;intro HFS9 HRS9 HST9 HROW9 hz9;clear g9 p0 p1 pf pl;have hwg:IntKind.i64.wrap ((m8:Int)+1)=(m8:Int)+1:=IntWalk.i64_in _ ⟨by have:=HGS.out;omega,by have:=HGS.out;omega⟩;go_wp2_with fail;refine Z239 ?_;intro hS;refine Z57 ?_;refine Z42 ?_;refine Z199 ?_;refine Z48 ?_;refine Z58 ?_;refine Reg.ty 6 ?_;refine Reg.on 7 ?_;go_simp;refine (list_node w9.drew R B base s root _ _ _ HRS9.out.drew HRM.out (Value.slice (some ⟨gb,0,none⟩) (subs.length+1) cap) (subs++[iv]) (ownsRow_of_block HROW9.out (fun k e=>(Gr.refl w9).drew.block (HROW9.out.lt k e).2)) (fun b e=>(HBLK.out b e).1) n (m8+1) _ (by simp)).mono ?_;rintro e w11 ⟨rfl,nv11,own11,hr11,hst11,hown11⟩;have hnS:¬(FV own5 w.heap.size∨((Value.slice (some ⟨gb,0,none⟩) (subs.length+1) cap)).ownBlock=some w.heap.size):=by
          exact J40
         have hF4:=hS.st hst11 hnS;refine Z135 ?_;refine Z65 ?_;obtain⟨p0,p1,pf,pl⟩:=hF4;have hown12:∀k,own11 k≠0→own k≠0∨z0≤k:=by
          intro k hk;rcases hown11 k hk with e|e|e
          · exact HOWNS.out k e
          · exact .inr (HBLK.out k e).2
          exact .inr (Nat.le_trans hz9 (by simpa using e))
         have hn11:¬FV own11 w.heap.size:=by
          intro hf;rcases hown12 _ hf with e|e
          · exact hnF e
          have:=HZB.out;omega
         have hst12:St (FV own) (FV own11) w w11:=(((HST9.out.drew).to (fun i hi=>by
          rcases hi with hi|hi
          · exact HST9.out.own i hi
          exact .inr (by have:=(HBLK.out i hi).2;have:=HZB.out;omega))).trans hst11)
         have H11:=Lib.hid hr11;have HST12:=Lib.hid hst12;have HOWN12:=Lib.hid hown12;clear hr11 hst12 hown12 hst11 hown11 hnS;refine Reg.on 12 ?_;go_simp;refine Z12 ?_;go_wp2_with fail;refine bodyPost_ret (v := .tuple #[.int .i64 (L5).length,.int .i64 (m8+1:Nat),f0]) (by simp[results,Tryz.results93,go_sem,p0,p1,pf,pl]) rfl ?_;exact J147
       rw[if_neg hb]at hlf;have hb1:(((Pl.byteAt (bs s) m8:Nat):Int)==93)=false:=by simp;omega
       obtain⟨q0,q1,qf,ql⟩:=HFX9.out;by_cases hb4:Pl.byteAt (bs s) m8=44
       · rw[if_pos hb4]at hlf;have hb2:(((Pl.byteAt (bs s) m8:Nat):Int) != 44)=false:=by simp;omega
         have hm8s:m8<s.size:=Nat.lt_of_not_le fun hle=>by rw[byteAt_ge s m8 (by omega)]at hb4;omega
         have w8w:IntKind.i64.wrap ((m8:Int)+1)=(m8:Int)+1:=IntWalk.i64_in _ ⟨by omega,by omega⟩;have HLF9:=Lib.hid hlf;clear hlf hb hb4;go_wp2_with fail;refine (tv_byte w9' R s jv2 m8 m8 rfl).mono ?_;refine Z48 ?_;go_wp2_with fail;refine (tv_Gap' s _ (m8+1) (by simp) (by omega) hs _).mono ?_;rintro e w12 ⟨m9,c9,p9,rfl,hm9,hgap9,g12⟩;have HGAP9:=Lib.hid hgap9;have HFX12:=Lib.hid ((HFX9.out.gr g12).set (.int .i64 c9) (.int .i64 p9));have HR12:=Lib.hid (((HR9.out.gr g12).setCell (p:=⟨w.heap.size,0,none⟩) hn5 (.int .i64 c9)).setCell (p:=⟨w.heap.size,1,none⟩) hn5 (.int .i64 p9));have HST12':=Lib.hid (((HST9'.out.gr g12).setCell (p:=⟨w.heap.size,0,none⟩) (.inr (Nat.le_refl _)) (.int .i64 c9)).setCell (p:=⟨w.heap.size,1,none⟩) (.inr (Nat.le_refl _)) (.int .i64 p9));have HROW12:Hid (((w12.setCell ⟨w.heap.size,0,none⟩ (.int .i64 c9)).setCell ⟨w.heap.size,1,none⟩ (.int .i64 p9)).ownsRow base 3 1 (.slice (some ⟨gb,0,none⟩) (subs.length+1) cap) (subs++[iv]).length (subsV (subs++[iv]))) :=
          ownsRow_setCell_ne (ownsRow_setCell_ne (ownsRow_of_block HROW9'.out (fun k e=>g12.block (HROW9'.out.lt k e).2)) (fun k e=>by simp[Value.ownBlock]at e;subst e;exact hgbn) _) (fun k e=>by simp[Value.ownBlock]at e;subst e;exact hgbn) _
         have hz12:z0≤w12.heap.size:=Nat.le_trans hz9' g12.size;obtain⟨r0,r1,rf,rl⟩:=HFX9.out.gr g12;clear q0 q1 qf ql hgap9 g12 jv2;go_wp2_with fail
         go_roundg gk
         case measure=>omega
         case rel =>
          have hlf:=HLF9.out;rcases HGAP9.out with⟨hgp,rfl,rfl⟩|⟨hgp,hc⟩
          · rw[hgp]at hlf;simp only at hlf;refine .inl ⟨m9,subs++[iv],nv5,L5,own5,some ⟨gb,0,none⟩,cap,rfl,by simp,hm9,HR12.out,hlf,HFX12.out,HG.out.st HST12'.out (fun k hk=>(H.out.lt k hk).1),HST12'.out,HOWN5.out,by simp[World.setCell];exact hz12,?_,?_⟩
            · simpa using HROW12.out
            intro b e;exact HBLK8.out b (by simpa [Value.ownBlock]using e)
          rw[hgp]at hlf;exact .inr ⟨m9,c9,p9,FV own5,rfl,hc,hlf.symm,HFX12.out,HST12'.out,HR12.out.rk⟩
       rw[if_neg hb4]at hlf;have hb2:(((Pl.byteAt (bs s) m8:Nat):Int) != 44)=true:=by simp;omega
       have HXX:Hid (Pl.Res.bad 3 m8=X):=by
        exact J39
       clear hlf hb hb4;go_wp2_with fail;refine (tv_byte w9' R s jv2 m8 m8 rfl).mono ?_;refine Z48 ?_;go_wp2_with fail;refine (tv_wrong m8 m8 rfl _).mono ?_;rintro e w12 ⟨rfl,g12⟩;obtain⟨u0,u1,uf,ul⟩:=HFX9.out.gr g12;have hst12:=HST9'.out.gr g12;clear q0 q1 qf ql jv2;go_wp2_with fail;rw[←HXX.out];exact bodyPost_ret (v := .tuple #[.int .i64 0,.int .i64 0,fv 3 m8]) (by simp[results,Tryz.results93,go_sem,u0,u1,uf,ul]) rfl ⟨rfl,by omega,_,(hst12.setCell (.inr (Nat.le_refl _)) _).setCell (.inr (Nat.le_refl _)) _,((HR9.out.rk.gr g12).set (by omega) _).set (by omega) _⟩
     rw[hgp]at hlf;simp only at hlf;have HXX:Hid (Pl.Res.bad c8 p8=X):=by
      exact J39
     have HC:=Lib.hid hc8;have HC2:=Lib.hid hc8;have hc':¬(c8:Int)=0:=by omega
     clear hlf hgp hc8;go_wp2_with fail;refine (tv_fine_no c8 p8 hc' _).mono ?_;rintro e w9' ⟨rfl,g9'⟩;have HFX:=Lib.hid (HFX8.out.gr g9');have HSTX:=Lib.hid (HST8.out.gr g9');have HRKX:=Lib.hid (HR8.out.rk.gr g9');clear HFX8 HST8 g9' a0 a1 af al HR8 HROW8;have hcc':¬(c8:Int)=0:=by have:=HC.out;omega
     clear HC;obtain⟨p0,p1,pf,pl⟩:=HFX.out;go_wp2_with fail;refine (tv_fine_no c8 p8 hcc' _).mono ?_;rintro e w9 ⟨rfl,g9⟩;obtain⟨u0,u1,uf,ul⟩:=HFX.out.gr g9;have hst9:=HSTX.out.gr g9;have hrk9:=HRKX.out.gr g9;clear g9 p0 p1 pf pl;go_wp2_with fail
     go_region
     all_goals go_wp2_with fail
     rw[←HXX.out];exact bodyPost_ret (v := .tuple #[.int .i64 0,.int .i64 0,fv c8 p8]) (by simp[results,Tryz.results93,go_sem,u0,u1,uf,ul]) rfl ⟨rfl,HC2.out,_,((hst9.setCell (.inr (Nat.le_refl _)) _).setCell (.inr (Nat.le_refl _)) _).drew,((hrk9.set (by omega) _).set (by omega) _).drew⟩
  -- a fault
  obtain⟨p0,p1,pf,pl⟩:=hfx;have HFX0:=Lib.hid (show FX w.heap.size (.int .i64 c2) (.int .i64 p2) wr from ⟨p0,p1,pf,pl⟩);have HST0:=Lib.hid hst;have HRK0:=Lib.hid hrk;have HXX:Hid (Pl.Res.bad c2 p2=X):=by
   have:=HXY.out;rw[hYb]at this;exact this
  have HC:=Lib.hid hc2;have HC2:=Lib.hid hc2;have hc':¬(c2:Int)=0:=by omega
  clear hst hYb hc2 hrk;go_wp2_with fail;refine (tv_fine_no c2 p2 hc' _).mono ?_;rintro e w6 ⟨rfl,g6⟩;have HFX:=Lib.hid (HFX0.out.gr g6);have HSTX:=Lib.hid (HST0.out.gr g6);have HRKX:=Lib.hid (HRK0.out.gr g6);clear HFX0 HST0 HRK0 g6 p0 p1 pf pl;have hcc':¬(c2:Int)=0:=by have:=HC.out;omega
  clear HC;obtain⟨p0,p1,pf,pl⟩:=HFX.out;go_wp2_with fail;refine (tv_fine_no c2 p2 hcc' _).mono ?_;rintro e w9 ⟨rfl,g9⟩;obtain⟨u0,u1,uf,ul⟩:=HFX.out.gr g9;have hst9:=HSTX.out.gr g9;have hrk9:=HRKX.out.gr g9;clear g9 p0 p1 pf pl;go_wp2_with fail
  go_region
  all_goals go_wp2_with fail
  rw[←HXX.out];exact bodyPost_ret (v := .tuple #[.int .i64 0,.int .i64 0,fv c2 p2]) (by simp[results,Tryz.results93,go_sem,u0,u1,uf,ul]) rfl ⟨rfl,HC2.out,_,((hst9.setCell (.inr (Nat.le_refl _)) _).setCell (.inr (Nat.le_refl _)) _).drew,((hrk9.set (by omega) _).set (by omega) _).drew⟩
end Go.Proofs.YtfogfaagjpebcaaGreatDoor
namespace Go.Proofs.YtfogfaagjpebcaaGreatDoor
open Go.RowKit Go.Shelf Go.Joins
attribute [local go_sem] Oper.semAt_some
variable {Tb:Nat→UInt8 × UInt8}
def spanR (r:NdR) (a b:Int):NdR:=⟨{ r.nd with sp:=(a,b) },r.kv,r.sv,r.uv⟩
theorem RdV.span {W:World} {R B base:Nat} {s:ByteArray} {root:Int} {L:List NdR} {own:Nat→Nat} {g cap:Nat} (h:RdV W R B base s root (.slice (some ⟨g,0,none⟩) L.length cap) L own) (i:Nat) (r:NdR) (hr:L[i]?=some r) (a b:Int) :
    RdV ((W.setCell ⟨g,i*7+5,none⟩ (.int .i64 a)).setCell ⟨g,i*7+6,none⟩ (.int .i64 b)) R B base s root (.slice (some ⟨g,0,none⟩) L.length cap) (L.set i (spanR r a b)) own ∧
    St (FV own) (FV own) W ((W.setCell ⟨g,i*7+5,none⟩ (.int .i64 a)).setCell ⟨g,i*7+6,none⟩ (.int .i64 b)):=by
 have hi:i<L.length:=(List.getElem?_eq_some_iff.1 hr).1;have hgo:own g=3:=h.oN g rfl;have hgF:FV own g:=by unfold FV;omega
 have hst:St (FV own) (FV own) W ((W.setCell ⟨g,i*7+5,none⟩ (.int .i64 a)).setCell ⟨g,i*7+6,none⟩ (.int .i64 b)):=((St.refl _ W).setCell (p:=⟨g,i*7+5,none⟩) (.inl hgF) _).setCell (p:=⟨g,i*7+6,none⟩) (.inl hgF) _;refine⟨?_,hst⟩;obtain⟨WF,hWF⟩:∃WF,(W.setCell ⟨g,i*7+5,none⟩ (.int .i64 a)).setCell ⟨g,i*7+6,none⟩ (.int .i64 b)=WF:=⟨_,rfl⟩
 have hsz:WF.heap.size=W.heap.size:=by subst hWF;simp[World.setCell]
 have hbl:∀k,k≠g→WF.heap[k]?=W.heap[k]?:=by
  intro k hk;subst hWF;rw[Below.heap_setCell _ _ _ _ hk,Below.heap_setCell _ _ _ _ hk]
 have hlen:(ndsV L).length=L.length*7:=ndsV_length L;have hnF:WF.ownsRow base 91 7 (.slice (some ⟨g,0,none⟩) L.length cap) L.length (ndsV (L.set i (spanR r a b))):=by
  subst hWF;have e1:=ownsRow_set h.nodes (i*7+5) (by omega) (.int .i64 a);have e2:=ownsRow_set e1 (i*7+6) (by rw[List.length_set];omega) (.int .i64 b);have f1:=ndsV_set L i 5 (by omega) (.int .i64 a) r (spanR r a r.nd.sp.2) hr rfl;have f2:=ndsV_set (L.set i (spanR r a r.nd.sp.2)) i 6 (by omega) (.int .i64 b) (spanR r a r.nd.sp.2) (spanR r a b) (by simp[hi]) rfl;rw[f1,f2]at e2
  simpa using e2
 rw[hWF];have ne:∀k t,own k=t→t≠3→k≠g:=fun k t e h3 e2=>by subst e2;omega
 obtain⟨D,h1,h2,h3,h4⟩:=h.map;refine⟨by rw[hbl R (ne R 1 h.oR (by omega))];exact h.blk,h.oR,h.oB,by rw[List.length_set];exact hnF,h.oN,?_,?_,fun k hk=>by rw[hsz];exact h.lt k hk⟩
 · refine⟨D,ownsMap_of_block (by rw[cntO_same L i r (spanR r a b) hr rfl];exact h1) (hbl B (ne B 2 h.oB (by omega))),h2,by rw[List.length_set];exact h3,fun j x hx=>?_⟩;rw[List.getElem?_set]at hx
   split at hx
   · rename_i hji
     subst hji;simp only[hi,if_true,Option.some.injEq]at hx;subst hx;exact h4 i r hr
   exact h4 j x hx
 have kp:∀(j:Nat) (x:NdR),NdRows W base own j x→NdRows WF base own j x:=fun j x hx =>
  ⟨ownsRow_of_block hx.k fun k e=>hbl k (ne k _ (hx.tk k e) (by omega)),ownsRow_of_block hx.s fun k e=>hbl k (ne k _ (hx.ts k e) (by omega)),hx.u.of_block fun k e=>hbl k (ne k _ (hx.tu k e) (by omega)),fun h8=>ownsRow_of_block (hx.u8 h8) fun k e=>hbl k (ne k _ (hx.tu k e) (by omega)),hx.tk,hx.ts,hx.tu⟩
 intro j x hx;rw[List.getElem?_set]at hx
 split at hx
 · rename_i hji
   subst hji;simp only[hi,if_true,Option.some.injEq]at hx;subst hx;have:=kp i r (h.rows i r hr);exact⟨this.k,this.s,this.u,this.u8,this.tk,this.ts,this.tu⟩
 exact kp j x (h.rows j x hx)
theorem map_set_span (L:List NdR) (i:Nat) (r:NdR) (a b:Int) (hr:L[i]?=some r):(L.set i (spanR r a b)).map (·.nd)=(L.map (·.nd)).modify i fun nd=>{ nd with sp:=(a,b) }:=by
 apply List.ext_getElem?;intro j;rw[List.getElem?_map,List.getElem?_modify,List.getElem?_map,List.getElem?_set];by_cases e:i=j
 · subst e;have hil:=(List.getElem?_eq_some_iff.1 hr).1;simp[hil,hr,spanR];have:=(List.getElem?_eq_some_iff.1 hr).2;rw[this];exact⟨rfl,rfl,rfl,rfl,rfl,rfl⟩
 simp[e]
def TabI (E:Pl.Env) (s:ByteArray) (R B base:Nat) (root:Int) (V:Pl.ValF) (d T:Nat) (own:Nat→Nat) (w:World) (z0 bF:Nat) (Y:Pl.Res (Nat × Pl.Nds)) (k:Nat) (v6 v7 v9:Value) (wr:World):Prop :=
 ∃(n:Nat) (b:Bool) (nv':Value) (L':List NdR) (own':Nat→Nat),v6 = .int .i64 T∧v7 = .int .i64 n∧v9 = .bool b∧n≤s.size∧RdV wr R B base s root nv' L' own' ∧
  (if b=true∧Pl.byteAt (bs s) n=125 then Pl.Res.ok (n,L'.map (·.nd)) else Pl.tabF E V (bs s) T d k n (L'.map (·.nd)))=Y∧FX bF (.int .i64 0) (.int .i64 0) wr∧GW Tb base wr ∧
  St (FV own) (FV own') w wr∧(∀k,own' k≠0→own k≠0∨z0≤k)∧z0≤wr.heap.size
set_option maxRecDepth 100000 in
theorem tv_table (E:Pl.Env) (hE:EnvStr Tb E) (s:ByteArray) (R B base:Nat) (root:Int) (V:Pl.ValF) (hV:ValueC Tb s R B base root V) (w:World) (nv:Value) (L:List NdR) (own:Nat→Nat) (h:RdV w R B base s root nv L own) (hg:GW Tb base w) (hs:s.size≤20000000)
    (d n:Nat) (hb:Pl.byteAt (bs s) n=123) (X:Pl.Res (Nat × Nat × Pl.Nds)) (hX:Pl.tableS E V (bs s) d n (L.map (·.nd))=X) (hne:X ≠ .non) :
    Calls Tryz.prog 94 #[.pointer (some ⟨R,0,none⟩),.int .i64 n,.int .i64 d] w (ValPost s R B base root own w X):=by
 have hn:n<s.size:=Nat.lt_of_not_le fun hle=>by rw[byteAt_ge s n (by omega)]at hb;omega
 obtain⟨c0,c1,c2,c3,fz⟩:=h.cells;have hR:=h.R_lt;have H:=Lib.hid h;have HG:=Lib.hid hg;have HV:=Lib.hid hV;have hnF:¬FV own w.heap.size:=h.not_new (Nat.le_refl _);unfold Pl.tableS at hX;have w1:IntKind.i64.wrap ((n:Int)+1)=(n:Int)+1:=IntWalk.i64_in _ ⟨by omega,by omega⟩;by_cases hdp:256<d
 · rw[if_pos hdp]at hX;subst hX;have b1:decide ((256:Int)<(d:Int))=true:=by simp;omega
   clear c0 c1 c2 c3 fz h hg hV hb hdp;go_enter Tryz.func94,Tryz.ntmps94;go_wp2_with fail;exact bodyPost_ret (v := .tuple #[.int .i64 0,.int .i64 0,fv 4 n]) (by simp[results,Tryz.results94,go_sem]) rfl ⟨rfl,by omega,FV own,St.auto,H.out.rk.gr Gr.auto⟩
 rw[if_neg hdp]at hX;cases hrm:Pl.room (L.map (·.nd)) with
 | false=>rw[hrm,if_neg (by simp)]at hX;exact absurd hX.symm hne
 | true =>
 rw[hrm,if_pos rfl]at hX;simp only at hX;have b1:decide ((256:Int)<(d:Int))=false:=by simp;omega
 have hd:d≤256:=by omega
 obtain⟨T,hT⟩:∃T,L.length=T:=⟨_,rfl⟩
 have hT20:T≤20000000:=by simp[Pl.room]at hrm;omega
 obtain⟨e0,he0⟩:∃e,Pl.blanksAt (bs s) (n+1)=e:=⟨_,rfl⟩
 have he0s:e0≤s.size:=by have:=Pl.blanksAt_le (bs s) (n+1) (by rw[bs_length];omega);rw[bs_length]at this;omega
 rw[he0,List.length_map,hT]at hX;obtain⟨Y,hY⟩:∃Y,(if Pl.byteAt (bs s) e0=125 then Pl.Res.ok (e0,L.map (·.nd)++[Pl.tabNd]) else Pl.tabF E V (bs s) T d ((bs s).length+2) e0 (L.map (·.nd)++[Pl.tabNd]))=Y:=⟨_,rfl⟩
 rw[hY]at hX;have HYN:Hid (Y ≠ .non):=by
  intro e;rw[e]at hX;exact hne hX.symm
 have HX:=Lib.hid hX;have HN:=Lib.hid hne;have HRM:=Lib.hid hrm;have HTL:=Lib.hid hT;have HE0:=Lib.hid he0;have HY:=Lib.hid hY;clear c0 c1 c2 c3 fz h hg hV hb hdp hX hne hrm hT he0 hY;go_enter Tryz.func94,Tryz.ntmps94;go_wp2_with fail;refine (tab_node _ R B base s root nv L own (H.out.alloc _) HRM.out 0 0).mono ?_;rintro e w1' ⟨rfl,nv1,own1,hr1,hst1,hown1⟩;obtain⟨c0,c1,c2,c3,fz⟩:=hr1.cells;have hn1:¬FV own w.heap.size:=hnF;have hF1:=(FX.new w (.int .i64 0) (.int .i64 0) 31).st hst1 hnF;have HR1:=Lib.hid hr1;have HST1:=Lib.hid ((((St.refl (FV own) w).alloc (.cells #[.int .i64 0,.int .i64 0] 31)).trans hst1));have HOWN1:=Lib.hid hown1;have HF1:=Lib.hid hF1;have hz1:=hst1.size;simp only[World.size_alloc]at hz1;rw[HTL.out];clear hr1 hst1 hown1 hF1;go_wp2_with fail;refine (tk_Blanks s _ (n+1) (by simp) (by omega) (by omega) _).mono ?_;rintro e w2 ⟨rfl,g2⟩;rw[HE0.out];have HR2:=Lib.hid (HR1.out.gr g2);have HST2:=Lib.hid (HST1.out.gr g2);have HF2:=Lib.hid (HF1.out.gr g2);have HG2:=Lib.hid (HG.out.st HST2.out (fun k hk=>(H.out.lt k hk).1));have HOWN2:Hid (∀k,own1 k≠0→own k≠0∨w.heap.size+1≤k):=fun k hk=>(HOWN1.out k hk).imp id (fun e=>by simpa using e)
 obtain⟨z0,hz0⟩:∃z,w.heap.size+1=z:=⟨_,rfl⟩
 have HZB:Hid (w.heap.size<z0):=by show w.heap.size<z0;omega
 have HZ2:Hid (z0≤w2.heap.size):=by show z0≤w2.heap.size;have:=g2.size;omega
 rw[hz0]at HOWN2;clear g2 hz0 HR1 HST1 HOWN1 HF1 c0 c1 c2 c3 fz hz1;go_wp2_with fail
 go_loopg [6,7,9] ((bs s).length+2) (fun k v6 v7 v9 wr=>TabI E s R B base root V d T own w z0 w.heap.size Y k v6 v7 v9 wr)
 case atStart =>
  refine⟨e0,true,nv1,_,own1,rfl,rfl,rfl,he0s,HR2.out,?_,HF2.out,HG2.out,HST2.out,HOWN2.out,HZ2.out⟩;rw[←HY.out];simp[tabR,Pl.tabNd]
 case round =>
  obtain⟨m2,b,nv2,L2,own2,rfl,rfl,rfl,hm2,hr,htf,hfx,hgw,hst,hown,hzr⟩:=hrel;obtain⟨v0,v1,vf,vl⟩:=hfx;obtain⟨jv0,jv1,jv2,jv3,jvf⟩:=hr.cells;have HFX:=Lib.hid (show FX w.heap.size (.int .i64 0) (.int .i64 0) wr from ⟨v0,v1,vf,vl⟩);have HR3:=Lib.hid hr;have HTF:=Lib.hid htf;have HGW:=Lib.hid hgw;have HST3:=Lib.hid hst;have HOWN3:=Lib.hid hown;have HZR:=Lib.hid hzr;clear hr htf hgw hst hown hzr v0 v1 vf vl;by_cases hend:b=true∧Pl.byteAt (bs s) m2=125
  · have htf:=HTF.out;rw[if_pos hend]at htf;obtain⟨rfl,hb⟩:=hend;have hb1:(((Pl.byteAt (bs s) m2:Nat):Int) != 125)=false:=by simp;omega
    have HGS:Hid (m2<s.size):=Nat.lt_of_not_le fun hle=>by rw[byteAt_ge s m2 (by omega)]at hb;omega
    have hXX:=HX.out;rw[←htf]at hXX;simp only at hXX;cases hk8:Pl.kind8 (L2.map (·.nd)) T with
    | false=>rw[hk8,if_neg (by simp)]at hXX;exact absurd hXX.symm HN.out
    | true =>
    rw[hk8,if_pos rfl]at hXX;have HXX:=Lib.hid hXX;have HK8:=Lib.hid hk8;clear hXX hk8 htf hb;go_wp2_with fail;refine (tv_byte wr R s jv2 m2 m2 rfl).mono ?_;refine Z48 ?_;have HRS:=HR3;have HFS:=HFX;have HSTS:=HST3;have HOWNS:=HOWN3;clear jv0 jv1 jv2 jv3 jvf;have hwg:IntKind.i64.wrap ((m2:Int)+1)=(m2:Int)+1:=IntWalk.i64_in _ ⟨by have:=HGS.out;omega,by have:=HGS.out;omega⟩;obtain⟨rT,hrT⟩:∃r,(L2)[T]?=some r:=by
     have hk:=HK8.out;unfold Pl.kind8 at hk;rw[Bool.and_eq_true,List.getElem?_map]at hk
     replace hk:=hk.2
     cases hl:(L2)[T]? with
     | none=>rw[hl]at hk;cases hk
     | some x=>exact⟨x,rfl⟩
    have hTl:T<(L2).length:=(List.getElem?_eq_some_iff.1 hrT).1;obtain⟨gN,capN,curN,hnvE,hgNb,hgNl,hgNo,hgNR,hgNB,hgNh,hgNs,hgNc,hgNm,hgNt⟩:=HRS.out.form (by omega);have hcl:=HRS.out.cells;rw[hnvE]at hcl;obtain⟨a0,a1,a2,a3,af⟩:=hcl;have hfzN:∀o,wr.frozen? ⟨gN,o,none⟩=false:=fun o=>unfrozen_of_block hgNh o
    have hi1:(0:Int)≤(T:Int):=by omega
    have hi2:(T:Int)<((L2).length:Int):=by omega
    have HRS2:Hid (RdV wr R B base s root (.slice (some ⟨gN,0,none⟩) (L2).length capN) L2 own2):=by rw[←hnvE];exact HRS.out
    obtain⟨p0,p1,pf,pl⟩:=HFS.out;obtain⟨_,_,_,_,_,n5,n6,_⟩:=HRS2.out.ndCells rfl T rT hrT;have n6':wr.cell? ⟨gN,T*7+5+1,none⟩=some (.int .i64 rT.nd.sp.2):=n6;clear n6;have hbN:w.heap.size≠gN:=fun e=>by
     have:own gN≠0∨z0≤gN:=HOWNS.out gN (by omega);rcases this with e2|e2
     · exact hnF (by unfold FV;rw[e];exact e2)
     have:=HZB.out;omega
    have HRT:=Lib.hid hrT;clear hrT hgNh hgNt hgNs hnvE;go_wp2_with fail;have hsp:=HRS2.out.span T rT HRT.out (n:Int) ((m2:Int)+1);have HR12:Hid (RdV ((wr.setCell ⟨gN,T*7+5,none⟩ (.int .i64 (n:Int))).setCell ⟨gN,T*7+5+1,none⟩ (.int .i64 ((m2:Int)+1))) R B base s root (.slice (some ⟨gN,0,none⟩) (L2).length capN) ((L2).set T (spanR rT (n:Int) ((m2:Int)+1))) own2):=hsp.1;have HST12:Hid (St (FV own) (FV own2) w ((wr.setCell ⟨gN,T*7+5,none⟩ (.int .i64 (n:Int))).setCell ⟨gN,T*7+5+1,none⟩ (.int .i64 ((m2:Int)+1)))):=HSTS.out.trans hsp.2;have hnO:¬FV own2 w.heap.size:=fun hf=>by
     rcases HOWNS.out _ hf with e|e
     · exact hnF e
     have:=HZB.out;omega
    have HF12:Hid (FX w.heap.size (.int .i64 0) (.int .i64 0) ((wr.setCell ⟨gN,T*7+5,none⟩ (.int .i64 (n:Int))).setCell ⟨gN,T*7+5+1,none⟩ (.int .i64 ((m2:Int)+1)))):=HFS.out.st hsp.2 hnO;obtain⟨wS,hwS⟩:∃v,(wr.setCell ⟨gN,T*7+5,none⟩ (.int .i64 (n:Int))).setCell ⟨gN,T*7+5+1,none⟩ (.int .i64 ((m2:Int)+1))=v:=⟨_,rfl⟩
    rw[hwS]at HR12 HST12 HF12 ⊢;clear hwS hsp p0 p1 pf pl n5 n6' hfzN a0 a1 a2 a3 af;obtain⟨p0,p1,pf,pl⟩:=HF12.out
    go_region
    all_goals go_wp2_with fail
    rw[←HXX.out];refine bodyPost_ret (v := .tuple #[.int .i64 T,.int .i64 (m2+1:Nat),f0]) (by simp[results,Tryz.results94,go_sem,p0,p1,pf,pl]) rfl ⟨rfl,by have:=HGS.out;omega,by simpa using hTl,_,_,own2,((HR12.out.setCell hnO _).setCell hnO _).drew,?_,((HST12.out.setCell (.inr (Nat.le_refl _)) _).setCell (.inr (Nat.le_refl _)) _).drew,fun k hk=>(HOWNS.out k hk).imp id (fun e=>by have:=HZB.out;omega)⟩;rw[map_set_span _ T rT _ _ HRT.out];rfl
  have htf:=HTF.out;rw[if_neg hend]at htf;obtain⟨gk,rfl⟩:∃f,gk=f+1:=by
   cases gk with
   | zero=>exact absurd htf.symm HYN.out
   | succ f=>exact⟨f,rfl⟩
  rw[Pl.tabF]at htf;have HTF2:=Lib.hid htf;clear htf;cases b with
  | true =>
   have hb1:(((Pl.byteAt (bs s) m2:Nat):Int) != 125)=true:=by simp;simp at hend;omega
   obtain⟨q0,q1,qf,ql⟩:=HFX.out;clear hend;go_wp2_with fail;refine (tv_byte wr R s jv2 m2 m2 rfl).mono ?_;refine Z48 ?_;go_wp2_with fail;clear q0 q1 qf ql jv0 jv1 jv2 jv3 jvf hb1;exact J156
  | false =>
   obtain⟨q0,q1,qf,ql⟩:=HFX.out;clear hend;go_wp2_with fail;clear q0 q1 qf ql jv0 jv1 jv2 jv3 jvf;exact J156
end Go.Proofs.YtfogfaagjpebcaaGreatDoor
namespace Go.Proofs.YtfogfaagjpebcaaGreatDoor
open Go.RowKit Go.Shelf Go.Joins
attribute [local go_sem] Oper.semAt_some
variable {Tb:Nat→UInt8 × UInt8}
set_option maxRecDepth 100000 in
theorem tv_value (E:Pl.Env) (hE:EnvStr Tb E) (hE2:E.scal=Pl.scalS) (s:ByteArray) (hs:s.size≤20000000) (R B base:Nat) (root:Int):∀f,ValueC Tb s R B base root (Pl.valueF E (bs s) f):=by
 intro f
 induction f with
 | zero =>
  intro w nv L own h hg n d hn hd X hX hne;exact absurd hX.symm hne
 | succ f ih =>
  intro w nv L own h hg n d hn hd X hX hne;obtain⟨c0,c1,c2,c3,fz⟩:=h.cells;have hR:=h.R_lt;have hnF:¬FV own w.heap.size:=h.not_new (Nat.le_refl _);have ga:=(Gr.refl w).alloc (.cells #[.int .i64 0,.int .i64 0] 31);have HR1:=Lib.hid (h.gr ga);have HG1:=Lib.hid (hg.gr ga);have HN:=Lib.hid hne;obtain⟨c,hc⟩:∃c,Pl.byteAt (bs s) n=c:=⟨_,rfl⟩
  have HC:=Lib.hid hc;rw[Pl.valueF]at hX;simp only[hc]at hX;by_cases h1:c=34∨c=39
  · rw[if_pos h1]at hX;have HX:=Lib.hid hX;clear hX hc ga h hg c0 c1 c3 fz hne;by_cases h34:c=34
    · have b1:((c:Int)==34)=true:=by simp;omega
      exact J155
    have b1:((c:Int)==34)=false:=by simp;omega
    have b2:((c:Int)==39)=true:=by simp;omega
    exact J155
  rw[if_neg h1]at hX;have b1:((c:Int)==34)=false:=by simp;omega
  have b2:((c:Int)==39)=false:=by simp;omega
  by_cases h91:c=91
  · rw[if_pos h91]at hX;have b3:((c:Int)==91)=true:=by simp;omega
    have HX:=Lib.hid hX;have HB:Hid (Pl.byteAt (bs s) n=91):=by rw[←h91];exact hc
    clear hX hc ga h hg c0 c1 c3 fz hne h1 h91;go_enter Tryz.func68,Tryz.ntmps68;go_wp2_with fail;refine Z145 ?_;refine Z48 ?_;rw[HC.out];go_wp2_with fail;refine (tv_list s R B base root _ ih _ nv L own HR1.out HG1.out hs d n HB.out X HX.out HN.out).mono ?_;exact J74
  rw[if_neg h91]at hX;have b3:((c:Int)==91)=false:=by simp;omega
  by_cases h123:c=123
  · rw[if_pos h123]at hX;have b4:((c:Int)==123)=true:=by simp;omega
    have HX:=Lib.hid hX;have HB:Hid (Pl.byteAt (bs s) n=123):=by rw[←h123];exact hc
    clear hX hc ga h hg c0 c1 c3 fz hne h1 h91 h123;go_enter Tryz.func68,Tryz.ntmps68;go_wp2_with fail;refine Z145 ?_;refine Z48 ?_;rw[HC.out];go_wp2_with fail;refine (tv_table E hE s R B base root _ ih _ nv L own HR1.out HG1.out hs d n HB.out X HX.out HN.out).mono ?_;exact J74
  rw[if_neg h123]at hX;have b4:((c:Int)==123)=false:=by simp;omega
  have HX:=Lib.hid hX;clear hX hc ga h hg c0 c1 c3 fz hne h1 h91 h123;go_enter Tryz.func68,Tryz.ntmps68;go_wp2_with fail;refine Z145 ?_;refine Z48 ?_;rw[HC.out];go_wp2_with fail;refine (tv_scalar E hE2 _ R B base s root nv L own HR1.out hs HG1.out n d n rfl hn X HX.out HN.out).mono ?_;exact J74
end Go.Proofs.YtfogfaagjpebcaaGreatDoor
