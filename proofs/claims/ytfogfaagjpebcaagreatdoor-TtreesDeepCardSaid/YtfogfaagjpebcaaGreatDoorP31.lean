/-
 The walks and plain laws that the claim rests on, part 31.
-/
import Derived.Test.YtfogfaagjpebcaaGreatDoorP00
import Derived.Test.YtfogfaagjpebcaaGreatDoorP28
import Derived.Test.YtfogfaagjpebcaaGreatDoorP29
set_option maxHeartbeats 16000000
set_option linter.all false
set_option linter.unusedVariables false
set_option linter.unusedSimpArgs false
namespace Go.Proofs.YtfogfaagjpebcaaGreatDoor
open Go.RowKit Go.Shelf Go.Joins
attribute [local go_sem] Oper.semAt_some
variable {Tb:Nat→UInt8 × UInt8}
namespace Pl
theorem plainS_not8 {l t:Bs} {k:Nat} (h:plainS l = .ok (k,t)):k≠8:=by
 unfold plainS at h
 split at h
 · exact J36
 split at h
 · exact J36
 split at h
 · split at h
   · exact J36
   cases h
 cases h
theorem datP_not8 {l t:Bs} {k:Nat} (h:datP l = .ok (k,t)):k≠8:=by
 unfold datP at h
 split at h
 · exact J36
 cases h
def scalLen (l:Bs):Nat:=if 0<(splitD l).long then (splitD l).long else (tok l).length
def scalVal (l:Bs):Out (Nat × Bs):=if 0<(splitD l).long then datP (l.take (scalLen l)) else plainS (l.take (scalLen l))
theorem scalS_eq (l:Bs):scalS l=match scalVal l with
    | .ok (k,x) => .ok (k,x,scalLen l)
    | .bad c _ => .bad c 0:=by
 unfold scalS scalVal scalLen;by_cases h:0<(splitD l).long
 · simp only[if_pos h];unfold datP;cases datRead (l.take (splitD l).long) <;> rfl
 simp only[if_neg h];have:l.take (tok l).length=tok l:=(List.prefix_iff_eq_take.1 (List.takeWhile_prefix isPart)).symm;rw[this];rfl
theorem scalLen_le (l:Bs):scalLen l≤l.length:=by
 unfold scalLen
 split
 · exact splitD_len l
 exact tok_le l
theorem scalVal_not8 {l t:Bs} {k:Nat} (h:scalVal l = .ok (k,t)):k≠8:=by
 unfold scalVal at h
 split at h
 · exact datP_not8 h
 exact plainS_not8 h
theorem part_low (c:UInt8) (h:isPart c=true):c.toNat<128:=by
 unfold isPart partN at h;simp at h;omega
end Pl
set_option maxRecDepth 100000 in
theorem tv_scalar (E:Pl.Env) (hE:E.scal=Pl.scalS) (w:World) (R B base:Nat) (s:ByteArray) (root:Int) (nv:Value) (L:List NdR) (own:Nat→Nat) (h:RdV w R B base s root nv L own) (hs:s.size≤20000000) (hg:GW Tb base w)
    (i d:Int) (n:Nat) (hi:i=n) (hn:n≤s.size) (X:Pl.Res (Nat × Nat × Pl.Nds))
    (hX:(match E.scal ((bs s).drop n) with
     | .non => .non
     | .bad c _ => .bad c n
     | .ok (k,t,m)=>if Pl.room (L.map (·.nd)) then .ok ((L.map (·.nd)).length,n+m,L.map (·.nd)++[Pl.leaf k t n (n+m)]) else .non:Pl.Res (Nat × Nat × Pl.Nds))=X) (hne:X ≠ .non) :
    Calls Tryz.prog 90 #[.pointer (some ⟨R,0,none⟩),.int .i64 i,.int .i64 d] w (ValPost s R B base root own w X):=by
 subst hi;rw[hE]at hX;obtain⟨c0,c1,c2,c3,fz⟩:=h.cells;have hR:=h.R_lt;have H:=Lib.hid h;have HG:=Lib.hid hg;have hnR:Hid (¬FV own w.heap.size):=h.not_new (Nat.le_refl _);obtain⟨rest,hrest⟩:∃rest,s.extract n s.size=rest:=⟨_,rfl⟩
 have hbr:bs rest=(bs s).drop n:=by rw[←hrest,bs_extract]
 have hrz:rest.size=s.size-n:=by rw[←bs_length,hbr,List.length_drop,bs_length]
 rw[←hbr,Pl.scalS_eq]at hX;obtain⟨k,hk⟩:∃k,Pl.scalLen (bs rest)=k:=⟨_,rfl⟩
 have hkr:k≤rest.size:=by rw[←hk,←bs_length];exact Pl.scalLen_le _
 obtain⟨tk,htk⟩:∃tk,rest.extract 0 k=tk:=⟨_,rfl⟩
 have hbt:bs tk=(bs rest).take k:=by rw[←htk,bs_take]
 have htz:tk.size=k:=by rw[←htk];simp;omega
 obtain⟨Y,hY⟩:∃Y,Pl.scalVal (bs rest)=Y:=⟨_,rfl⟩
 have hnot8:∀k' t',Y = .ok (k',t')→k'≠8:=fun k' t' e=>Pl.scalVal_not8 (hY.trans e)
 rw[hk,hY]at hX;have HL:=Lib.hid (dt_Long rest (by omega));have hwn:IntKind.i64.wrap ((n:Int)+(k:Int))=(n:Int)+(k:Int):=IntWalk.i64_in _ ⟨by omega,by omega⟩;have hnk:n+k≤s.size:=by omega
 have hk0:(0:Int)≤(k:Int):=by omega
 have hkr':(k:Int)≤(rest.size:Int):=by omega
 by_cases hdl:0<(Pl.splitD (bs rest)).long
 · have hkd:(Pl.splitD (bs rest)).long=k:=by rw[←hk];unfold Pl.scalLen;rw[if_pos hdl]
   have hYd:Pl.datP (bs tk)=Y:=by rw[←hY,hbt,←hk];unfold Pl.scalVal;rw[if_pos hdl]
   rw[hkd]at HL hdl;have dpos:decide (0<k)=true:=by simpa using hdl
   have HP:=Lib.hid (tv_plain_date tk (by omega));rw[hYd]at HP;cases hy:Y with
   | bad c p =>
    rw[hy]at hX HP;simp only at hX;subst hX;clear hne hk fz c0 c1 c3 h hg hy hbr hrz htz hkd hYd hY hdl hnot8 hbt;go_enter Tryz.func90,Tryz.ntmps90;go_wp2_with fail;refine (HL.out _).mono ?_;rintro e w1 ⟨rfl,g1⟩;have hG1:Gr w w1:=Gr.auto;have hF1:=((FX.new w (.int .i64 0) (.int .i64 0) 31).gr g1)
    clear g1;go_wp2_with fail;refine (HP.out _ (HG.out.gr hG1).int).mono ?_;rintro e w3 ⟨⟨kk,x,cc,rfl,hcc⟩,g3⟩;obtain⟨rfl,hc⟩:=hcc;obtain⟨q0,q1,qf,ql⟩:=hF1.gr g3;have hcb:((cc:Int) != 0)=true:=by simp;omega
    have hG3:Gr w w3:=hG1.trans g3;clear g3 hG1 hF1;go_wp2_with fail;exact bodyPost_ret (v := .tuple #[.int .i64 0,.int .i64 0,fv cc n]) (by simp[results,Tryz.results90,go_sem,q0,q1,qf,ql]) rfl ⟨rfl,hc,FV own,St.auto,H.out.rk.gr Gr.auto⟩
   | ok r =>
    obtain⟨k8,t0⟩:=r;have HK8:Hid (k8≠8):=Lib.hid (hnot8 _ _ hy);rw[hy]at hX HP;simp only at hX;cases hr:Pl.room (L.map (·.nd)) with
    | false=>rw[hr,if_neg (by simp)]at hX;exact absurd hX.symm hne
    | true =>
    rw[hr,if_pos rfl]at hX;subst hX;have HR:=Lib.hid hr;clear hne hk fz c0 c1 c3 h hg hy hbr hrz htz hkd hYd hY hdl hnot8 hbt hr;go_enter Tryz.func90,Tryz.ntmps90;go_wp2_with fail;refine (HL.out _).mono ?_;rintro e w1 ⟨rfl,g1⟩;have hG1:Gr w w1:=Gr.auto;have hF1:=((FX.new w (.int .i64 0) (.int .i64 0) 31).gr g1)
    clear g1;go_wp2_with fail;refine (HP.out _ (HG.out.gr hG1).int).mono ?_;rintro e w3 ⟨⟨kk,x,cc,rfl,hcc⟩,g3⟩;obtain⟨hkk,hx,hc0⟩:=hcc;have hF:=hF1.gr g3;have hG3:Gr w w3:=hG1.trans g3;clear g3 hG1 hF1;subst hc0 hx hkk;go_wp2_with fail;have hS:FX w.heap.size (.int .i64 0) (.int .i64 0) w3.drew:=hF.gr (Gr.refl _).drew;refine Reg.begin' (W:=fun i=>i != 12) (S:=FX w.heap.size (.int .i64 0) (.int .i64 0)) (by kernel_rfl) ?_;refine Reg.ty 0 ?_;refine Reg.ty 1 ?_;refine Reg.ty 2 ?_;refine Reg.ty 3 ?_;refine Reg.ty 4 ?_;refine Reg.ty 5 ?_;refine Reg.ty 6 ?_;refine Reg.ty 8 ?_;refine Reg.tl 9 hS ?_ (hy:=by intro w hSw;obtain⟨q0,q1,qf,ql⟩:=hSw;go_simp;try with_reducible rfl);refine Reg.on 7 ?_;go_simp;refine (leaf_node w w3.drew R B base s root nv L own H.out hG3.drew HR.out kk HK8.out x n (n+k) _ rfl _ (by simp)).mono ?_;rintro e w4 ⟨rfl,nv',own',hr3,hst3,hown3,hst3'⟩;have hF4:=hS.st hst3' hnR.out;refine⟨by first|exact hF4|exact fun _=>hF4|exact fun _ _=>hF4,?_⟩;refine Reg.pt ?_;refine Reg.ty 10 ?_;refine Reg.ty 11 ?_;obtain⟨p0,p1,pf,pl⟩:=hF4;have hn3:¬FV own' w.heap.size:=by
     intro hf;rcases hown3 _ hf with e|e
     · exact hnR.out e
     have:=hS.2.2.2;omega
    have H3:=Lib.hid hr3;have HS3:=Lib.hid hst3;have HO3:=Lib.hid hown3;clear hr3 hst3 hown3 hst3';refine Reg.on 12 ?_;go_simp;refine Z12 ?_;go_wp2_with fail;refine Z146 ?_;exact (HS3.out.setCell (.inr (Nat.le_refl _)) _).setCell (.inr (Nat.le_refl _)) _
 have hkd:(Pl.tok (bs rest)).length=k:=by rw[←hk];unfold Pl.scalLen;rw[if_neg hdl]
 have hYd:Pl.plainS (bs tk)=Y:=by rw[←hY,hbt,←hk];unfold Pl.scalVal;rw[if_neg hdl]
 have h0:(Pl.splitD (bs rest)).long=0:=by omega
 rw[h0]at HL;obtain⟨tr,htr⟩:∃tr,rest.extract k rest.size=tr:=⟨_,rfl⟩
 have htrz:tr.size=rest.size-k:=by rw[←htr];simp
 have hwr:IntKind.i64.wrap ((rest.size:Int)-(tr.size:Int))=(k:Int):=by rw[IntWalk.i64_in _ ⟨by omega,by omega⟩];omega
 have HT:=Lib.hid (trim_part rest);rw[hkd,htr]at HT;have hlow:∀c∈bs tk,c.toNat<128:=fun c hc=>by
  have e:(bs rest).take (Pl.tok (bs rest)).length=Pl.tok (bs rest):=(List.prefix_iff_eq_take.1 (List.takeWhile_prefix Pl.isPart)).symm;rw[hbt,←hkd,e]at hc;exact Pl.part_low c (Pl.takeWhile_all Pl.isPart _ c hc)
 have HP:=Lib.hid (tv_plain_tok tk (by omega) hlow);rw[hYd]at HP;cases hy:Y with
 | bad c p =>
  rw[hy]at hX HP;simp only at hX;subst hX;clear hne hk fz c0 c1 c3 h hg hy hbr hrz htz hkd hYd hY hdl hnot8 hbt hlow h0 htrz;go_enter Tryz.func90,Tryz.ntmps90;go_wp2_with fail;refine (HL.out _).mono ?_;rintro e w1 ⟨rfl,g1⟩;go_wp2_with fail;refine (HT.out _).mono ?_;rintro e w1 ⟨rfl,g2⟩;have hG1:Gr w w1:=Gr.auto;have hF1:=(((FX.new w (.int .i64 0) (.int .i64 0) 31).gr g1).gr g2)
  clear g1 g2;go_wp2_with fail;refine (HP.out _ (HG.out.gr hG1).int).mono ?_;rintro e w3 ⟨⟨kk,x,cc,rfl,hcc⟩,g3⟩;obtain⟨rfl,hc⟩:=hcc;obtain⟨q0,q1,qf,ql⟩:=hF1.gr g3;have hcb:((cc:Int) != 0)=true:=by simp;omega
  have hG3:Gr w w3:=hG1.trans g3;clear g3 hG1 hF1;go_wp2_with fail;exact bodyPost_ret (v := .tuple #[.int .i64 0,.int .i64 0,fv cc n]) (by simp[results,Tryz.results90,go_sem,q0,q1,qf,ql]) rfl ⟨rfl,hc,FV own,St.auto,H.out.rk.gr Gr.auto⟩
 | ok r =>
  obtain⟨k8,t0⟩:=r;have HK8:Hid (k8≠8):=Lib.hid (hnot8 _ _ hy);rw[hy]at hX HP;simp only at hX;cases hr:Pl.room (L.map (·.nd)) with
  | false=>rw[hr,if_neg (by simp)]at hX;exact absurd hX.symm hne
  | true =>
  rw[hr,if_pos rfl]at hX;subst hX;have HR:=Lib.hid hr;clear hne hk fz c0 c1 c3 h hg hy hbr hrz htz hkd hYd hY hdl hnot8 hbt hlow h0 htrz hr;go_enter Tryz.func90,Tryz.ntmps90;go_wp2_with fail;refine (HL.out _).mono ?_;rintro e w1 ⟨rfl,g1⟩;go_wp2_with fail;refine (HT.out _).mono ?_;rintro e w1 ⟨rfl,g2⟩;have hG1:Gr w w1:=Gr.auto;have hF1:=(((FX.new w (.int .i64 0) (.int .i64 0) 31).gr g1).gr g2)
  clear g1 g2;go_wp2_with fail;refine (HP.out _ (HG.out.gr hG1).int).mono ?_;rintro e w3 ⟨⟨kk,x,cc,rfl,hcc⟩,g3⟩;obtain⟨hkk,hx,hc0⟩:=hcc;have hF:=hF1.gr g3;have hG3:Gr w w3:=hG1.trans g3;clear g3 hG1 hF1;subst hc0 hx hkk;go_wp2_with fail;have hS:FX w.heap.size (.int .i64 0) (.int .i64 0) w3.drew:=hF.gr (Gr.refl _).drew;refine Reg.begin' (W:=fun i=>i != 12) (S:=FX w.heap.size (.int .i64 0) (.int .i64 0)) (by kernel_rfl) ?_;refine Reg.ty 0 ?_;refine Reg.ty 1 ?_;refine Reg.ty 2 ?_;refine Reg.ty 3 ?_;refine Reg.ty 4 ?_;refine Reg.ty 5 ?_;refine Reg.ty 6 ?_;refine Reg.ty 8 ?_;refine Reg.tl 9 hS ?_ (hy:=by intro w hSw;obtain⟨q0,q1,qf,ql⟩:=hSw;go_simp;try with_reducible rfl);refine Reg.on 7 ?_;go_simp;refine (leaf_node w w3.drew R B base s root nv L own H.out hG3.drew HR.out kk HK8.out x n (n+k) _ rfl _ (by simp)).mono ?_;rintro e w4 ⟨rfl,nv',own',hr3,hst3,hown3,hst3'⟩;have hF4:=hS.st hst3' hnR.out;refine⟨by first|exact hF4|exact fun _=>hF4|exact fun _ _=>hF4,?_⟩;refine Reg.pt ?_;refine Reg.ty 10 ?_;refine Reg.ty 11 ?_;obtain⟨p0,p1,pf,pl⟩:=hF4;have hn3:¬FV own' w.heap.size:=by
   intro hf;rcases hown3 _ hf with e|e
   · exact hnR.out e
   have:=hS.2.2.2;omega
  have H3:=Lib.hid hr3;have HS3:=Lib.hid hst3;have HO3:=Lib.hid hown3;clear hr3 hst3 hown3 hst3';refine Reg.on 12 ?_;go_simp;refine Z12 ?_;go_wp2_with fail;refine Z146 ?_;exact (HS3.out.setCell (.inr (Nat.le_refl _)) _).setCell (.inr (Nat.le_refl _)) _
end Go.Proofs.YtfogfaagjpebcaaGreatDoor
