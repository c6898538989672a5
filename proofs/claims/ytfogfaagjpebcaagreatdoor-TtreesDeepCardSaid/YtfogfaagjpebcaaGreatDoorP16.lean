/-
 The walks and plain laws that the claim rests on, part 16.
-/
import Derived.Test.YtfogfaagjpebcaaGreatDoorP00
import Derived.Test.YtfogfaagjpebcaaGreatDoorP01
import Derived.Test.YtfogfaagjpebcaaGreatDoorP07
import Derived.Test.YtfogfaagjpebcaaGreatDoorP09
import Derived.Test.YtfogfaagjpebcaaGreatDoorP12
import Derived.StillTailTactics
import Derived.Deep.DrawnRows
set_option maxHeartbeats 16000000
set_option linter.all false
set_option linter.unusedVariables false
set_option linter.unusedSimpArgs false
namespace Go.Proofs.YtfogfaagjpebcaaGreatDoor
open Go.RowKit Go.Joins
theorem blank_idx (c:UInt8):(0≤Lib.indexByte [32,9] c) ↔ Pl.isBlank c=true:=by
 by_cases h1:c=32
 · subst h1;decide
 by_cases h2:c=9
 · subst h2;decide
 have e1:¬c.toNat=32:=fun e=>h1 (by rw[←UInt8.toNat_inj,e];rfl)
 have e2:¬c.toNat=9:=fun e=>h2 (by rw[←UInt8.toNat_inj,e];rfl)
 simp[Pl.isBlank,e1,e2];have e3:((32:UInt8)==c)=false:=by simp;exact fun e=>h1 e.symm
 have e4:((9:UInt8)==c)=false:=by simp;exact fun e=>h2 e.symm
 simp[Lib.indexByte,e3,e4]
def posW (R:Nat) (w:World):Nat:=(intOf ((w.cell? ⟨R,1,none⟩).getD undef)).toNat
theorem posW_eq {w R s a q out ov} (h:RdQ w R s a q out ov):posW R w=a:=by
 unfold posW;rw[h.cells.2.1];simp[intOf]
theorem indexByte_blank (c:UInt8) (b:Bool) (h:Pl.isBlank c=b) (w:World) :
    Calls Tryz.prog 43 #[.string ⟨#[32,9]⟩,.int .u8 c.toNat] w fun e w'=>e = .returned (.int .i64 (Lib.indexByte [32,9] c))∧w=w':=by
 refine (Tryz.strings_IndexByte _ _ w).mono ?_;refine Z48 ?_;refine⟨ret_int ?_,rfl⟩;rw[show (⟨#[32,9]⟩:ByteArray).data.toList=[32,9] from rfl];congr 1;simp
theorem blanksAt_more (l:List UInt8) (m:Nat) (h:m<l.length) (hb:Pl.isBlank (l[m]'h)=true):Pl.blanksAt l m=Pl.blanksAt l (m+1):=by
 unfold Pl.blanksAt Pl.blanks;rw[List.drop_eq_getElem_cons h,List.takeWhile_cons,if_pos hb];simp;omega
theorem blanksAt_here (l:List UInt8) (m:Nat) (h:∀h:m<l.length,Pl.isBlank (l[m]'h)=false):Pl.blanksAt l m=m:=by
 unfold Pl.blanksAt Pl.blanks;by_cases hm:m<l.length
 · rw[List.drop_eq_getElem_cons hm,List.takeWhile_cons,if_neg (by rw[h hm];simp)];rfl
 rw[List.drop_eq_nil_of_le (by omega)];rfl
theorem tq_fold (w:World) (R:Nat) (s:ByteArray) (a:Nat) (q:UInt8) (out:List UInt8) (ov:Value) (h:RdQ w R s a q out ov)
    (hlt:a<s.size) (hs:s.size≤20000000) :
    Calls Tryz.prog 242 #[.pointer (some ⟨R,0,none⟩)] w fun e w'=>match Pl.foldAt true (bs s) (a+1) with
     | .ok n=>e = .returned f0∧n≤s.size∧RdQ w' R s n q out ov∧St (FQ R ov) (FQ R ov) w w'
     | .bad c p=>e = .returned (fv c p)∧St (FQ R ov) (FQ R ov) w w':=by
 obtain⟨X,hX⟩:∃X:Ending→World→Prop,X=fun e w'=>match Pl.foldAt true (bs s) (a+1) with
     | .ok n=>e = .returned f0∧n≤s.size∧RdQ w' R s n q out ov∧St (FQ R ov) (FQ R ov) w w'
     | .bad c p=>e = .returned (fv c p)∧St (FQ R ov) (FQ R ov) w w':=⟨_,rfl⟩
 rw[←hX];have HX:=Lib.hid hX;obtain⟨c0,c1,c2,c3,fz⟩:=h.cells;have fz1:=fz 1;have hR:=h.lt;have hRne:¬w.heap.size=R:=by omega
 have HS:=Lib.hid h;clear fz h hX c3;go_enter Tryz.func242,Tryz.ntmps242;go_wp2_with fail
 go_loopw [3] (fun l wr=>∃(n j:Nat),l = .int .i64 j∧n≤s.size∧j≤n∧Pl.foldAt (j==0) (bs s) n=Pl.foldAt true (bs s) (a+1)∧RdQ wr R s n q out ov∧St (FQ R ov) (FQ R ov) w wr∧w.heap.size+1≤wr.heap.size ∧
     wr.cell? ⟨w.heap.size,0,none⟩=some (.int .i64 0)∧wr.cell? ⟨w.heap.size,1,none⟩=some (.int .i64 0)∧wr.frozen? ⟨w.heap.size,0,none⟩=false∧wr.frozen? ⟨w.heap.size,1,none⟩=false)
  (fun _ wr=>s.size-posW R wr)
 case atStart =>
  have e:(↑a+1:Int)=((a+1:Nat):Int):=by omega
  refine⟨a+1,0,rfl,by omega,by omega,rfl,?_,?_,by simp[World.setCell],?_,?_,?_,?_⟩
  · rw[e];exact (HS.out.setAt (a+1)).alloc _
  · exact ((St.refl _ _).setCell (.inl (.inl rfl)) _).alloc _
  all_goals simp[go_sem]
 case round =>
  obtain⟨n,j,rfl,hn,hj,hF,hr,hst,hz,m0,m1,m2,m3⟩:=hrel;have hbl:=Pl.blanksAt_le (bs s) n (by rw[bs_length];exact hn);rw[bs_length]at hbl;have HF:=Lib.hid hF;refine Z163 ?_;intro HR HT;have hRr:=hr.lt;clear hF hr hst c0 c1 c2 fz1;go_wp2_with fail;obtain⟨wo,rfl⟩:∃wo:World,wo=wr:=⟨_,rfl⟩
  go_loopw [13] (fun _ w2=>∃m:Nat,n≤m∧m≤Pl.blanksAt (bs s) n∧Pl.blanksAt (bs s) m=Pl.blanksAt (bs s) n∧RdQ w2 R s m q out ov∧St (FQ R ov) (FQ R ov) wo w2) (fun _ w2=>s.size-posW R w2)
  case atStart=>exact⟨n,by omega,by omega,rfl,HR.out,St.refl _ _⟩
  case round =>
   obtain⟨m,h1,h2,h3,hr2,hst2⟩:=hrel;obtain⟨d0,d1,d2,d3,dz⟩:=hr2.cells;have dz1:=dz 1;have hR2:=hr2.lt;have hp2:=posW_eq hr2;have HR2:=Lib.hid hr2;have HT2:=Lib.hid hst2;have H3:=Lib.hid h3;have HP2:=Lib.hid hp2;clear hr2 hst2 h3 dz d3 hp2;by_cases hm:m<s.size
   · have hd1:decide (m<s.size)=true:=by simp;omega
     cases hb:Pl.isBlank s[m]
     · have hI:decide (0≤Lib.indexByte [32,9] s[m])=false:=by
        rw[decide_eq_false_iff_not,blank_idx,hb];simp
       have HB:=Lib.hid hb;clear hb;go_wp2_with fail
       go_quiet ((go_at_call 43;exact quiet_any (indexByte_blank _ false HB.out _) ⟨_,rfl⟩))
       have hme:m=Pl.blanksAt (bs s) n:=by
        rw[←H3.out];exact (blanksAt_here (bs s) m (fun _=>HB.out)).symm
       obtain⟨S1,S2,S3,S4,S5⟩:=Pl.foldAt_step (j==0) (bs s) n m (by rw[bs_length];exact hn) hme;have hbq:((m:Int)==(s.size:Int))=false:=by simp;omega
       have hml:m<(bs s).length:=by rw[bs_length];exact hm
       have S2':=S2 hml;have S3':=S3 hml;have S4':=S4 hml;have S5':=S5 hml;clear S1 S2 S3 S4 S5 hme;have hu:=HT2.out.use w.heap.size (by omega) (fun hF=>by have:=HS.out.own_lt hF;omega);have n0:wr.cell? ⟨w.heap.size,0,none⟩=some (.int .i64 0):=(hu.1 0).trans m0;have n1:wr.cell? ⟨w.heap.size,1,none⟩=some (.int .i64 0):=(hu.1 1).trans m1;have n2:wr.frozen? ⟨w.heap.size,0,none⟩=false:=(hu.2 0).trans m2;have n3:wr.frozen? ⟨w.heap.size,1,none⟩=false:=(hu.2 1).trans m3;have hsz2:=HT2.out.size;clear hu m0 m1 m2 m3;go_wp2_with fail
       go_quiet (fail)
       go_wp2_with fail;cases hfd:Pl.feed ((bs s).drop m) with
       | bad c p =>
        obtain⟨rfl,rfl⟩:=Pl.feed_bad _ _ _ hfd;have HE:=Lib.hid ((S4' _ _ hfd).symm.trans HF.out);have HFD:=Lib.hid hfd;clear hfd S2' S3' S4' S5';refine Z81 ?_;intro w1 g1 hc1 hf1 hy2 hyn hz1;have q0:w1.cell? ⟨w.heap.size,0,none⟩=some (.int .i64 0):=(hc1 _ _ (by simp;omega)).trans n0;have q1:w1.cell? ⟨w.heap.size,1,none⟩=some (.int .i64 0):=(hc1 _ _ (by simp;omega)).trans n1;have q2:w1.frozen? ⟨w.heap.size,0,none⟩=false:=(hf1 _ _ (by simp;omega)).trans n2;have q3:w1.frozen? ⟨w.heap.size,1,none⟩=false:=(hf1 _ _ (by simp;omega)).trans n3;refine Z125 ?_;intro hR1 x0 x1 x2 x3 xz xz1 hR3 hR4 HR1;clear hc1 hf1 n0 n1 n2 n3 hR1 x3 xz d0 d1 d2 dz1;go_wp2_with fail;refine bodyPost_ret (v:=fv 3 (m+1)) (by simp[results,Tryz.results242,go_sem,q0,q1,hy2,hyn]) rfl ?_;exact J148
       | ok k =>
        cases k with
        | zero =>
         cases hj0:(j==0)
         · have HE:=Lib.hid ((S3' hfd hj0).symm.trans HF.out);have HFD:=Lib.hid hfd;obtain⟨b1,b2⟩:=beqs _ 0 _ hj0;clear hfd S2' S3' S4' S5';refine Z81 ?_;intro w1 g1 hc1 hf1 hy2 hyn hz1;have q0:w1.cell? ⟨w.heap.size,0,none⟩=some (.int .i64 0):=(hc1 _ _ (by simp;omega)).trans n0;have q1:w1.cell? ⟨w.heap.size,1,none⟩=some (.int .i64 0):=(hc1 _ _ (by simp;omega)).trans n1;have q2:w1.frozen? ⟨w.heap.size,0,none⟩=false:=(hf1 _ _ (by simp;omega)).trans n2;have q3:w1.frozen? ⟨w.heap.size,1,none⟩=false:=(hf1 _ _ (by simp;omega)).trans n3;refine Z125 ?_;intro hR1 x0 x1 x2 x3 xz xz1 hR3 hR4 HR1;clear hc1 hf1 n0 n1 n2 n3 hR1 x3 xz d0 d1 d2 dz1;go_wp2_with fail;refine bodyPost_ret (v:=f0) (by simp[results,Tryz.results242,go_sem,q0,q1,hy2,hyn]) rfl ?_;rw[HX.out,←HE.out];have hst:=HT.out;have hst2:=HT2.out;have hn3:¬FQ R ov w.heap.size:=fun hF=>by have:=HS.out.own_lt hF;omega
           refine⟨rfl,?_,?_,?_⟩
           · omega
           · exact RdQ.auto HR1.out
           exact St.auto
         have HE:=Lib.hid ((S2' hfd hj0).symm.trans HF.out);have HFD:=Lib.hid hfd;obtain⟨b1,b2⟩:=beqs _ 0 _ hj0;clear hfd S2' S3' S4' S5';refine Z81 ?_;intro w1 g1 hc1 hf1 hy2 hyn hz1;have q0:w1.cell? ⟨w.heap.size,0,none⟩=some (.int .i64 0):=(hc1 _ _ (by simp;omega)).trans n0;have q1:w1.cell? ⟨w.heap.size,1,none⟩=some (.int .i64 0):=(hc1 _ _ (by simp;omega)).trans n1;have q2:w1.frozen? ⟨w.heap.size,0,none⟩=false:=(hf1 _ _ (by simp;omega)).trans n2;have q3:w1.frozen? ⟨w.heap.size,1,none⟩=false:=(hf1 _ _ (by simp;omega)).trans n3;refine Z125 ?_;intro hR1 x0 x1 x2 x3 xz xz1 hR3 hR4 HR1;clear hc1 hf1 n0 n1 n2 n3 hR1 x3 xz d0 d1 d2 dz1;go_wp2_with fail;refine (tq_wrong _ m (by omega) _).mono ?_;refine Z88 ?_;intro w4 g4 hc4 hf4 hz4;have r0:w4.cell? ⟨w.heap.size,0,none⟩=some (.int .i64 0):=by rw[hc4 _ _ (by simp;omega)];simp[go_sem,q0,hy2,hyn]
         have r1:w4.cell? ⟨w.heap.size,1,none⟩=some (.int .i64 0):=by rw[hc4 _ _ (by simp;omega)];simp[go_sem,q1,hy2,hyn]
         have r2:w4.frozen? ⟨w.heap.size,0,none⟩=false:=by rw[hf4 _ _ (by simp;omega)];simp[go_sem,q2,hy2,hyn]
         have r3:w4.frozen? ⟨w.heap.size,1,none⟩=false:=by rw[hf4 _ _ (by simp;omega)];simp[go_sem,q3,hy2,hyn]
         clear hc4 hf4;go_wp2_with fail;refine bodyPost_ret (v:=fv 3 m) (by simp[results,Tryz.results242,go_sem,r0,r1]) rfl ?_;exact J148
        | succ k =>
         have HE:=Lib.hid ((S5' _ hfd).symm.trans HF.out);have HFD:=Lib.hid hfd;have hkl:=Pl.feed_le _ _ hfd;rw[List.length_drop,bs_length]at hkl;have hk0:((k:Int)+1==0)=false:=by simp;omega
         clear hfd S2' S3' S4' S5';refine Z81 ?_;intro w1 g1 hc1 hf1 hy2 hyn hz1;have q0:w1.cell? ⟨w.heap.size,0,none⟩=some (.int .i64 0):=(hc1 _ _ (by simp;omega)).trans n0;have q1:w1.cell? ⟨w.heap.size,1,none⟩=some (.int .i64 0):=(hc1 _ _ (by simp;omega)).trans n1;have q2:w1.frozen? ⟨w.heap.size,0,none⟩=false:=(hf1 _ _ (by simp;omega)).trans n2;have q3:w1.frozen? ⟨w.heap.size,1,none⟩=false:=(hf1 _ _ (by simp;omega)).trans n3;refine Z125 ?_;intro hR1 x0 x1 x2 x3 xz xz1 hR3 hR4 HR1;clear hc1 hf1 n0 n1 n2 n3 hR1 x3 xz d0 d1 d2 dz1
         set_option maxRecDepth 100000 in
         go_wp2_with fail;have hk3:(↑m+(↑k+1):Int)=((m+(k+1):Nat):Int):=by omega
         go_roundw
         case rel =>
          rw[hk3];refine⟨m+(k+1),j+1,by go_num,by omega,by omega,?_,(HR1.out.setAt (m+(k+1))).alloc _,?_,by simp[World.setCell];omega,?_,?_,?_,?_⟩
          · rw[show ((j+1)==0)=false from by simp,HE.out]
          · exact ((((HT.out.trans HT2.out).gr (((Gr.refl wr).drewN _).trans g1)).setCell (.inl (.inl rfl)) _).alloc _)
          all_goals simp[go_sem,q0,q1,q2,q3,hy2,hyn,hRne]
         case measure =>
          rw[hk3,posW_eq ((HR1.out.setAt (m+(k+1))).alloc _),posW_eq HR.out];omega
     have hI:decide (0≤Lib.indexByte [32,9] s[m])=true:=by
      rw[decide_eq_true_iff,blank_idx,hb]
     have HB:=Lib.hid hb;clear hb;go_wp2_with fail
     go_quiet ((go_at_call 43;exact quiet_any (indexByte_blank _ true HB.out _) ⟨_,rfl⟩))
     go_wp2_with fail;have e1:(↑m+1:Int)=((m+1:Nat):Int):=by omega
     have hmo:=blanksAt_more (bs s) m (by rw[bs_length];exact hm) HB.out;have hm1:=Pl.blanksAt_le (bs s) (m+1) (by rw[bs_length];omega);have h3:=H3.out;have hrn:RdQ ((wr.setCell ⟨R,1,none⟩ (.int .i64 ((m+1:Nat):Int))).drewN nq) R s (m+1) q out ov:=(HR2.out.setAt (m+1)).drewN nq
     go_roundw
     case rel =>
      rw[e1];refine⟨m+1,by omega,by omega,by rw[←hmo,h3],?_,?_⟩
      · first|exact hrn|exact (HR2.out.drewN nq).setAt (m+1)
      exact St.trans HT2.out (by first|exact ((St.refl _ _).setCell (.inl (.inl rfl)) _).drewN _|exact ((St.refl _ _).drewN _).setCell (.inl (.inl rfl)) _)
     case measure =>
      rw[e1,HP2.out]
      first|rw[posW_eq hrn]|rw[posW_eq ((HR2.out.drewN nq).setAt (m+1))]
      omega
   have hd1:decide (m<s.size)=false:=by simp;omega
   have hme:m=Pl.blanksAt (bs s) n:=by
    rw[←H3.out];exact (blanksAt_here (bs s) m (fun h=>absurd h (by rw[bs_length];exact hm))).symm
   obtain⟨S1,S2,S3,S4,S5⟩:=Pl.foldAt_step (j==0) (bs s) n m (by rw[bs_length];exact hn) hme;have HE:=Lib.hid ((S1 (by rw[bs_length];omega)).symm.trans HF.out);have hbq:((m:Int)==(s.size:Int))=true:=by simp;omega
   clear S1 S2 S3 S4 S5 hme;have hu:=HT2.out.use w.heap.size (by omega) (fun hF=>by have:=HS.out.own_lt hF;omega);have n0:wr.cell? ⟨w.heap.size,0,none⟩=some (.int .i64 0):=(hu.1 0).trans m0;have n1:wr.cell? ⟨w.heap.size,1,none⟩=some (.int .i64 0):=(hu.1 1).trans m1;have n2:wr.frozen? ⟨w.heap.size,0,none⟩=false:=(hu.2 0).trans m2;have n3:wr.frozen? ⟨w.heap.size,1,none⟩=false:=(hu.2 1).trans m3;have hsz2:=HT2.out.size;clear hu m0 m1 m2 m3;go_wp2_with fail
   go_quiet (fail)
   go_wp2_with fail
   go_quiet (fail)
   go_wp2_with fail;refine bodyPost_ret (v:=f0) (by simp[results,Tryz.results242,go_sem,n0,n1]) rfl ?_;rw[HX.out,←HE.out];have hst:=HT.out;have hst2:=HT2.out;have hn3:¬FQ R ov w.heap.size:=fun hF=>by have:=HS.out.own_lt hF;omega
   refine⟨rfl,?_,?_,?_⟩
   · omega
   · exact RdQ.auto HR2.out
   exact St.auto
end Go.Proofs.YtfogfaagjpebcaaGreatDoor
namespace Go.Proofs.YtfogfaagjpebcaaGreatDoor
open Go.RowKit Go.Joins
namespace Pl
def hexRun:List UInt8→Nat→Nat
 | _,0=>0
 | [],_+1=>0
 | c::l,d+1=>if isHex c then hexRun l d+1 else 0
theorem hexRun_le (l:List UInt8) (d:Nat):hexRun l d≤d∧hexRun l d≤l.length:=by
 induction l generalizing d with
 | nil=>cases d <;> simp[hexRun]
 | cons c l ih =>
  cases d with
  | zero=>simp[hexRun]
  | succ d=>have:=ih d;simp only[hexRun];split <;> simp <;> omega
theorem hexRun_at (l:List UInt8) (d j:Nat) (hj:j≤hexRun l d):hexRun l d=j+hexRun (l.drop j) (d-j):=by
 induction l generalizing d j with
 | nil=>cases d <;> simp[hexRun]at hj <;> subst hj <;> simp[hexRun]
 | cons c l ih =>
  cases j with
  | zero=>simp
  | succ j =>
   cases d with
   | zero=>simp[hexRun]at hj
   | succ d =>
    simp only[hexRun]at hj ⊢
    split at hj
    · rename_i hc
      rw[if_pos hc,ih d j (by omega)];simp only[List.drop_succ_cons,Nat.add_sub_add_right];omega
    omega
theorem hexRun_all (l:List UInt8) (d:Nat) (h:hexRun l d=d):∀c∈l.take d,isHex c=true:=by
 induction l generalizing d with
 | nil=>simp
 | cons c l ih =>
  cases d with
  | zero=>simp
  | succ d =>
   simp only[hexRun]at h
   split at h
   · rename_i hc
     intro x hx;rw[List.take_succ_cons,List.mem_cons]at hx;rcases hx with rfl|hx
     · exact hc
     exact ih d (by omega) x hx
   omega
def unitAt (l:List UInt8) (p d:Nat):Out Nat :=
 if hexRun (l.drop p) d<d then .bad 3 (p+hexRun (l.drop p) d)
 else if Lib.validRune (hexVal ((l.drop p).take d)) then .ok (hexVal ((l.drop p).take d)) else .bad 3 p
def runeBytes (n:Nat):List UInt8:=(Lib.encodeRuneZ n).map fun x=>x.toNat.toUInt8
theorem unitAt_end (l:List UInt8) (p d j:Nat) (hj:j≤hexRun (l.drop p) d) (hd:j<d) (he:l.length≤p+j):unitAt l p d = .bad 3 (p+j):=by
 have h1:=hexRun_at _ _ _ hj;have h2:(l.drop p).drop j=[]:=by rw[List.drop_drop];exact List.drop_eq_nil_of_le (by omega)
 rw[h2]at h1;have h3:hexRun [] (d-j)=0:=by cases (d-j) <;> rfl
 have h4:hexRun (l.drop p) d=j:=by omega
 simp[unitAt,h4,hd]
theorem unitAt_step (l:List UInt8) (p d j:Nat) (hj:j≤hexRun (l.drop p) d) (hd:j<d) (c:UInt8) (r:List UInt8) (he:l.drop (p+j)=c::r) :
    (isHex c=true→j+1≤hexRun (l.drop p) d)∧(isHex c=false→unitAt l p d = .bad 3 (p+j)):=by
 have h1:=hexRun_at _ _ _ hj;rw[List.drop_drop,he]at h1;obtain⟨k,hk⟩:∃k,d-j=k+1:=⟨d-j-1,by omega⟩
 rw[hk]at h1;simp only[hexRun]at h1;constructor
 · intro hc;rw[if_pos hc]at h1;omega
 intro hc;rw[if_neg (by simp[hc])]at h1;have h4:hexRun (l.drop p) d=j:=by omega
 simp[unitAt,h4,hd]
end Pl
theorem bs_mid (s:ByteArray) (i k:Nat) (h:i≤k) (hk:k≤s.size):bs (s.extract i k)=((bs s).drop i).take (k-i):=by
 simp only[bs,Lib.extract_data]
set_option maxRecDepth 100000 in
theorem tq_unit (w:World) (R:Nat) (s:ByteArray) (a:Nat) (q:UInt8) (out:List UInt8) (ov:Value) (h:RdQ w R s a q out ov) (hv:EsV w)
    (d:Nat) (hd:d=4∨d=8) (hlt:a<s.size) (hs:s.size≤20000000) (hlen:out.length≤29000000) :
    Calls Tryz.prog 234 #[.pointer (some ⟨R,0,none⟩),.int .i64 d] w fun e w'=>match Pl.unitAt (bs s) (a+2) d with
     | .ok n=>e = .returned f0∧∃ov',RdQ w' R s (a+2+d) q (out++Pl.runeBytes n) ov'∧St (FQ R ov) (FQ R ov') w w'
     | .bad c p=>e = .returned (fv c p)∧St (FQ R ov) (FQ R ov) w w':=by
 obtain⟨X,hX⟩:∃X:Ending→World→Prop,X=fun e w'=>match Pl.unitAt (bs s) (a+2) d with
     | .ok n=>e = .returned f0∧∃ov',RdQ w' R s (a+2+d) q (out++Pl.runeBytes n) ov'∧St (FQ R ov) (FQ R ov') w w'
     | .bad c p=>e = .returned (fv c p)∧St (FQ R ov) (FQ R ov) w w':=⟨_,rfl⟩
 rw[←hX];have HX:=Lib.hid hX;refine Z232 ?_;intro c0 c1 c2 c3 fz hR;have HS:=Lib.hid h;have HV:=Lib.hid hv;have hd8:d≤8:=by omega
 have hd4:4≤d:=by omega
 clear fz h hX c3 hv hd;go_enter Tryz.func234,Tryz.ntmps234;go_wp2_with fail
 go_loopw [6] (fun l wr=>∃j:Nat,l = .int .i64 ((a:Int)+2+j)∧j≤d∧j≤Pl.hexRun ((bs s).drop (a+2)) d∧Gr w wr∧w.heap.size+1≤wr.heap.size ∧
     wr.cell? ⟨w.heap.size,0,none⟩=some (.int .i64 0)∧wr.cell? ⟨w.heap.size,1,none⟩=some (.int .i64 0)∧wr.frozen? ⟨w.heap.size,0,none⟩=false∧wr.frozen? ⟨w.heap.size,1,none⟩=false)
  (fun l _=>a+2+d-(intOf l).toNat)
 case atStart =>
  refine⟨0,by simp,by omega,by omega,(Gr.refl w).alloc _,by simp,?_,?_,?_,?_⟩
  all_goals simp[go_sem]
 case round =>
  obtain⟨j,rfl,hj,hjr,hg,hz,m0,m1,m2,m3⟩:=hrel;have hr:=HS.out.gr hg;obtain⟨d0,d1,d2,d3,dz⟩:=hr.cells;have HR:=Lib.hid hr;have HG:=Lib.hid hg;clear hr hg d3 dz c0 c1 c2;by_cases hjd:j<d
  · by_cases hend:s.size≤a+2+j
    · have hU:=Lib.hid (Pl.unitAt_end (bs s) (a+2) d j hjr hjd (by rw[bs_length];exact hend));go_wp2_with fail;refine (tq_wrong _ (a+2+j) (by omega) _).mono ?_;rintro e w1 ⟨rfl,g1⟩;obtain⟨hc1,hf1,hz1⟩:=g1.use;have q0:w1.cell? ⟨w.heap.size,0,none⟩=some (.int .i64 0):=(hc1 _ _ (by omega)).trans m0;have q1:w1.cell? ⟨w.heap.size,1,none⟩=some (.int .i64 0):=(hc1 _ _ (by omega)).trans m1;have q2:w1.frozen? ⟨w.heap.size,0,none⟩=false:=(hf1 _ _ (by omega)).trans m2;have q3:w1.frozen? ⟨w.heap.size,1,none⟩=false:=(hf1 _ _ (by omega)).trans m3;clear hc1 hf1 m0 m1 m2 m3;go_wp2_with fail;refine bodyPost_ret (v:=fv 3 (a+2+j)) (by simp[results,Tryz.results234,go_sem,q0,q1]) rfl ?_;rw[HX.out,hU.out];have hst:St (FQ R ov) (FQ R ov) w w1:=((HG.out.trans g1)).st;exact⟨rfl,St.auto⟩
    have hin:a+2+j<s.size:=by omega
    obtain⟨u1,u2⟩:=Pl.unitAt_step (bs s) (a+2) d j hjr hjd s[a+2+j] _ (idx_bs s (a+2+j) hin);have ht:bs (s.extract (a+2+j) (a+2+j+1))=[s[a+2+j]]:=by
     rw[bs_mid s _ _ (by omega) (by omega),idx_bs s (a+2+j) hin];simp
    obtain⟨t,hte⟩:∃t,t=s.extract (a+2+j) (a+2+j+1):=⟨_,rfl⟩
    rw[←hte]at ht;go_wp2_with fail;rw[←hte];refine (spu_one t _ ht _ (HV.out.gr HG.out)).mono ?_;rintro e w1 ⟨g1,nn,vv,rfl,k1,k2⟩;cases hx:Pl.isHex s[a+2+j]
    · obtain⟨T,p,rfl⟩:=k2 hx;have hU:=Lib.hid (u2 hx);clear u1 u2 k1 k2 hte ht hx;obtain⟨hc1,hf1,hz1⟩:=g1.use;have n0:w1.cell? ⟨w.heap.size,0,none⟩=some (.int .i64 0):=(hc1 _ _ (by omega)).trans m0;have n1:w1.cell? ⟨w.heap.size,1,none⟩=some (.int .i64 0):=(hc1 _ _ (by omega)).trans m1;have n2:w1.frozen? ⟨w.heap.size,0,none⟩=false:=(hf1 _ _ (by omega)).trans m2;have n3:w1.frozen? ⟨w.heap.size,1,none⟩=false:=(hf1 _ _ (by omega)).trans m3;clear hc1 hf1 m0 m1 m2 m3;go_wp2_with fail;refine (tq_wrong _ (a+2+j) (by omega) _).mono ?_;rintro e w2 ⟨rfl,g2⟩;obtain⟨hc1,hf1,hz2⟩:=g2.use;have q0:w2.cell? ⟨w.heap.size,0,none⟩=some (.int .i64 0):=(hc1 _ _ (by omega)).trans n0;have q1:w2.cell? ⟨w.heap.size,1,none⟩=some (.int .i64 0):=(hc1 _ _ (by omega)).trans n1;have q2:w2.frozen? ⟨w.heap.size,0,none⟩=false:=(hf1 _ _ (by omega)).trans n2;have q3:w2.frozen? ⟨w.heap.size,1,none⟩=false:=(hf1 _ _ (by omega)).trans n3;clear hc1 hf1 n0 n1 n2 n3;go_wp2_with fail;refine bodyPost_ret (v:=fv 3 (a+2+j)) (by simp[results,Tryz.results234,go_sem,q0,q1]) rfl ?_;rw[HX.out,hU.out];have hst:St (FQ R ov) (FQ R ov) w w2:=(((HG.out.trans g1)).trans g2).st;exact⟨rfl,St.auto⟩
    obtain rfl:=k1 hx;have hj1:=u1 hx;clear u1 u2 k1 k2 hte ht hx;obtain⟨hc1,hf1,hz1⟩:=g1.use;have n0:w1.cell? ⟨w.heap.size,0,none⟩=some (.int .i64 0):=(hc1 _ _ (by omega)).trans m0;have n1:w1.cell? ⟨w.heap.size,1,none⟩=some (.int .i64 0):=(hc1 _ _ (by omega)).trans m1;have n2:w1.frozen? ⟨w.heap.size,0,none⟩=false:=(hf1 _ _ (by omega)).trans m2;have n3:w1.frozen? ⟨w.heap.size,1,none⟩=false:=(hf1 _ _ (by omega)).trans m3;clear hc1 hf1 m0 m1 m2 m3;go_wp2_with fail;refine⟨⟨j+1,(by first|rfl|(congr 1;omega)),by omega,hj1,HG.out.trans g1,by omega,n0,n1,n2,n3⟩,by simp[intOf];omega⟩
  obtain rfl:j=d:=by omega
  have hrl:=Pl.hexRun_le ((bs s).drop (a+2)) j;have hrd:Pl.hexRun ((bs s).drop (a+2)) j=j:=by omega
  have hle:a+2+j≤s.size:=by
   have:=hrl.2;rw[List.length_drop,bs_length]at this;omega
  have hall:=Pl.hexRun_all _ _ hrd;have ht:bs (s.extract (a+2) (a+2+j))=((bs s).drop (a+2)).take j:=by
   rw[bs_mid s _ _ (by omega) (by omega)];congr 1;omega
  have htz:(s.extract (a+2) (a+2+j)).size=j:=by simp;omega
  have hUA:Pl.unitAt (bs s) (a+2) j=if Lib.validRune (Pl.hexVal (bs (s.extract (a+2) (a+2+j)))) then .ok (Pl.hexVal (bs (s.extract (a+2) (a+2+j)))) else .bad 3 (a+2):=by
   rw[ht];simp[Pl.unitAt,hrd]
  have hvl:Pl.hexVal (bs (s.extract (a+2) (a+2+j)))<4294967296:=by
   have h1:=Pl.foldHex_lt _ 0 hall;rw[←ht]at h1;have h2:16 ^ (bs (s.extract (a+2) (a+2+j))).length≤16 ^ 8:=Nat.pow_le_pow_right (by omega) (by rw[bs_length,htz];exact hd8);have h3:Pl.hexVal (bs (s.extract (a+2) (a+2+j)))<(0+1)*16 ^ (bs (s.extract (a+2) (a+2+j))).length:=h1;omega
  rw[←ht]at hall;clear hrl hrd hjr ht;obtain⟨t,hte⟩:∃t,t=s.extract (a+2) (a+2+j):=⟨_,rfl⟩
  rw[←hte]at htz hUA hvl hall;go_wp2_with fail;rw[←hte];refine (spu_hex t (by omega) (by omega) hall _).mono ?_;rintro e w1 ⟨g1,rfl⟩;obtain⟨n,hn⟩:∃n,n=Pl.hexVal (bs t):=⟨_,rfl⟩
  rw[←hn]at hUA hvl ⊢;have HU:=Lib.hid hUA;clear hUA hall hte htz hn;obtain⟨hc1,hf1,hz1⟩:=g1.use;have n0:w1.cell? ⟨w.heap.size,0,none⟩=some (.int .i64 0):=(hc1 _ _ (by omega)).trans m0;have n1:w1.cell? ⟨w.heap.size,1,none⟩=some (.int .i64 0):=(hc1 _ _ (by omega)).trans m1;have n2:w1.frozen? ⟨w.heap.size,0,none⟩=false:=(hf1 _ _ (by omega)).trans m2;have n3:w1.frozen? ⟨w.heap.size,1,none⟩=false:=(hf1 _ _ (by omega)).trans m3;clear hc1 hf1 m0 m1 m2 m3;by_cases hbig:1114111<n
  · have hi:(1114111:Int)<n:=by omega
    have HVR:=Lib.hid (show Lib.validRune n=false by simp[Lib.validRune];omega);exact J94
  have hi:(n:Int)≤1114111:=by omega
  go_wp2_with fail;refine (Tryz.utf8_ValidRune n w1).mono ?_;refine Z48 ?_;cases hvr:Lib.validRune n
  · have HVR:=Lib.hid hvr;clear hvr;exact J94
  have HVR:=Lib.hid hvr;clear hvr;have hw:IntKind.i64.wrap (n:Int)=(n:Int):=by rw[IntKind.wrap_i64];omega
  clear hvl hbig
  first|(rename_i hx;have _hx:(n:Int)≤1114111:=hx;clear _hx hx)|skip
  rename_i K1 b1 K2 b2 K3 b3
  refine b3 _ _ ?_;clear b3 K3;have B2:=Lib.hid b2;have B1:=Lib.hid b1;clear b2 b1;go_wp2_with fail;refine B2.out _ _ ?_;have hdb:decide ((1114111:Int)<(n:Int))=false:=decide_eq_false (by omega)
  try simp only[hdb]
  clear hdb;go_wp2_with fail;refine B1.out _ _ ?_;clear B1 B2;have hrb:(Pl.runeBytes n).map byteV=Lib.runeCells n:=Lib.byteCells_encodeRune n;have hrl:(Lib.runeCells n).length=(Pl.runeBytes n).length:=Lib.runeCells_length n;have hrle:=Lib.runeCells_le n;have hne:Pl.runeBytes n≠[]:=by intro e;rw[hrl,e]at hrle;simp at hrle
  rw[hrl]at hrle;obtain⟨rb,hrbe⟩:∃rb,rb=Pl.runeBytes n:=⟨_,rfl⟩
  rw[←hrbe]at hrb hrl hrle hne;have HB:=Lib.hid hrb;have HL:=Lib.hid hrl;have HN:=Lib.hid hne;have HE:=Lib.hid hrbe;clear hrb hrl hne hrbe;go_wp2_with fail;refine (put_one w1.heap.size 0 1 n (by omega) _ (by simp[go_sem])).mono ?_;rintro e w2 ⟨gb,cap,rfl,hgb,g2,hcell⟩;rw[HL.out];rw[←HB.out]at hcell;have g12:Gr w1 w2:=((Gr.refl _).alloc _).trans g2;obtain⟨hc1,hf1,hz2⟩:=g12.use;simp at hgb;have q0:w2.cell? ⟨w.heap.size,0,none⟩=some (.int .i64 0):=(hc1 _ _ (by omega)).trans n0;have q1:w2.cell? ⟨w.heap.size,1,none⟩=some (.int .i64 0):=(hc1 _ _ (by omega)).trans n1;have q2:w2.frozen? ⟨w.heap.size,0,none⟩=false:=(hf1 _ _ (by omega)).trans n2;have q3:w2.frozen? ⟨w.heap.size,1,none⟩=false:=(hf1 _ _ (by omega)).trans n3;have HC:=Lib.hid hcell;have HT:=Lib.hid g12;have HT1:=Lib.hid g1;clear hc1 hf1 n0 n1 n2 n3 hcell g12 g1 g2;go_wp2_with fail;refine (tq_take _ R s a q out ov ((HR.out.gr HT1.out).gr HT.out) _ (2+j) (by simp) (by omega) rb gb 0 cap HN.out (by omega) HC.out (by omega)).mono ?_;rintro e w3 ⟨rfl,ov',hr,hst⟩;have hb3:=hst.use w.heap.size (by omega) (fun hF=>by have:=HS.out.own_lt hF;omega);have hz:=hst.size;obtain⟨hc1,hf1⟩:=hb3;refine Z163 ?_;intro HR3 HST;have r0:w3.cell? ⟨w.heap.size,0,none⟩=some (.int .i64 0):=(hc1 _).trans q0;have r1:w3.cell? ⟨w.heap.size,1,none⟩=some (.int .i64 0):=(hc1 _).trans q1;have r2:w3.frozen? ⟨w.heap.size,0,none⟩=false:=(hf1 _).trans q2;have r3:w3.frozen? ⟨w.heap.size,1,none⟩=false:=(hf1 _).trans q3;clear hr hst hc1 hf1 q0 q1 q2 q3;go_wp2_with fail;refine bodyPost_ret (v:=f0) (by simp[results,Tryz.results234,go_sem,r0,r1]) rfl ?_;rw[HX.out,HU.out,HVR.out,if_pos rfl];refine⟨rfl,ov',?_,?_⟩
  · have hn3:¬FQ R ov' w.heap.size:=fun hF=>by
     rcases HST.out.own _ hF with hF|hF
     · have:=HS.out.own_lt hF;omega
     omega
    have e1:a+(2+j)=a+2+j:=by omega
    have hrd:=HR3.out;rw[e1,HE.out]at hrd;exact RdQ.auto hrd
  have hst0:St (FQ R ov) (FQ R ov') w w3:=((HG.out.trans (HT1.out.trans HT.out)).st).trans HST.out;have hst:=hst0;exact St.auto
end Go.Proofs.YtfogfaagjpebcaaGreatDoor
namespace Go.Proofs.YtfogfaagjpebcaaGreatDoor
open Go.RowKit Go.Joins
namespace Pl
def escIdx (T:Nat→UInt8 × UInt8) (c:UInt8) (k:Nat):Nat→Option Nat
 | 0=>none
 | n+1=>if c.toNat=(T k).1.toNat then some k else escIdx T c (k+1) n
theorem escIdx_hit (T:Nat→UInt8 × UInt8) (c:UInt8) (k n:Nat) (h:(c.toNat==(T k).1.toNat)=true):escIdx T c k (n+1)=some k:=by
 simp at h;simp[escIdx,h]
theorem escIdx_miss (T:Nat→UInt8 × UInt8) (c:UInt8) (k n:Nat) (h:(c.toNat==(T k).1.toNat)=false):escIdx T c k (n+1)=escIdx T c (k+1) n:=by
 simp at h;simp[escIdx,h]
def escAt (T:Nat→UInt8 × UInt8) (l:List UInt8) (a:Nat):Out (List UInt8 × Nat) :=
 match l.drop (a+1) with
 | [] => .bad 3 l.length
 | c::_=>match escIdx T c 0 7 with
  | some k => .ok ([(T k).2],a+2)
  | none =>
   if c.toNat=117 then match unitAt l (a+2) 4 with|.ok n => .ok (runeBytes n,a+2+4)|.bad c p => .bad c p
   else if c.toNat=85 then match unitAt l (a+2) 8 with|.ok n => .ok (runeBytes n,a+2+8)|.bad c p => .bad c p
   else .bad 3 (a+1)
theorem escAt_end (T) (l:List UInt8) (a:Nat) (h:l.length=a+1):escAt T l a = .bad 3 (a+1):=by
 unfold escAt;rw[List.drop_of_length_le (by omega),h]
theorem escAt_in (T) (l:List UInt8) (a:Nat) (c:UInt8) (r:List UInt8) (h:l.drop (a+1)=c::r):escAt T l a=match escIdx T c 0 7 with
    | some k => .ok ([(T k).2],a+2)
    | none =>
     if c.toNat=117 then match unitAt l (a+2) 4 with|.ok n => .ok (runeBytes n,a+2+4)|.bad c p => .bad c p
     else if c.toNat=85 then match unitAt l (a+2) 8 with|.ok n => .ok (runeBytes n,a+2+8)|.bad c p => .bad c p
     else .bad 3 (a+1):=by
 unfold escAt;rw[h]
end Pl
def shC (T:Nat→UInt8 × UInt8):Array Value:=#[byteV (T 0).1,byteV (T 0).2,byteV (T 1).1,byteV (T 1).2,byteV (T 2).1,byteV (T 2).2,byteV (T 3).1,byteV (T 3).2,byteV (T 4).1,byteV (T 4).2,byteV (T 5).1,byteV (T 5).2,byteV (T 6).1,byteV (T 6).2]
def ShW (T:Nat→UInt8 × UInt8) (w:World):Prop:=∀j v,(shC T)[j]?=some v→w.cell? ⟨15,j,none⟩=some v
theorem ShW.gr {T} {w w':World} (h:ShW T w) (g:Gr w w'):ShW T w':=fun j v hj=>(g.use.1 _ _ (Lib.lt_of_cell (h j v hj))).trans (h j v hj)
set_option maxRecDepth 1000000 in
theorem sh_index (T:Nat→UInt8 × UInt8) (k:Nat) (hk:k<7) (W:World) :
    (Instr.index 307 (.agg (shC T)) (.int .i64 k)).run Tryz.prog W = .ok (.agg #[byteV (T k).1,byteV (T k).2]) W:=by
 have:k=0∨k=1∨k=2∨k=3∨k=4∨k=5∨k=6:=by omega
 rcases this with rfl|rfl|rfl|rfl|rfl|rfl|rfl
 all_goals (show _=_;first|kernel_rfl|rfl)
set_option maxRecDepth 100000 in
theorem tq_escaped (w:World) (R:Nat) (s:ByteArray) (a:Nat) (q:UInt8) (out:List UInt8) (ov:Value) (h:RdQ w R s a q out ov) (hv:EsV w)
    (T:Nat→UInt8 × UInt8) (ht:ShW T w) (hlt:a<s.size) (hs:s.size≤20000000) (hlen:out.length≤29000000) :
    Calls Tryz.prog 233 #[.pointer (some ⟨R,0,none⟩)] w fun e w'=>match Pl.escAt T (bs s) a with
     | .ok r=>e = .returned f0∧∃ov',RdQ w' R s r.2 q (out++r.1) ov'∧St (FQ R ov) (FQ R ov') w w'
     | .bad c p=>e = .returned (fv c p)∧St (FQ R ov) (FQ R ov) w w':=by
 obtain⟨X,hX⟩:∃X:Ending→World→Prop,X=fun e w'=>match Pl.escAt T (bs s) a with
     | .ok r=>e = .returned f0∧∃ov',RdQ w' R s r.2 q (out++r.1) ov'∧St (FQ R ov) (FQ R ov') w w'
     | .bad c p=>e = .returned (fv c p)∧St (FQ R ov) (FQ R ov) w w':=⟨_,rfl⟩
 rw[←hX];have HX:=Lib.hid hX;refine Z232 ?_;intro c0 c1 c2 c3 fz hR;have HS:=Lib.hid h;have HV:=Lib.hid hv;have HT:=Lib.hid ht;clear fz h hX c3 hv ht;have hw1:=IntWalk.i64_in ((a:Int)+1) (by omega);have hk1:((a:Int)+1).toNat=a+1:=by omega
 by_cases hend:s.size=a+1
 · have hb:((a:Int)+1==(s.size:Int))=true:=by simp;omega
   have HU:=Lib.hid (Pl.escAt_end T (bs s) a (by rw[bs_length];exact hend));go_enter Tryz.func233,Tryz.ntmps233;go_wp2_with fail
   go_quiet (fail)
   go_wp2_with fail;refine (tq_wrong _ (a+1) (by omega) _).mono ?_;refine Z88 ?_;intro w1 g1 hc1 hf1 hz1;have q0:w1.cell? ⟨w.heap.size,0,none⟩=some (.int .i64 0):=(hc1 _ _ (by simp)).trans (by simp);have q1:w1.cell? ⟨w.heap.size,1,none⟩=some (.int .i64 0):=(hc1 _ _ (by simp)).trans (by simp);have q2:w1.frozen? ⟨w.heap.size,0,none⟩=false:=(hf1 _ _ (by simp)).trans (by simp[go_sem]);have q3:w1.frozen? ⟨w.heap.size,1,none⟩=false:=(hf1 _ _ (by simp)).trans (by simp[go_sem]);have hy1:w.heap.size<w1.heap.size:=by omega
   clear hc1 hf1;go_wp2_with fail;refine bodyPost_ret (v:=fv 3 (a+1)) (by simp[results,Tryz.results233,go_sem,q0,q1]) rfl ?_;rw[HX.out,HU.out];exact⟨rfl,St.auto⟩
 have hb:((a:Int)+1==(s.size:Int))=false:=by simp;omega
 have hin:a+1<s.size:=by omega
 have hi1:(0:Int)≤(a:Int)+1:=by omega
 have hi2:(a:Int)+1<(s.size:Int):=by omega
 have t0:w.cell? ⟨15,0,none⟩=some (.int .u8 (T 0).1.toNat):=HT.out 0 _ rfl;have t1:w.cell? ⟨15,1,none⟩=some (.int .u8 (T 0).2.toNat):=HT.out 1 _ rfl;have t2:w.cell? ⟨15,2,none⟩=some (.int .u8 (T 1).1.toNat):=HT.out 2 _ rfl;have t3:w.cell? ⟨15,3,none⟩=some (.int .u8 (T 1).2.toNat):=HT.out 3 _ rfl;have t4:w.cell? ⟨15,4,none⟩=some (.int .u8 (T 2).1.toNat):=HT.out 4 _ rfl;have t5:w.cell? ⟨15,5,none⟩=some (.int .u8 (T 2).2.toNat):=HT.out 5 _ rfl;have t6:w.cell? ⟨15,6,none⟩=some (.int .u8 (T 3).1.toNat):=HT.out 6 _ rfl;have t7:w.cell? ⟨15,7,none⟩=some (.int .u8 (T 3).2.toNat):=HT.out 7 _ rfl;have t8:w.cell? ⟨15,8,none⟩=some (.int .u8 (T 4).1.toNat):=HT.out 8 _ rfl;have t9:w.cell? ⟨15,9,none⟩=some (.int .u8 (T 4).2.toNat):=HT.out 9 _ rfl;have t10:w.cell? ⟨15,10,none⟩=some (.int .u8 (T 5).1.toNat):=HT.out 10 _ rfl;have t11:w.cell? ⟨15,11,none⟩=some (.int .u8 (T 5).2.toNat):=HT.out 11 _ rfl;have t12:w.cell? ⟨15,12,none⟩=some (.int .u8 (T 6).1.toNat):=HT.out 12 _ rfl;have t13:w.cell? ⟨15,13,none⟩=some (.int .u8 (T 6).2.toNat):=HT.out 13 _ rfl;have hlg:15<w.heap.size:=Lib.lt_of_cell t0;have HE:=Lib.hid (Pl.escAt_in T (bs s) a s[a+1] _ (idx_bs s (a+1) hin));obtain⟨c,hce⟩:∃c,c=s[a+1]:=⟨_,rfl⟩
 rw[←hce]at HE;go_enter Tryz.func233,Tryz.ntmps233;go_wp2_with fail
 go_quiet (fail)
 go_wp2_with fail
 go_quiet (fail)
 rw[←hce];clear hce;go_wp2_with fail
 go_loopw [34] (fun v wr=>∃k:Nat,v = .int .i64 k∧k≤7∧Pl.escIdx T c 0 7=Pl.escIdx T c k (7-k)∧Gr w wr∧w.heap.size+1≤wr.heap.size ∧
  wr.cell? ⟨w.heap.size,0,none⟩=some (.int .i64 0)∧wr.cell? ⟨w.heap.size,1,none⟩=some (.int .i64 0)∧wr.frozen? ⟨w.heap.size,0,none⟩=false∧wr.frozen? ⟨w.heap.size,1,none⟩=false)
  (fun v _=>7-(intOf v).toNat)
 case atStart =>
  refine⟨0,rfl,by omega,rfl,Gr.auto,by simp,?_,?_,?_,?_⟩
  all_goals simp[go_sem]
 case round =>
  obtain⟨k,rfl,hk,hi,hg,hz,m0,m1,m2,m3⟩:=hrel;have hr:=HS.out.gr hg;obtain⟨d0,d1,d2,d3,dz⟩:=hr.cells;have HR:=Lib.hid hr;have HG:=Lib.hid hg;have HI:=Lib.hid hi;have hn:¬FQ R ov wr.heap.size:=fun hF=>by have:=HR.out.own_lt hF;omega
  have hn0:¬FQ R ov w.heap.size:=fun hF=>by have:=HS.out.own_lt hF;omega
  have hlw:w.heap.size<wr.heap.size:=by omega
  have hlne:¬w.heap.size=wr.heap.size:=by omega
  clear hr hg hi d3 dz c0 c1 c2;by_cases hk7:k<7
  · have i0:∀W,(Instr.index 307 (.agg (shC T)) (.int .i64 k)).run Tryz.prog W = .ok (.agg #[byteV (T k).1,byteV (T k).2]) W:=fun W=>sh_index T k hk7 W
    simp only[shC,byteV]at i0;have hd:decide (k<7)=true:=by simp;omega
    cases hc:(c.toNat==(T k).1.toNat)
    · have hm:=Lib.hid (Pl.escIdx_miss T c k (6-k) hc);obtain⟨b1,b2⟩:=beqs _ _ _ hc;clear hc;go_wp2_with fail;refine⟨⟨k+1,by simp,by omega,?_,Gr.auto,?_,?_,?_,?_,?_⟩,by simp[intOf];omega⟩
      · rw[HI.out,show 7-k=6-k+1 by omega,hm.out,show 6-k=7-(k+1) by omega]
      · simp;omega
      all_goals simp[go_sem,m0,m1,m2,m3,hlw,hlne]
    have hm:=Lib.hid (Pl.escIdx_hit T c k (6-k) hc);obtain⟨b1,b2⟩:=beqs _ _ _ hc;clear hc;go_wp2_with fail;refine (tq_take _ R s a q out ov (RdQ.auto HR.out) 2 2 rfl (by omega) [(T k).2] (wr.heap.size+1) 0 1 (by simp) (by omega) (news_one _ _ _ _ (by simp)) (by simp;omega)).mono ?_;rintro e w1 ⟨rfl,ov',hr,hst⟩;obtain⟨hc1,hf1⟩:=hst.use w.heap.size (by simp;omega) hn0;have hz1:=hst.size;simp at hz1;have r0:w1.cell? ⟨w.heap.size,0,none⟩=some (.int .i64 0):=(hc1 _).trans (by simp[go_sem,m0,hlw,hlne]);have r1:w1.cell? ⟨w.heap.size,1,none⟩=some (.int .i64 0):=(hc1 _).trans (by simp[go_sem,m1,hlw,hlne]);have r2:w1.frozen? ⟨w.heap.size,0,none⟩=false:=(hf1 _).trans (by simp[go_sem,m2,hlw,hlne]);have r3:w1.frozen? ⟨w.heap.size,1,none⟩=false:=(hf1 _).trans (by simp[go_sem,m3,hlw,hlne]);refine Z163 ?_;intro HR1 HST;clear hr hst hc1 hf1 m0 m1 m2 m3;go_wp2_with fail;refine Z258 ?_;rw[HX.out,HE.out,HI.out,show 7-k=6-k+1 by omega,hm.out];refine⟨rfl,ov',?_,?_⟩
    · have hn3:¬FQ R ov' w.heap.size:=fun hF=>by
       rcases HST.out.own _ hF with hF|hF
       · exact hn0 hF
       simp at hF;omega
      have hrd:=HR1.out;exact RdQ.auto hrd
    have hst0:St (FQ R ov) (FQ R ov') w w1:=(Gr.st Gr.auto).trans HST.out;have hst:=hst0;exact St.auto
  obtain rfl:k=7:=by omega
  have hd:decide ((7:Nat)<7)=false:=by simp
  have HN:RowKit.Hid (Pl.escIdx T c 0 7=none):=Lib.hid HI.out;cases hu:(c.toNat==117)
  · obtain⟨b1,b2⟩:=beqs _ 117 _ hu;have hu':¬c.toNat=117:=by simpa using hu
    cases hU:(c.toNat==85)
    · obtain⟨b3,b4⟩:=beqs _ 85 _ hU;have hU':¬c.toNat=85:=by simpa using hU
      have HF:Pl.escAt T (bs s) a = .bad 3 (a+1):=by rw[HE.out,HN.out];simp[hu',hU']
      have HQ:=Lib.hid HF;clear HF hu hU hu' hU';go_wp2_with fail;refine (tq_wrong _ (a+1) (by omega) _).mono ?_;rintro e w1 ⟨rfl,g1⟩;obtain⟨hc1,hf1,hz1⟩:=g1.use;have r0:w1.cell? ⟨w.heap.size,0,none⟩=some (.int .i64 0):=(hc1 _ _ hlw).trans m0;have r1:w1.cell? ⟨w.heap.size,1,none⟩=some (.int .i64 0):=(hc1 _ _ hlw).trans m1;have r2:w1.frozen? ⟨w.heap.size,0,none⟩=false:=(hf1 _ _ hlw).trans m2;have r3:w1.frozen? ⟨w.heap.size,1,none⟩=false:=(hf1 _ _ hlw).trans m3;clear hc1 hf1 m0 m1 m2 m3;go_wp2_with fail;refine bodyPost_ret (v:=fv 3 (a+1)) (by simp[results,Tryz.results233,go_sem,r0,r1]) rfl ?_;rw[HX.out,HQ.out];have hst:St (FQ R ov) (FQ R ov) w w1:=(HG.out.trans g1).st;exact⟨rfl,St.auto⟩
    obtain⟨b3,b4⟩:=beqs _ 85 _ hU;have hU':c.toNat=85:=by simpa using hU
    clear hu hU;have HF:Pl.escAt T (bs s) a=match Pl.unitAt (bs s) (a+2) 8 with|.ok n => .ok (Pl.runeBytes n,a+2+8)|.bad c p => .bad c p:=by
     rw[HE.out,HN.out];simp[hu',hU']
    clear hu' hU';go_wp2_with fail;refine (tq_unit _ R s a q out ov HR.out (HV.out.gr HG.out) 8 (by omega) hlt hs hlen).mono ?_;intro e w1 hp;cases hq:Pl.unitAt (bs s) (a+2) 8 with
    | ok n =>
     exact J85
    | bad c' p =>
     exact J93
  obtain⟨b1,b2⟩:=beqs _ 117 _ hu;have hu':c.toNat=117:=by simpa using hu
  clear hu;have HF:Pl.escAt T (bs s) a=match Pl.unitAt (bs s) (a+2) 4 with|.ok n => .ok (Pl.runeBytes n,a+2+4)|.bad c p => .bad c p:=by
   rw[HE.out,HN.out];simp[hu']
  clear hu';go_wp2_with fail;refine (tq_unit _ R s a q out ov HR.out (HV.out.gr HG.out) 4 (by omega) hlt hs hlen).mono ?_;intro e w1 hp;cases hq:Pl.unitAt (bs s) (a+2) 4 with
  | ok n =>
   exact J85
  | bad c' p =>
   exact J93
end Go.Proofs.YtfogfaagjpebcaaGreatDoor
namespace Go.Proofs.YtfogfaagjpebcaaGreatDoor
open Go.RowKit Go.Joins
namespace Pl
def escSR (T:Nat→UInt8 × UInt8) (l:List UInt8):SR :=
 match escAt T l 0 with
 | .ok r => .go r.2 r.1 false
 | .bad _ p => .bad p
theorem unitAt_rel (l:List UInt8) (a p d:Nat):unitAt l (a+p) d=match unitAt (l.drop a) p d with|.ok n => .ok n|.bad c k => .bad c (a+k):=by
 unfold unitAt;rw[List.drop_drop]
 split
 · simp;omega
 split <;> simp
theorem unitAt_code (l:List UInt8) (p d:Nat) {c k:Nat} (h:unitAt l p d = .bad c k):c=3:=by
 unfold unitAt at h
 split at h
 · simp at h;exact h.1.symm
 split at h
 · simp at h
 simp at h;exact h.1.symm
theorem escAt_rel (T) (l:List UInt8) (a:Nat) (h:a≤l.length):escAt T l a=match escSR T (l.drop a) with|.go n t _ => .ok (t,a+n)|.bad p => .bad 3 (a+p):=by
 unfold escSR escAt;rw[List.drop_drop,Nat.zero_add,Nat.zero_add];cases hd:l.drop (a+1) with
 | nil=>simp;omega
 | cons c r =>
  simp only[];cases escIdx T c 0 7 with
  | some k=>simp
  | none =>
   simp only[]
   split
   · rw[unitAt_rel l a 2 4];cases hu:unitAt (l.drop a) 2 4 with
     | ok n=>simp <;> omega
     | bad c k=>simp[unitAt_code _ _ _ hu]
   split
   · rw[unitAt_rel l a 2 8];cases hu:unitAt (l.drop a) 2 8 with
     | ok n=>simp <;> omega
     | bad c k=>simp[unitAt_code _ _ _ hu]
   simp
theorem escSR_len (T) (l:List UInt8) (n:Nat) (t:List UInt8) (o:Bool) (h:escSR T l = .go n t o):t.length≤n∧1≤n∧n≤l.length:=by
 have hu:∀d k,unitAt l (0+2) d = .ok k→1≤d→2+d≤l.length∧(runeBytes k).length≤4:=by
  intro d k hk hd;unfold unitAt at hk;have h1:=hexRun_le (l.drop (0+2)) d;rw[List.length_drop]at h1
  split at hk
  · simp at hk
  refine⟨by omega,?_⟩;have h2:=Lib.runeCells_le k;rw[Lib.runeCells_length]at h2;exact h2.2
 unfold escSR escAt at h;cases hd:l.drop (0+1) with
 | nil=>rw[hd]at h;simp at h
 | cons c r =>
  have hl:2≤l.length:=by
   have:=congrArg List.length hd;rw[List.length_drop]at this;simp at this;omega
  rw[hd]at h;simp only[]at h;cases he:escIdx T c 0 7 with
  | some k=>rw[he]at h;simp at h;obtain⟨rfl,rfl,_⟩:=h;simp;omega
  | none =>
   rw[he]at h;simp only[]at h
   split at h
   · rename_i x hx
     split at hx
     · cases hq:unitAt l (0+2) 4 with
       | ok k=>rw[hq]at hx;have:=hu 4 k hq (by omega);simp at hx h;subst hx;simp at h;obtain⟨rfl,rfl,_⟩:=h;omega
       | bad c p=>rw[hq]at hx;simp at hx
     split at hx
     · cases hq:unitAt l (0+2) 8 with
       | ok k=>rw[hq]at hx;have:=hu 8 k hq (by omega);simp at hx h;subst hx;simp at h;obtain⟨rfl,rfl,_⟩:=h;omega
       | bad c p=>rw[hq]at hx;simp at hx
     simp at hx
   simp at h
theorem escSR_over (T) (l:List UInt8) (n:Nat) (t:List UInt8) (o:Bool) (h:escSR T l = .go n t o):o=false:=by
 unfold escSR at h
 split at h
 · simp at h;exact h.2.2
 simp at h
end Pl
structure QW (T:Nat→UInt8 × UInt8) (w:World):Prop where
 es:EsV w
 sh:ShW T w
theorem QW.gr {T} {w w':World} (h:QW T w) (g:Gr w w'):QW T w':=⟨h.es.gr g,h.sh.gr g⟩
set_option maxRecDepth 100000 in
theorem tq_basic_esc (w:World) (R:Nat) (s:ByteArray) (a:Nat) (q:UInt8) (out:List UInt8) (ov:Value) (h:RdQ w R s a q out ov) (hv:EsV w)
    (T:Nat→UInt8 × UInt8) (ht:ShW T w) (hlt:a<s.size) (hs:s.size≤20000000) (ho:out.length≤a) (hm:(s[a].toNat==q.toNat)=false) (he:(s[a].toNat==92)=true) :
    Calls Tryz.prog 232 #[.agg #[.pointer (some ⟨R,0,none⟩)]] w (StepPost R s a q out ov w (Pl.escSR T ((bs s).drop a))):=by
 have hR:=h.lt;refine Z218 ?_;intro b1 b2 sr hsr HO HX hX hov;have HS:=Lib.hid h;have HM:=Lib.hid hm;have HV:=Lib.hid hv;have HT0:=Lib.hid ht;clear hsr hX h hm he hv ht hov;go_enter Tryz.func232,Tryz.ntmps232;go_wp2_with fail;refine Z310 ?_;intro w1 g1 hc1 hf1 hz1;have hg:Hid (Gr w w1):=by
  have h1:Gr w ((w.alloc (.cells #[.pointer (some ⟨R,0,none⟩)] 200)).alloc (.cells #[.int .i64 0,.int .i64 0] 31)):=Gr.auto;exact h1.trans g1
 have hRd:Hid (RdQ w1 R s a q out ov):=HS.out.gr hg.out;have c0:w1.cell? ⟨R,0,none⟩=some (.string s):=hRd.out.cells.1;have c1:w1.cell? ⟨R,1,none⟩=some (.int .i64 a):=hRd.out.cells.2.1;go_wp2_with fail
 go_quiet (fail)
 go_wp2_with fail;refine (tq_escaped _ R s a q out ov (RdQ.auto hRd.out) (HV.out.gr (hg.out.drewN _)) T (HT0.out.gr (hg.out.drewN _)) hlt hs (by omega)).mono ?_;rw[HX.out];cases sr with
 | bad p =>
  rintro e w2 ⟨rfl,hst⟩;refine Z18 ?_;intro hc2 hf2 hz2;have HT:=Lib.hid hst;clear hst;go_wp2_with fail;refine bodyPost_ret (v := .tuple #[.bool false,fv 3 (a+p)]) (by simp[results,Tryz.results232,go_sem,hc2,hc1]) rfl ⟨rfl,FQ R ov,?_⟩;have hst:St (FQ R ov) (FQ R ov) w w2:=(hg.out.drewN _).st.trans HT.out;exact St.auto
 | go n t over =>
  obtain rfl:=HO.out n t over rfl;rintro e w2 ⟨rfl,ov',hr,hst⟩;refine Z18 ?_;intro hc2 hf2 hz2;refine Z163 ?_;intro HR HT;have hn3:¬FQ R ov' (w.heap.size+1):=fun hF=>by
   rcases HT.out.own _ hF with hF|hF
   · have:=HS.out.own_lt hF;omega
   simp at hF;omega
  clear hr hst;go_wp2_with fail;refine bodyPost_ret (v := .tuple #[.bool false,f0]) (by simp[results,Tryz.results232,go_sem,hc2,hc1]) rfl ⟨rfl,ov',RdQ.auto HR.out,?_⟩;have hst:St (FQ R ov) (FQ R ov') w w2:=(hg.out.drewN _).st.trans HT.out;exact St.auto
end Go.Proofs.YtfogfaagjpebcaaGreatDoor
