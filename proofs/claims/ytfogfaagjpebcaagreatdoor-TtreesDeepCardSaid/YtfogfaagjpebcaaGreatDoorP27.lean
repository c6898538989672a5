/-
 The walks and plain laws that the claim rests on, part 27.
-/
import Derived.Test.YtfogfaagjpebcaaGreatDoorP00
import Derived.Test.YtfogfaagjpebcaaGreatDoorP23
import Derived.Test.YtfogfaagjpebcaaGreatDoorP24
set_option maxHeartbeats 16000000
set_option linter.all false
set_option linter.unusedVariables false
set_option linter.unusedSimpArgs false
namespace Go.Proofs.YtfogfaagjpebcaaGreatDoor
open Go.RowKit Go.Shelf Go.Joins
attribute [local go_sem] Oper.semAt_some
namespace Pl
theorem formM_get:∀(l m:Bs),formM l m=true→∀(i:Nat) w,m[i]?=some w→∃c,l[i]?=some c∧fits w c=true:=by
 intro l
 induction l with
 | nil =>
  intro m h i w hw;cases m with
  | nil=>simp at hw
  | cons a m=>simp[formM]at h
 | cons c l ih =>
  intro m h i w hw;cases m with
  | nil=>simp at hw
  | cons a m =>
   simp only[formM,Bool.and_eq_true]at h;cases i with
   | zero=>simp only[List.getElem?_cons_zero,Option.some.injEq]at hw ⊢;subst hw;exact⟨c,rfl,h.1⟩
   | succ i=>simp only[List.getElem?_cons_succ]at hw ⊢;exact ih m h.2 i w hw
theorem form_dec (l m:Bs) (h:formM l m=true) (a k:Nat) (hm:∀i,i<k→m[a+i]?=some 57):∀c∈(l.drop a).take k,isDec c=true:=by
 intro c hc;obtain⟨i,hi⟩:=List.mem_iff_getElem?.1 hc;rw[List.getElem?_take]at hi
 split at hi
 · rename_i hik
   rw[List.getElem?_drop]at hi;obtain⟨c',h1,h2⟩:=formM_get l m h (a+i) 57 (hm i hik);rw[hi]at h1;cases h1;exact h2
 cases hi
structure CutOk (d t z:Bs):Prop where
 d:d=[]∨(d.length=10∧formM d dateF=true)
 t:t=[]∨(t.length=8∧formM t timeF=true)
 z:z.length<2∨(z.length=6∧formM (z.drop 1) zoneF=true)
theorem formM_take:∀(l m:Bs),formM l m=true→formM (l.take m.length) m=true:=by
 intro l
 induction l with
 | nil=>intro m h;simpa using h
 | cons c l ih =>
  intro m h;cases m with
  | nil=>rfl
  | cons a m =>
   simp only[formM,Bool.and_eq_true]at h;simp only[List.length_cons,List.take_succ_cons,formM,Bool.and_eq_true];exact⟨h.1,ih m h.2⟩
theorem clockP_ok (l:Bs):(clockP l).1=[]∨((clockP l).1.length=8∧formM (clockP l).1 timeF=true):=by
 unfold clockP
 split
 · rename_i h
   right;have:=formM_len l timeF h;have h8:timeF.length=8:=rfl;refine⟨by rw[List.length_take];omega,?_⟩;have h2:=formM_take l timeF h;rw[h8]at h2;exact h2
 exact .inl rfl
theorem zoneP_ok (l:Bs):(zoneP l).length<2∨((zoneP l).length=6∧formM ((zoneP l).drop 1) zoneF=true):=by
 unfold zoneP;cases l with
 | nil=>left;simp
 | cons c r =>
  simp only
  split
  · left;simp
  split
  · rename_i h
    right;simp only[Bool.and_eq_true]at h;have:=formM_len r zoneF h.2;have h5:zoneF.length=5:=rfl;refine⟨by simp;omega,?_⟩;have h2:=formM_take r zoneF h.2;rw[h5]at h2
    simpa using h2
  left;simp
theorem splitD_ok (l:Bs):CutOk (splitD l).date (splitD l).time (splitD l).zone:=by
 have hd:formM l dateF=true→(l.take 10).length=10∧formM (l.take 10) dateF=true:=fun h=>by
  have:=formM_len l dateF h;have h10:dateF.length=10:=rfl;have h2:=formM_take l dateF h;rw[h10]at h2;exact⟨by rw[List.length_take];omega,h2⟩
 unfold splitD
 split
 · rename_i h
   split
   · have ht:=clockP_ok (l.drop 11);generalize clockP (l.drop 11)=x at ht ⊢;obtain⟨t,p⟩:=x;simp only at ht ⊢
     split
     · exact⟨.inr (hd h),.inl rfl,.inl (by simp)⟩
     exact⟨.inr (hd h),ht,zoneP_ok _⟩
   exact⟨.inr (hd h),.inl rfl,.inl (by simp)⟩
 exact⟨.inl rfl,clockP_ok l,.inl (by simp)⟩
theorem decVal_le2 (l:Bs) (k:Nat) (h:∀c∈l.take k,isDec c=true):decVal (l.take k)<10 ^ k:=by
 have h1:=decVal_lt (l.take k) 0 h;unfold decVal;refine Nat.lt_of_lt_of_le h1 ?_;rw[Nat.zero_add,Nat.one_mul];exact Nat.pow_le_pow_right (by omega) (by rw[List.length_take];omega)
end Pl
def CutS (w:World) (b:Nat) (d t p z:ByteArray) (n:Int) (W:World):Prop:=CutC b d t p z n W∧W.heap[b]?=some (cutO d t p z n)∧Gr w W
theorem CutS.gr {w W W':World} {b:Nat} {d t p z:ByteArray} {n:Int} (h:CutS w b d t p z n W) (g:Gr W W'):CutS w b d t p z n W' :=
 have hb:=(g.block h.1.2.2.2.2.2.2).trans h.2.1
 ⟨cutO_facts hb,hb,h.2.2.trans g⟩
set_option maxRecDepth 100000 in
theorem dt_may (d t p z:ByteArray) (n:Int) (c:Pl.Cut) (hd:bs d=c.date) (ht:bs t=c.time) (hz:bs z=c.zone) (hk:Pl.CutOk (bs d) (bs t) (bs z)) (w:World) :
    Calls Tryz.prog 138 #[cutV d t p z n] w fun e w'=>e = .returned (.bool (Pl.mayD c))∧Gr w w':=by
 obtain⟨A,hA⟩:∃A,(c.date.isEmpty || (Pl.withinD (c.date.drop 5) 1 12 && Pl.withinD (c.date.drop 8) 1 (Pl.daysP (Pl.decVal (c.date.take 4)) (Pl.decVal ((c.date.drop 5).take 2)))))=A:=⟨_,rfl⟩
 obtain⟨B,hB⟩:∃B,(c.time.isEmpty || (Pl.withinD c.time 0 23 && Pl.withinD (c.time.drop 3) 0 59 && Pl.withinD (c.time.drop 6) 0 (if (c.time.drop 3).take 2=[53,57] then 60 else 59)))=B:=⟨_,rfl⟩
 obtain⟨C,hC⟩:∃C,(decide (c.zone.length<2) || (Pl.withinD (c.zone.drop 1) 0 23 && Pl.withinD (c.zone.drop 4) 0 59))=C:=⟨_,rfl⟩
 have hX:Pl.mayD c=(A && B && C):=by unfold Pl.mayD;rw[hA,hB,hC]
 have HX:=Lib.hid hX;rw[←hd]at hA;rw[←ht]at hB;rw[←hz]at hC;clear hX hd ht hz;have HA:Hid ((d.toList.isEmpty=true∧d.toList=[]∧A=true)∨(¬d.toList=[]∧d.toList.isEmpty=false∧(10:Int)≤(d.size:Int) ∧
     ∃(y m:Nat) (x1 x2:Bool),A=(x1 && x2) ∧
     (∀W,Calls Tryz.prog 155 #[.string (d.extract 0 4)] W fun e w'=>e = .returned (.tuple #[.int .i64 (y:Int),.nilIface])∧Gr W w') ∧
     (∀W,Calls Tryz.prog 155 #[.string (d.extract 5 7)] W fun e w'=>e = .returned (.tuple #[.int .i64 (m:Int),.nilIface])∧Gr W w') ∧
     (∀W,Calls Tryz.prog 156 #[.string (d.extract 5 d.size),.int .i64 1,.int .i64 12] W fun e w'=>e = .returned (.bool x1)∧Gr W w') ∧
     (∀W,Calls Tryz.prog 157 #[.int .i64 (y:Int),.int .i64 (m:Int)] W fun e w'=>e = .returned (.int .i64 (Pl.daysP y m))∧W=w') ∧
     (∀W,Calls Tryz.prog 156 #[.string (d.extract 8 d.size),.int .i64 1,.int .i64 (Pl.daysP y m)] W fun e w'=>e = .returned (.bool x2)∧Gr W w'))):=Lib.hid (by
  rcases hk.d with h|⟨h10,hf⟩
  · left;have h1:d.toList=[]:=by rw[Lib.toList_data];exact h
    exact⟨by rw[h1];rfl,h1,by rw[←hA,h];rfl⟩
  right;rw[bs_length]at h10;obtain⟨n1,n2,n3⟩:=bs_ne (x:=d) (by omega);have e4:bs (d.extract 0 4)=(bs d).take 4:=bs_take d 4;have e57:bs (d.extract 5 7)=((bs d).drop 5).take 2:=bs_sub _ _ _;have e5:bs (d.extract 5 d.size)=(bs d).drop 5:=bs_extract d 5;have e8:bs (d.extract 8 d.size)=(bs d).drop 8:=bs_extract d 8;have f4:=Pl.form_dec _ _ hf 0 4 (fun i hi=>by match i,hi with|0,_=>rfl|1,_=>rfl|2,_=>rfl|3,_=>rfl);have f5:=Pl.form_dec _ _ hf 5 2 (fun i hi=>by match i,hi with|0,_=>rfl|1,_=>rfl);have f8:=Pl.form_dec _ _ hf 8 2 (fun i hi=>by match i,hi with|0,_=>rfl|1,_=>rfl);rw[List.drop_zero]at f4;refine⟨n1,n2,by omega,Pl.decVal ((bs d).take 4),Pl.decVal (((bs d).drop 5).take 2),Pl.withinD ((bs d).drop 5) 1 12,Pl.withinD ((bs d).drop 8) 1 (Pl.daysP (Pl.decVal ((bs d).take 4)) (Pl.decVal (((bs d).drop 5).take 2))),?_,?_,?_,?_,?_,?_⟩
  · rw[←hA,n3,Bool.false_or]
  · exact fun W=>atoi_few _ (by simp;omega) (by simp;omega) (by rw[e4];exact f4) _ (by rw[e4]) W
  · exact fun W=>atoi_few _ (by simp;omega) (by simp;omega) (by rw[e57];exact f5) _ (by rw[e57]) W
  · intro W;have:=dt_within (d.extract 5 d.size) (by simp;omega) (by rw[e5];exact f5) 1 12 W;rw[e5]at this;exact this
  · exact fun W=>dt_days _ _ (by have:=Pl.decVal_le2 (bs d) 4 f4;omega) (by have:=Pl.decVal_le2 ((bs d).drop 5) 2 f5;omega) W
  intro W;have:=dt_within (d.extract 8 d.size) (by simp;omega) (by rw[e8];exact f8) 1 (Pl.daysP (Pl.decVal ((bs d).take 4)) (Pl.decVal (((bs d).drop 5).take 2))) W;rw[e8]at this;exact this)
 have HB:Hid ((t.toList.isEmpty=true∧t.toList=[]∧B=true)∨(¬t.toList=[]∧t.toList.isEmpty=false∧(8:Int)≤(t.size:Int) ∧
     ∃(x1 x2 x3:Bool) (last:Nat),B=(x1 && x2 && x3)∧(((t.extract 3 5).toList==[53,57])=true∧last=60∨((t.extract 3 5).toList==[53,57])=false∧last=59) ∧
     (∀W,Calls Tryz.prog 156 #[.string t,.int .i64 0,.int .i64 23] W fun e w'=>e = .returned (.bool x1)∧Gr W w') ∧
     (∀W,Calls Tryz.prog 156 #[.string (t.extract 3 t.size),.int .i64 0,.int .i64 59] W fun e w'=>e = .returned (.bool x2)∧Gr W w') ∧
     (∀W,Calls Tryz.prog 156 #[.string (t.extract 6 t.size),.int .i64 0,.int .i64 (last:Int)] W fun e w'=>e = .returned (.bool x3)∧Gr W w'))):=Lib.hid (by
  rcases hk.t with h|⟨h8,hf⟩
  · left;have h1:t.toList=[]:=by rw[Lib.toList_data];exact h
    exact⟨by rw[h1];rfl,h1,by rw[←hB,h];rfl⟩
  right;rw[bs_length]at h8;obtain⟨n1,n2,n3⟩:=bs_ne (x:=t) (by omega);have e35:bs (t.extract 3 5)=((bs t).drop 3).take 2:=bs_sub _ _ _;have e3:bs (t.extract 3 t.size)=(bs t).drop 3:=bs_extract t 3;have e6:bs (t.extract 6 t.size)=(bs t).drop 6:=bs_extract t 6;have f0:=Pl.form_dec _ _ hf 0 2 (fun i hi=>by match i,hi with|0,_=>rfl|1,_=>rfl);have f3:=Pl.form_dec _ _ hf 3 2 (fun i hi=>by match i,hi with|0,_=>rfl|1,_=>rfl);have f6:=Pl.form_dec _ _ hf 6 2 (fun i hi=>by match i,hi with|0,_=>rfl|1,_=>rfl);rw[List.drop_zero]at f0;refine⟨n1,n2,by omega,Pl.withinD (bs t) 0 23,Pl.withinD ((bs t).drop 3) 0 59,Pl.withinD ((bs t).drop 6) 0 (if ((bs t).drop 3).take 2=[53,57] then 60 else 59),(if ((bs t).drop 3).take 2=[53,57] then 60 else 59),?_,?_,?_,?_,?_⟩
  · rw[←hB,n3,Bool.false_or]
  · rw[Lib.toList_data];by_cases h5:((bs t).drop 3).take 2=[53,57]
    · left;rw[if_pos h5];exact⟨beq_iff_eq.2 (by show bs (t.extract 3 5)=_;rw[e35,h5]),rfl⟩
    right;rw[if_neg h5];exact⟨beq_eq_false_iff_ne.2 (by show bs (t.extract 3 5)≠_;rw[e35];exact h5),rfl⟩
  · exact fun W=>dt_within t (by omega) f0 0 23 W
  · intro W;have:=dt_within (t.extract 3 t.size) (by simp;omega) (by rw[e3];exact f3) 0 59 W;rw[e3]at this;exact this
  intro W;have:=dt_within (t.extract 6 t.size) (by simp;omega) (by rw[e6];exact f6) 0 (if ((bs t).drop 3).take 2=[53,57] then 60 else 59) W;rw[e6]at this;exact this)
 have HC:Hid ((decide ((z.size:Int)<2)=true∧C=true)∨(decide ((z.size:Int)<2)=false∧(6:Int)≤(z.size:Int) ∧
     ∃x1 x2:Bool,C=(x1 && x2) ∧
     (∀W,Calls Tryz.prog 156 #[.string (z.extract 1 z.size),.int .i64 0,.int .i64 23] W fun e w'=>e = .returned (.bool x1)∧Gr W w') ∧
     (∀W,Calls Tryz.prog 156 #[.string (z.extract 4 z.size),.int .i64 0,.int .i64 59] W fun e w'=>e = .returned (.bool x2)∧Gr W w'))):=Lib.hid (by
  rcases hk.z with h|⟨h6,hf⟩
  · left;rw[bs_length]at h;exact⟨by simp;omega,by rw[←hC,bs_length,decide_eq_true h];rfl⟩
  right;rw[bs_length]at h6;have e1:bs (z.extract 1 z.size)=(bs z).drop 1:=bs_extract z 1;have e4:bs (z.extract 4 z.size)=(bs z).drop 4:=bs_extract z 4;have f0:=Pl.form_dec _ _ hf 0 2 (fun i hi=>by match i,hi with|0,_=>rfl|1,_=>rfl);have f3:=Pl.form_dec _ _ hf 3 2 (fun i hi=>by match i,hi with|0,_=>rfl|1,_=>rfl);rw[List.drop_zero]at f0;rw[List.drop_drop]at f3;refine⟨by simp;omega,by omega,Pl.withinD ((bs z).drop 1) 0 23,Pl.withinD ((bs z).drop 4) 0 59,?_,?_,?_⟩
  · rw[←hC,bs_length,decide_eq_false (by omega),Bool.false_or]
  · intro W;have:=dt_within (z.extract 1 z.size) (by simp;omega) (by rw[e1];exact f0) 0 23 W;rw[e1]at this;exact this
  intro W;have:=dt_within (z.extract 4 z.size) (by simp;omega) (by rw[e4];exact f3) 0 59 W;rw[e4]at this;exact this)
 clear hA hB hC hk;go_enter Tryz.func138,Tryz.ntmps138;have hb0:(w.alloc (cutO d t p z n)).heap[w.heap.size]?=some (cutO d t p z n):=heap_alloc_new w _;have hG0:Gr w (w.alloc (cutO d t p z n)):=(Gr.refl w).alloc _;obtain⟨p0,p1,p2,p3,p4,pf,hz⟩:=cutO_facts hb0;rcases HA.out with⟨d1,d2,hAt⟩|⟨d1,d2,d3,y,m,a1,a2,dA,hY,hM,hA1,hDy,hA2⟩
 · skip;rcases HB.out with⟨t1,t2,hBt⟩|⟨t1,t2,t3,b1,b2,b3,last,tB,tl,hB1,hB2,hB3⟩
   · skip;rcases HC.out with⟨z1,zC⟩|⟨z1,z2,v1,v2,zC,hV1,hV2⟩
     · refine Z177 ?_;intro HY;go_wp2_with fail
       go_ret
       exact⟨by (rw[HY.out];try rfl),hG0⟩
     refine Z91 ?_;intro k1 k4 HV1 HV2;clear hV1 hV2;go_wp2_with fail;refine (HV1.out _).mono ?_;refine Z285 ?_;intro w7 g7 hb7 hG7;clear g7 hb0 hG0 p0 p1 p2 p3 p4 pf hz;exact J52
   refine Z270 ?_;intro k3 k5 k6 HB1 HB2 HB3;clear hB1 hB2 hB3;rcases tl with⟨tl1,rfl⟩|⟨tl1,rfl⟩
   · skip;exact J167
   skip;exact J167
 have k4':(4:Int)≤(d.size:Int):=by omega
 have k5':(5:Int)≤(d.size:Int):=by omega
 have k7':(7:Int)≤(d.size:Int):=by omega
 have k8':(8:Int)≤(d.size:Int):=by omega
 have HYr:=Lib.hid hY;have HMo:=Lib.hid hM;have HA1:=Lib.hid hA1;have HA2:=Lib.hid hA2;have HDy:=Lib.hid hDy;clear hY hM hA1 hA2 hDy;go_wp2_with fail;refine (HYr.out _).mono ?_;refine Z285 ?_;intro w1 g1 hb1 hG1;clear g1 hb0 hG0 p0 p1 p2 p3 p4 pf hz;obtain⟨p0,p1,p2,p3,p4,pf,hz⟩:=cutO_facts hb1;go_wp2_with fail;refine (HMo.out _).mono ?_;rintro e w2 ⟨rfl,g2⟩;have hb2:=(g2.block hz).trans hb1;have hG2:=hG1.trans g2;clear g2 hb1 hG1 p0 p1 p2 p3 p4 pf hz;obtain⟨p0,p1,p2,p3,p4,pf,hz⟩:=cutO_facts hb2;go_wp2_with fail;have hS:CutS w w.heap.size d t p z n w2.drew:=⟨cutO_facts (show w2.drew.heap[w.heap.size]?=_ from hb2),hb2,hG2.drew⟩
 cases a1 with
 | false =>
  refine Z138 ?_;intro w3 g3 hS3;refine Z16 ?_;refine Z92 ?_;refine Reg.sk 6 ?_;refine Reg.sk 7 ?_;refine Z298 ?_;refine Reg.ty 14 ?_;refine Z12 ?_;have HY:Hid (Pl.mayD c=false):=Lib.hid (by rw[HX.out,dA];rfl);go_wp2_with fail
  go_ret
  exact⟨by (rw[HY.out];try rfl),hS3.2.2⟩
 | true =>
  refine Z138 ?_;intro w3 g3 hS3;refine Z16 ?_;refine Z307 ?_;refine Reg.tl 7 hS3 ?_ (hy:=by intro w hSw;obtain⟨⟨p0,p1,p2,p3,p4,pf,hz⟩,_,_⟩:=hSw;go_simp;try with_reducible rfl);refine Z46 ?_;refine Reg.on 11 ?_;go_simp;refine (HDy.out _).mono ?_;refine Z48 ?_;refine Z16 ?_;refine Reg.on 12 ?_;go_simp;refine (HA2.out _).mono ?_;rintro e w4 ⟨rfl,g4⟩;have hS4:=hS3.gr g4;refine Z32 ?_;refine Reg.ty 13 ?_;refine Reg.ty 14 ?_;refine Z12 ?_;have hb3:=hS4.2.1;have hG3:=hS4.2.2;clear hS hS3 hS4 g3 g4 hb2 hG2 p0 p1 p2 p3 p4 pf hz;obtain⟨p0,p1,p2,p3,p4,pf,hz⟩:=cutO_facts hb3;cases a2 with
  | false =>
   have HY:Hid (Pl.mayD c=false):=Lib.hid (by rw[HX.out,dA];rfl);go_wp2_with fail
   go_ret
   exact⟨by (rw[HY.out];try rfl),hG3⟩
  | true =>
   have hAt:A=true:=dA;rcases HB.out with⟨t1,t2,hBt⟩|⟨t1,t2,t3,b1,b2,b3,last,tB,tl,hB1,hB2,hB3⟩
   · skip;rcases HC.out with⟨z1,zC⟩|⟨z1,z2,v1,v2,zC,hV1,hV2⟩
     · refine Z177 ?_;intro HY;go_wp2_with fail
       go_ret
       exact⟨by (rw[HY.out];try rfl),hG3⟩
     refine Z91 ?_;intro k1 k4 HV1 HV2;clear hV1 hV2;go_wp2_with fail;refine (HV1.out _).mono ?_;rintro e w7 ⟨rfl,g7⟩;have hb7:=(g7.block hz).trans hb3;have hG7:=hG3.trans g7;clear g7 hb3 hG3 p0 p1 p2 p3 p4 pf hz;exact J52
   refine Z270 ?_;intro k3 k5 k6 HB1 HB2 HB3;clear hB1 hB2 hB3;rcases tl with⟨tl1,rfl⟩|⟨tl1,rfl⟩
   · skip;exact J162
   skip;exact J162
end Go.Proofs.YtfogfaagjpebcaaGreatDoor
namespace Go.Proofs.YtfogfaagjpebcaaGreatDoor
open Go.RowKit Go.Shelf Go.Joins
attribute [local go_sem] Oper.semAt_some
namespace Pl
theorem formM_low:∀(l m:Bs),formM l m=true→(∀w∈m,w.toNat<128)→∀c∈l.take m.length,c.toNat<128:=by
 intro l
 induction l with
 | nil=>intro m _ _ c hc;simp at hc
 | cons a l ih =>
  intro m h hm c hc;cases m with
  | nil=>simp at hc
  | cons w m =>
   simp only[formM,Bool.and_eq_true]at h;simp only[List.length_cons,List.take_succ_cons,List.mem_cons]at hc;rcases hc with rfl|hc
   · have h1:=h.1;unfold fits at h1
     split at h1
     · simp at h1;omega
     have:=hm w (by simp);simp at h1;omega
   exact ih m h.2 (fun x hx=>hm x (by simp[hx])) c hc
theorem zoneP_low (l:Bs):∀c∈zoneP l,c.toNat<128:=by
 unfold zoneP;cases l with
 | nil=>simp
 | cons a r =>
  simp only
  split
  · rename_i h
    intro c hc;rw[List.mem_singleton]at hc;subst hc;omega
  split
  · rename_i h
    simp only[Bool.and_eq_true]at h;intro c hc;rw[show (a::r).take 6=a::r.take 5 from rfl,List.mem_cons]at hc;rcases hc with rfl|hc
    · have h1:=h.1;unfold isSign at h1;simp at h1;omega
    exact formM_low r zoneF h.2 (by decide) c hc
  simp
theorem splitD_zone_low (l:Bs):∀c∈(splitD l).zone,c.toNat<128:=by
 unfold splitD
 split
 · split
   · generalize clockP (l.drop 11)=x;obtain⟨t,p⟩:=x;simp only
     split
     · simp
     exact zoneP_low _
   simp
 simp
theorem upper_eq (l:Bs):Lib.toUpperA l=upper l:=by
 unfold Lib.toUpperA upper;congr 1
 funext c
 unfold Lib.upperB Lib.isLowerB;have e:((97:UInt8)≤c && c≤122)=true ↔ (97≤c.toNat∧c.toNat≤122):=by simp[UInt8.le_iff_toNat_le]
 by_cases h:97≤c.toNat∧c.toNat≤122
 · rw[if_pos h,if_pos (e.2 h)]
 rw[if_neg h,if_neg (fun x=>h (e.1 x))]
end Pl
theorem dt_text (d t p z:ByteArray) (n:Int) (c:Pl.Cut) (hd:bs d=c.date) (ht:bs t=c.time) (hp:bs p=c.part) (hz:bs z=c.zone) (sd:d.size≤20000000) (st:t.size≤20000000) (sp:p.size≤20000000) (sz:z.size≤20000000)
    (hl:∀x∈bs z,x.toNat<128) (w:World) :
    Calls Tryz.prog 139 #[cutV d t p z n] w fun e w'=>(∃x:ByteArray,e = .returned (.string x)∧bs x=Pl.textD c)∧Gr w w':=by
 obtain⟨P,hP⟩:∃P:ByteArray,⟨(Pl.noughtsR (bs p)).toArray⟩=P:=⟨_,rfl⟩
 obtain⟨U,hU⟩:∃U:ByteArray,⟨(Lib.toUpperA (bs z)).toArray⟩=U:=⟨_,rfl⟩
 have hPb:bs P=Pl.noughtsR c.part:=by rw[←hP,bs_of,hp]
 have hUb:bs U=Pl.upper c.zone:=by rw[←hU,bs_of,Pl.upper_eq,hz]
 have hPz:P.size≤20000000:=by
  have h1:=Pl.noughtsR_len (bs p);rw[hp,←hPb,bs_length,←hp,bs_length]at h1;omega
 have hUz:U.size≤20000000:=by
  have h1:(bs U).length=(bs z).length:=by rw[hUb,←hz];unfold Pl.upper;rw[List.length_map]
  rw[bs_length,bs_length]at h1;omega
 have HTR:=Lib.hid (trim0R p P sp hP);have HTU:Hid (∀W,Calls Tryz.prog 159 #[.string z] W fun e w'=>e = .returned (.string U)∧Gr W w'):=Lib.hid (fun W=>by
  refine (Tryz.strings_ToUpper_ascii z W (by omega) (low128 hl)).mono ?_;rintro e w' ⟨rfl,g⟩;exact⟨by rw[←hU],g⟩)
 have hX:Pl.textD c=bs d++(if bs d≠[]∧bs t≠[] then [84] else [])++bs t++(if bs P≠[] then 46::bs P else [])++bs U:=by
  unfold Pl.textD;rw[hPb,hUb,hd,ht]
 have HX:=Lib.hid hX;have e0:∀x:ByteArray,bs x=x.toList:=fun x=>(Lib.toList_data x).symm
 have HE:=Lib.hid e0;clear hX hd ht hp hz hP hU hPb hUb hl e0;rcases str_em d with⟨d1,d2,d3⟩|⟨d1,d2,d3⟩
 all_goals rcases str_em t with⟨t1,t2,t3⟩|⟨t1,t2,t3⟩
 all_goals rcases str_em P with⟨p1,p2,p3⟩|⟨p1,p2,p3⟩
 all_goals clear d3 t3 p3
 all_goals
  have b1:¬ 9223372036854775807<d.size+1:=by omega
  have b2:¬ 9223372036854775807<d.size+1+t.size:=by omega
  have b3:¬ 9223372036854775807<d.size+t.size:=by omega
  have b4:¬ 9223372036854775807<1+P.size:=by omega
  have b5:¬ 9223372036854775807<d.size+1+t.size+(1+P.size):=by omega
  have b6:¬ 9223372036854775807<d.size+t.size+(1+P.size):=by omega
  have b7:¬ 9223372036854775807<d.size+1+t.size+(1+P.size)+U.size:=by omega
  have b8:¬ 9223372036854775807<d.size+t.size+(1+P.size)+U.size:=by omega
  have b9:¬ 9223372036854775807<d.size+1+t.size+U.size:=by omega
  have ba:¬ 9223372036854775807<d.size+t.size+U.size:=by omega
  go_enter Tryz.func139,Tryz.ntmps139;go_wp2_with fail;refine (HTR.out _).mono ?_;refine Z48 ?_;go_wp2_with fail;refine (HTU.out _).mono ?_;rintro e w2 ⟨rfl,g2⟩;go_wp2_with fail
  go_ret
  refine⟨⟨_,rfl,?_⟩,Gr.auto⟩;rw[HX.out];simp only[HE.out]at *
  simp_all [bs,ByteArray.data_append,Lib.toList_data]
theorem dt_Read (s:ByteArray) (hs:s.size≤20000000) (w:World):Calls Tryz.prog 127 #[.string s] w fun e w'=>IntPost (Pl.datRead (bs s)) e∧Gr w w':=by
 have hX:Pl.datRead (bs s)=if (Pl.splitD (bs s)).long=0∨(Pl.splitD (bs s)).long<s.size then .bad 3 0 else if Pl.mayD (Pl.splitD (bs s)) then .ok (Pl.textD (Pl.splitD (bs s))) else .bad 9 0:=by unfold Pl.datRead;simp only[bs_length]
 have HX:=Lib.hid hX;clear hX;go_enter Tryz.func127,Tryz.ntmps127;go_wp2_with fail;refine (dt_split s hs _).mono ?_;rintro e w1 ⟨⟨d,t,p,z,rfl,hd,ht,hp,hz,sd,st,sp,sz⟩,g1⟩;have hk:=Pl.splitD_ok (bs s);have hl:=Pl.splitD_zone_low (bs s);have hlong:=Pl.splitD_len (bs s);rw[bs_length]at hlong;rw[←hd,←ht,←hz]at hk;rw[←hz]at hl;obtain⟨c,hc⟩:∃c,Pl.splitD (bs s)=c:=⟨_,rfl⟩
 rw[hc]at HX hd ht hp hz hlong ⊢;have HM:=Lib.hid (fun W=>dt_may d t p z c.long c hd ht hz hk W);have HT:=Lib.hid (fun W=>dt_text d t p z c.long c hd ht hp hz (by omega) (by omega) (by omega) (by omega) hl W);clear hk hl hc hd ht hp hz;obtain⟨n,hn⟩:∃n,c.long=n:=⟨_,rfl⟩
 rw[hn]at HX HM HT hlong ⊢;by_cases h0:n=0
 · subst h0;have HY:Hid (Pl.datRead (bs s) = .bad 3 0):=Lib.hid (by rw[HX.out,if_pos (.inl rfl)]);exact J131
 have c0:((n:Int)==0)=false:=by simp;omega
 by_cases h1:n<s.size
 · have c1:decide ((n:Int)<(s.size:Int))=true:=by simp;omega
   have HY:Hid (Pl.datRead (bs s) = .bad 3 0):=Lib.hid (by rw[HX.out,if_pos (.inr h1)]);exact J131
 have c1:decide ((n:Int)<(s.size:Int))=false:=by simp;omega
 have hz2:w1.heap.size<(w1.alloc (cutO d t p z n)).heap.size:=by simp
 have hbO:(w1.alloc (cutO d t p z n)).heap[w1.heap.size]?=some (cutO d t p z n):=heap_alloc_new w1 _;go_wp2_with fail;refine (HM.out _).mono ?_;rintro e w2 ⟨rfl,g2⟩;cases hm:Pl.mayD c with
 | false =>
  have HY:Hid (Pl.datRead (bs s) = .bad 9 0):=Lib.hid (by rw[HX.out,if_neg (by omega),if_neg (by rw[hm];simp)]);clear hm;go_wp2_with fail;exact bodyPost_ret (v := .tuple #[.string ⟨#[]⟩,.int .i64 9]) (by simp[results,Tryz.results127,go_sem]) rfl ⟨post_bad HY.out,Gr.auto⟩
 | true =>
  have HY:Hid (Pl.datRead (bs s) = .ok (Pl.textD c)):=Lib.hid (by rw[HX.out,if_neg (by omega),if_pos hm]);obtain⟨p0,p1,p2,p3,p4,pf,hz3⟩:=cutO_facts ((g2.block (by simp)).trans hbO);clear hm;go_wp2_with fail;refine (HT.out _).mono ?_;rintro e w3 ⟨⟨x,rfl,hx⟩,g3⟩;have HZ:Hid (Pl.datRead (bs s) = .ok (bs x)):=Lib.hid (by rw[HY.out,hx]);clear hx;go_wp2_with fail;exact bodyPost_ret (v := .tuple #[.string x,.int .i64 0]) (by simp[results,Tryz.results127,go_sem]) rfl ⟨post_str HZ.out,Gr.auto⟩
theorem dt_Long (s:ByteArray) (hs:s.size≤20000000) (w:World):Calls Tryz.prog 112 #[.string s] w fun e w'=>e = .returned (.int .i64 ((Pl.splitD (bs s)).long:Int))∧Gr w w':=by
 have HS:=Lib.hid (dt_split s hs);have hfld:∀(d t p z:ByteArray) (n:Int) W,(Instr.field 204 (.agg #[.string d,.string t,.string p,.string z,.int .i64 n]) 4).run Tryz.prog W = .ok (.int .i64 n) W:=fun _ _ _ _ _ _=>by kernel_rfl
 go_enter Tryz.func112,Tryz.ntmps112;go_wp2_with fail;refine (HS.out _).mono ?_;rintro e w1 ⟨⟨d,t,p,z,rfl,_⟩,g1⟩;exact J16
end Go.Proofs.YtfogfaagjpebcaaGreatDoor
