/- The proof's part 17. -/
import Derived.Test.YtnkgknbdaiakgaaGreatDoorY18
set_option maxHeartbeats 16000000
set_option linter.all false
set_option maxRecDepth 100000
namespace Go.Proofs.YtnkgknbdaiakgaaGreatDoor
open Pl Go.Proofs.Tryz Go.RowKit
def O1h(ep:Addr)(w:World)(Y:Lib.NumEnd Int)(e:Ending)(w':World):Prop:=match Y with
 |.ok v=>e=.returned (.tuple #[v,.nilIface])/\Gr w w'
 |.range=>(∃(k:Int)(N:Nat),e=.returned (.tuple #[k,.iface 260 (.pointer (some ⟨N,0,none⟩))])/\w'.cell? ⟨N,2,none⟩=some (.iface 288 (.pointer (some ep))))/\Gr w w'
 |Lib.NumEnd.syntax=>True
def O3b(Y:Lib.NumEnd Nat):Lib.NumEnd Int:=match Y with
 |.ok v=>if v<9223372036854775808 then .ok (v:Int) else .range
 |.range => .range
 |Lib.NumEnd.syntax=>Lib.NumEnd.syntax
def Ofa(Y:Lib.NumEnd Int)(e:Ending):Prop:=match Y with
 |.ok v=>e=.returned (.tuple #[v,.nilIface])
 |.range=>e=.returned (.tuple #[(9223372036854775807:Int),.iface 257 (1:Int)])
 |Lib.NumEnd.syntax=>True
theorem Opd(t:ByteArray)(base:Int)(h0:0<t.size)(hs:(t[0]'h0).toNat≠43/\(t[0]'h0).toNat≠45)(Y:Lib.NumEnd Nat)(aQ:∀v,Y=.ok v->v<=18446744073709551615)(a8:Y≠Lib.NumEnd.syntax)(hU:∀w,Calls prog 192 #[.string t,base,(64:Int)] w λ e w'=>e=.returned (Lib.uintTupleM 257 18446744073709551615 Y)/\w'=Lib.bytesWorld w 5 t)(w:World):Calls prog 168 #[.string t,base,(64:Int)] w λ e w'=>Ofa (O3b Y) e/\Gr w w':=by
 have eJ:t.toList.isEmpty=false:=by
  rw[<-decide_eq_emptyBytes];exact U4f (λ h=>by rw[h]at h0;exact absurd h0 Yd)
 have eQ:(0:Int)<(t.size:Int):=Ya;obtain⟨x1,x2⟩:=V1q (t[0]'h0).toNat 43 false (by simpa using hs.1);obtain⟨y1,y2⟩:=V1q (t[0]'h0).toNat 45 false (by simpa using hs.2);have sY:∀W,(Go.binOp .neq 115 (.iface 257 (1:Int)) (.iface 257 (1:Int))).run prog W=.ok (.bool false) W:=λ W=>by kernel_rfl
 have cS:=Oi w 5 t;have hU:=hU w;refine Z166 ?_;intro W1 aK;rw[<-aK]at hU cS;clear aK hs;cases Y with
 |range =>
  have hU:Calls prog 192 #[.string t,base,(64:Int)] w λ e w'=>e=.returned (.tuple #[.int .u64 18446744073709551615,.iface 257 (1:Int)])/\w'=W1:=hU
  clear aQ a8;go_enter func168,ntmps168;go_wp2_with (refine hU.mono ?_;rintro e w1 ⟨rfl,rfl⟩)
  go_wp2
  go_ret2
  exact⟨rfl,cS⟩
 |ok v =>
  have hv:=aQ v rfl;have hU:Calls prog 192 #[.string t,base,(64:Int)] w λ e w'=>e=.returned (.tuple #[.int .u64 (v:Int),.nilIface])/\w'=W1:=hU
  obtain⟨a,ha⟩:∃a:Int,a=(v:Int):=⟨_,rfl⟩
  rw[<-ha]at hU;refine Z278 ?_;intro a0 a1;clear aQ a8;by_cases tD:v<9223372036854775808
  ·have HI:Hid (v<9223372036854775808):=tD;have HA:Hid (a=(v:Int)):=ha;have U6:a<9223372036854775808:=by omega
   clear tD hv ha;go_enter func168,ntmps168;go_wp2_with (refine hU.mono ?_;rintro e w1 ⟨rfl,rfl⟩)
   go_wp2
   go_ret2
   exact⟨by unfold O3b;simp only;rw[U18 HI.o];unfold Ofa;simp only;rw[HA.o];rfl,cS⟩
  have HI:Hid (¬v<9223372036854775808):=tD;have PO:9223372036854775808<=a:=Ya;clear tD hv ha;go_enter func168,ntmps168;go_wp2_with (refine hU.mono ?_;rintro e w1 ⟨rfl,rfl⟩)
  go_wp2
  go_ret2
  exact⟨by unfold O3b;simp only;rw[U1b HI.o];rfl,cS⟩
 |_=>exact absurd rfl a8
theorem O9s(t:ByteArray)(base:Int)(h0:0<t.size)(hz:t.size<=20000000)(hs:(t[0]'h0).toNat≠43/\(t[0]'h0).toNat≠45)(Y:Lib.NumEnd Nat)(aQ:∀v,Y=.ok v->v<=18446744073709551615)(a8:Y≠Lib.NumEnd.syntax)(hU:∀w,Calls prog 192 #[.string t,base,(64:Int)] w λ e w'=>e=.returned (Lib.uintTupleM 257 18446744073709551615 Y)/\w'=Lib.bytesWorld w 5 t)(w:World)(ep:Addr)(hw:w.cell? ⟨1,0,none⟩=some (.iface 288 (.pointer (some ep)))):Calls prog 134 #[.string t,base,(64:Int)] w (O1h ep w (O3b Y)):=by
 have hI:=Opd t base h0 hs Y aQ a8 hU w;have bad:Calls prog 168 #[.string t,base,(64:Int)] w (λ e w'=>e=.returned (.tuple #[(9223372036854775807:Int),.iface 257 (1:Int)])/\Gr w w') ->
     Calls prog 134 #[.string t,base,(64:Int)] w (O1h ep w .range):=by
  intro hJ;have HW:=U10 hw;clear hw hI hU;go_enter func134,ntmps134;go_wp2_with fail;refine hJ.mono ?_;rintro e w1 ⟨rfl,g1⟩;go_wp2_with fail;refine (strconv_toError_range ⟨#[80,97,114,115,101,73,110,116]⟩ t base 64 _ w1 Ya ((g1.use.1 _ _ (Lib.lt_of_cell HW.o)).trans HW.o) (.inr ⟨_,_,rfl⟩)).mono ?_;rintro e w2 ⟨N,rfl,hN,hb,g2⟩;go_wp2_with fail
  go_ret2
  exact⟨⟨_,N,rfl,by rw[Joins.cell_of_block hb];rfl⟩,g1.trans g2⟩
 cases Y with
 |range=>exact bad hI
 |ok v =>
  unfold O3b at hI⊢;by_cases hv:v<9223372036854775808
  ·simp only[U18 hv]at hI⊢;clear hw hU bad;go_enter func134,ntmps134;go_wp2_with fail;refine hI.mono ?_;rintro e w1 ⟨rfl,g1⟩;go_wp2_with fail
   go_ret2
   exact⟨rfl,g1⟩
  simp only[U1b hv]at hI⊢;exact bad hI
 |_=>exact absurd rfl a8
theorem O6h(b:Nat)(l:List UInt8)(h:b≠10):V22 b l=O3b (Vr b 18446744073709551615 0 l):=by
 unfold V22 O3b;rw[U1b h];cases Vr b 18446744073709551615 0 l <;> rfl
namespace Pl
theorem V73(B M:Nat)(l:Bs):∀acc v,acc<=M->Vr B M acc l=.ok v->v<=M:=by
 induction l with
 |nil=>intro acc v h hv;simp only[Vr,U4y]at hv;omega
 |cons c l ih =>
  intro acc v h hv;unfold Vr at hv
  split at hv
  split at hv;cases hv
  exact ih _ _ Ya hv
  cases hv
theorem V4u(B M:Nat)(l:Bs):∀acc,(∀c∈l,V2g c.toNat<B)->Vr B M acc l≠Lib.NumEnd.syntax:=by
 induction l with
 |nil=>intro acc _ h;simp[Vr]at h
 |cons c l ih =>
  intro acc hd;unfold Vr;rw[U18 (hd c Yb)]
  split;simp
  exact ih _ (λ x hx=>hd x (U26 _ hx))
end Pl
theorem Oiw(b:Nat)(t:ByteArray)(hz:t.size<=20000000)(h:(b=10/\Lib.parseIntB 64 (bs t)≠Lib.NumEnd.syntax)\/((b=16\/b=8\/b=2)/\0<t.size/\∀c∈bs t,V2g c.toNat<b))(w:World)(ep:Addr)(hw:w.cell? ⟨1,0,none⟩=some (.iface 288 (.pointer (some ep)))):Calls prog 134 #[.string t,b,(64:Int)] w (O1h ep w (V22 b (bs t))):=by
 rcases h with⟨rfl,a8⟩|⟨hb,h0,hd⟩
 unfold V22;rw[U18 rfl];cases hp:Lib.parseIntB 64 (bs t) with
 |ok v=>exact Ojo t hz v hp w
 |range =>
  refine (strconv_ParseInt_10_at64_range t Ya hp _ w hw (.inr ⟨_,_,rfl⟩)).mono ?_;rintro e w' ⟨N,rfl,hN,hb,g⟩;exact⟨⟨_,N,rfl,by rw[Joins.cell_of_block hb];rfl⟩,g⟩
 |_=>exact absurd hp a8
 have hs:(t[0]'h0).toNat≠43/\(t[0]'h0).toNat≠45:=by
  have h2:=hd (t[0]'h0) (by have:=O9 t 0 h0;simp only[U2j]at this;rw[this];simp);unfold V2g at h2;constructor;intro e;rw[e]at h2;simp at h2;omega
  intro e;rw[e]at h2;simp at h2;omega
 have lp:b≠10:=Ya;rw[O6h b _ lp];rcases hb with rfl|rfl|rfl
 exact O9s t 16 h0 hz hs _ (λ v hv=>V73 _ _ _ 0 v Ya hv) (V4u _ _ _ 0 hd) (λ w=>Olg t Ya Ya w) w ep hw;exact O9s t 8 h0 hz hs _ (λ v hv=>V73 _ _ _ 0 v Ya hv) (V4u _ _ _ 0 hd) (λ w=>Onw t Ya Ya w) w ep hw
 exact O9s t 2 h0 hz hs _ (λ v hv=>V73 _ _ _ 0 v Ya hv) (V4u _ _ _ 0 hd) (λ w=>Onx t Ya Ya w) w ep hw
end Go.Proofs.YtnkgknbdaiakgaaGreatDoor
namespace Go.Proofs.YtnkgknbdaiakgaaGreatDoor
open Pl Go.Proofs.Tryz Go.RowKit Go.Shelf Go.Joins
attribute [local go_sem] U28
abbrev V6y:ByteArray:=⟨#[48,49,50,51,52,53,54,55,56,57,97,98,99,100,101,102,65,66,67,68,69,70]⟩
abbrev V6z:ByteArray:=⟨#[48,49,50,51,52,53,54,55]⟩
abbrev V70:ByteArray:=⟨#[48,49]⟩
abbrev V44(bg:ByteArray)(b:Nat)(ds:ByteArray):Value := .agg #[.string bg,b,.string ds]
theorem Oml(s:ByteArray)(h0:Pl.pre (bs s) [48,120]=true)(w:World)(hr:V93 w):Calls prog 131 #[.string s] w λ e w'=>e=.returned (V44 ⟨#[48,120]⟩ 16 V6y)/\Gr w w':=by
 have r0:w.cell? ⟨6,0,none⟩=some (.string ⟨#[48,120]⟩):=hr 0 _ rfl;have r1:w.cell? ⟨6,1,none⟩=some (.int .i64 16):=hr 1 _ rfl;have r2:w.cell? ⟨6,2,none⟩=some (.string V6y):=hr 2 _ rfl;have r3:w.cell? ⟨6,3,none⟩=some (.string ⟨#[48,111]⟩):=hr 3 _ rfl;have r4:w.cell? ⟨6,4,none⟩=some (.int .i64 8):=hr 4 _ rfl;have r5:w.cell? ⟨6,5,none⟩=some (.string V6z):=hr 5 _ rfl;have r6:w.cell? ⟨6,6,none⟩=some (.string ⟨#[48,98]⟩):=hr 6 _ rfl;have r7:w.cell? ⟨6,7,none⟩=some (.int .i64 2):=hr 7 _ rfl;have r8:w.cell? ⟨6,8,none⟩=some (.string V70):=hr 8 _ rfl;have aa:6<w.heap.size:=Lib.lt_of_cell r0;have H0:=U10 h0;refine Z51 ?_;intro i0 i1 i2;clear hr h0;go_enter func131,ntmps131;go_wp2_with fail
 go_loopw [6] (λ v wr=>∃k:Nat,v=.int .i64 k/\(k=0)/\Gr (w.alloc (.cells #[.string ⟨#[]⟩,(0:Int),.string ⟨#[]⟩] 205)) wr) (λ v _=>3-(intOf v).toNat)
 case atStart=>exact⟨0,rfl,rfl,Gr.refl _⟩
 case round =>
  obtain⟨k,rfl,hk,hg⟩:=hrel;obtain⟨hc,hf,hz⟩:=hg.use;rcases hk with rfl;have p0:wr.cell? w=some (.string ⟨#[]⟩):=(hc _ _ Yb).trans Yb;have p1:wr.cell? ⟨w,1,none⟩=some (.int .i64 0):=(hc _ _ Yb).trans Yb;have p2:wr.cell? ⟨w,2,none⟩=some (.string ⟨#[]⟩):=(hc _ _ Yb).trans Yb;have pf:∀o,wr.frozen? ⟨w,o,none⟩=false:=λ o=>(hf _ _ Yb).trans Yg
  simp only[U1s]at hz;have eE:w.heap.size<wr.heap.size:=Ya
  clear hc hf;go_wp2_with (go_at_call 56;refine (On s ⟨#[48,120]⟩ true H0.o _).mono ?_;rintro e w1 ⟨rfl,rfl⟩);have cw:Gr w wr:=((Gr.refl w).alloc _).trans hg;exact U11 (v:=V44 ⟨#[48,120]⟩ 16 V6y) (by simp[results,results131,go_sem,p0,p1,p2,pf,eE]) rfl ⟨rfl,by refine Gr.alloc ?_ _;(repeat refine Gr.setCell ?_ (U12 _) _);exact cw⟩
theorem Omm(s:ByteArray)(h0:Pl.pre (bs s) [48,120]=false)(h1:Pl.pre (bs s) [48,111]=true)(w:World)(hr:V93 w):Calls prog 131 #[.string s] w λ e w'=>e=.returned (V44 ⟨#[48,111]⟩ 8 V6z)/\Gr w w':=by
 have r0:w.cell? ⟨6,0,none⟩=some (.string ⟨#[48,120]⟩):=hr 0 _ rfl;have r1:w.cell? ⟨6,1,none⟩=some (.int .i64 16):=hr 1 _ rfl;have r2:w.cell? ⟨6,2,none⟩=some (.string V6y):=hr 2 _ rfl;have r3:w.cell? ⟨6,3,none⟩=some (.string ⟨#[48,111]⟩):=hr 3 _ rfl;have r4:w.cell? ⟨6,4,none⟩=some (.int .i64 8):=hr 4 _ rfl;have r5:w.cell? ⟨6,5,none⟩=some (.string V6z):=hr 5 _ rfl;have r6:w.cell? ⟨6,6,none⟩=some (.string ⟨#[48,98]⟩):=hr 6 _ rfl;have r7:w.cell? ⟨6,7,none⟩=some (.int .i64 2):=hr 7 _ rfl;have r8:w.cell? ⟨6,8,none⟩=some (.string V70):=hr 8 _ rfl;have aa:6<w.heap.size:=Lib.lt_of_cell r0;have H0:=U10 h0;have H1:=U10 h1;refine Z51 ?_;intro i0 i1 i2;clear hr h0 h1;go_enter func131,ntmps131;go_wp2_with fail
 go_loopw [6] (λ v wr=>∃k:Nat,v=.int .i64 k/\(k=0\/k=1)/\Gr (w.alloc (.cells #[.string ⟨#[]⟩,(0:Int),.string ⟨#[]⟩] 205)) wr) (λ v _=>3-(intOf v).toNat)
 case atStart=>exact⟨0,rfl,.inl rfl,Gr.refl _⟩
 case round =>
  obtain⟨k,rfl,hk,hg⟩:=hrel;obtain⟨hc,hf,hz⟩:=hg.use;rcases hk with rfl|rfl
  ·clear hc hf;go_wp2_with (go_at_call 56;refine (On s ⟨#[48,120]⟩ false H0.o _).mono ?_;rintro e w1 ⟨rfl,rfl⟩)
   go_roundw
   case rel=>exact⟨1,rfl,.inr (rfl),hg.alloc _⟩
   case measure=>simp[intOf]
  have p0:wr.cell? w=some (.string ⟨#[]⟩):=(hc _ _ Yb).trans Yb;have p1:wr.cell? ⟨w,1,none⟩=some (.int .i64 0):=(hc _ _ Yb).trans Yb;have p2:wr.cell? ⟨w,2,none⟩=some (.string ⟨#[]⟩):=(hc _ _ Yb).trans Yb;have pf:∀o,wr.frozen? ⟨w,o,none⟩=false:=λ o=>(hf _ _ Yb).trans Yg
  simp only[U1s]at hz;have eE:w.heap.size<wr.heap.size:=Ya
  clear hc hf;go_wp2_with (go_at_call 56;refine (On s ⟨#[48,111]⟩ true H1.o _).mono ?_;rintro e w1 ⟨rfl,rfl⟩);have cw:Gr w wr:=((Gr.refl w).alloc _).trans hg;exact U11 (v:=V44 ⟨#[48,111]⟩ 8 V6z) (by simp[results,results131,go_sem,p0,p1,p2,pf,eE]) rfl ⟨rfl,by refine Gr.alloc ?_ _;(repeat refine Gr.setCell ?_ (U12 _) _);exact cw⟩
theorem Omn(s:ByteArray)(h0:Pl.pre (bs s) [48,120]=false)(h1:Pl.pre (bs s) [48,111]=false)(h2:Pl.pre (bs s) [48,98]=true)(w:World)(hr:V93 w):Calls prog 131 #[.string s] w λ e w'=>e=.returned (V44 ⟨#[48,98]⟩ 2 V70)/\Gr w w':=by
 have r0:w.cell? ⟨6,0,none⟩=some (.string ⟨#[48,120]⟩):=hr 0 _ rfl;have r1:w.cell? ⟨6,1,none⟩=some (.int .i64 16):=hr 1 _ rfl;have r2:w.cell? ⟨6,2,none⟩=some (.string V6y):=hr 2 _ rfl;have r3:w.cell? ⟨6,3,none⟩=some (.string ⟨#[48,111]⟩):=hr 3 _ rfl;have r4:w.cell? ⟨6,4,none⟩=some (.int .i64 8):=hr 4 _ rfl;have r5:w.cell? ⟨6,5,none⟩=some (.string V6z):=hr 5 _ rfl;have r6:w.cell? ⟨6,6,none⟩=some (.string ⟨#[48,98]⟩):=hr 6 _ rfl;have r7:w.cell? ⟨6,7,none⟩=some (.int .i64 2):=hr 7 _ rfl;have r8:w.cell? ⟨6,8,none⟩=some (.string V70):=hr 8 _ rfl;have aa:6<w.heap.size:=Lib.lt_of_cell r0;have H0:=U10 h0;have H1:=U10 h1;have H2:=U10 h2;refine Z51 ?_;intro i0 i1 i2;clear hr h0 h1 h2;go_enter func131,ntmps131;go_wp2_with fail
 go_loopw [6] (λ v wr=>∃k:Nat,v=.int .i64 k/\(k=0\/k=1\/k=2)/\Gr (w.alloc (.cells #[.string ⟨#[]⟩,(0:Int),.string ⟨#[]⟩] 205)) wr) (λ v _=>3-(intOf v).toNat)
 case atStart=>exact⟨0,rfl,.inl rfl,Gr.refl _⟩
 case round =>
  obtain⟨k,rfl,hk,hg⟩:=hrel;obtain⟨hc,hf,hz⟩:=hg.use;rcases hk with rfl|rfl|rfl
  ·clear hc hf;go_wp2_with (go_at_call 56;refine (On s ⟨#[48,120]⟩ false H0.o _).mono ?_;rintro e w1 ⟨rfl,rfl⟩);exact J5
  ·clear hc hf;go_wp2_with (go_at_call 56;refine (On s ⟨#[48,111]⟩ false H1.o _).mono ?_;rintro e w1 ⟨rfl,rfl⟩)
   go_roundw
   case rel=>exact⟨2,rfl,.inr (.inr (rfl)),hg.alloc _⟩
   case measure=>simp[intOf]
  have p0:wr.cell? w=some (.string ⟨#[]⟩):=(hc _ _ Yb).trans Yb;have p1:wr.cell? ⟨w,1,none⟩=some (.int .i64 0):=(hc _ _ Yb).trans Yb;have p2:wr.cell? ⟨w,2,none⟩=some (.string ⟨#[]⟩):=(hc _ _ Yb).trans Yb;have pf:∀o,wr.frozen? ⟨w,o,none⟩=false:=λ o=>(hf _ _ Yb).trans Yg
  simp only[U1s]at hz;have eE:w.heap.size<wr.heap.size:=Ya
  clear hc hf;go_wp2_with (go_at_call 56;refine (On s ⟨#[48,98]⟩ true H2.o _).mono ?_;rintro e w1 ⟨rfl,rfl⟩);have cw:Gr w wr:=((Gr.refl w).alloc _).trans hg;exact U11 (v:=V44 ⟨#[48,98]⟩ 2 V70) (by simp[results,results131,go_sem,p0,p1,p2,pf,eE]) rfl ⟨rfl,by refine Gr.alloc ?_ _;(repeat refine Gr.setCell ?_ (U12 _) _);exact cw⟩
def O1o(l:List UInt8):Value :=
 if Pl.pre l [48,120] then V44 ⟨#[48,120]⟩ 16 V6y else if Pl.pre l [48,111] then V44 ⟨#[48,111]⟩ 8 V6z else if Pl.pre l [48,98] then V44 ⟨#[48,98]⟩ 2 V70 else O2o
theorem O35(s:ByteArray)(w:World)(hr:V93 w):Calls prog 131 #[.string s] w λ e w'=>e=.returned (O1o (bs s))/\Gr w w':=by
 unfold O1o;cases h0:Pl.pre (bs s) [48,120] with
 |true=>exact Oml s h0 w hr
 |false =>
  cases h1:Pl.pre (bs s) [48,111] with
  |true=>exact Omm s h0 h1 w hr
  |false =>
   cases h2:Pl.pre (bs s) [48,98] with
   |true=>exact Omn s h0 h1 h2 w hr
   |false=>exact Opv s ⟨h0,h1,h2⟩ w hr
theorem Oh8(l cs:List UInt8):Lib.trimS l cs=[] ↔ (l.all λ c=>cs.contains c)=true:=by
 unfold Lib.trimS Lib.trimRightS Lib.trimLeftS;constructor
 ·intro h;rw[U2h];intro x hx;have h2:∀(m:List UInt8),m.dropWhile (cs.contains ·)=[]->∀x∈m,cs.contains x=true:=by
   intro m
   induction m with
   |nil=>intro _ x hx;cases hx
   |cons a m ih =>
    intro h x hx;rw[U3d]at h
    split at h
    rename_i ha
    rcases U36.1 hx with rfl|hx
    exact ha
    exact ih h x hx
    cases h
  first
   | (have h3:=h2 _ h
      by_cases hm:x∈(l.reverse.dropWhile (cs.contains ·)).reverse;exact h3 x hm
      have hs:∀(m:List UInt8)(x:UInt8),x∈m->x ∉ m.dropWhile (cs.contains ·)->cs.contains x=true:=by
       intro m
       induction m with
       |nil=>intro x hx;cases hx
       |cons a m ih =>
        intro x hx hn;rw[U3d]at hn
        split at hn
        rename_i ha
        rcases U36.1 hx with rfl|hx
        exact ha
        exact ih x hx hn
        exact absurd hx hn
      exact hs l.reverse x (List.mem_reverse.2 hx) (λ e=>hm (List.mem_reverse.2 e)))
   | (have h3:=h2 _ (List.reverse_eq_nil_iff.1 h)
      by_cases hm:x∈l.dropWhile (cs.contains ·);exact h3 x (List.mem_reverse.2 hm)
      have hs:∀(m:List UInt8)(x:UInt8),x∈m->x ∉ m.dropWhile (cs.contains ·)->cs.contains x=true:=by
       intro m
       induction m with
       |nil=>intro x hx;cases hx
       |cons a m ih =>
        intro x hx hn;rw[U3d]at hn
        split at hn
        rename_i ha
        rcases U36.1 hx with rfl|hx
        exact ha
        exact ih x hx hn
        exact absurd hx hn
      exact hs l x hx hm)
 intro h;rw[U2h]at h;have h2:∀(m:List UInt8),(∀x∈m,cs.contains x=true)->m.dropWhile (cs.contains ·)=[]:=by
  intro m
  induction m with
  |nil=>intro _;rfl
  |cons a m ih =>
   intro hm;rw[U3d,U18 (hm a Yb),ih (λ x hx=>hm x (U26 _ hx))]
 first
  |rw[h2 l.reverse (λ x hx=>h x (List.mem_reverse.1 hx))];rfl
  |rw[h2 l h];rfl
theorem Obo(x ds:ByteArray)(hx:x.size<=20000000)(kG:ds.size<=100)(ha:∀(j:Nat) b,ds.data.toList[j]?=some b->b.toNat<128)(b:Bool)(hb:((bs x).all λ c=>(bs ds).contains c)=b)(w:World):Calls prog 167 #[.string x,.string ds] w λ e w'=>(∃t:ByteArray,e=.returned (.string t)/\t.toList.isEmpty=b/\(b=true->t.toList=[])/\(b=false->¬t.toList=[]))/\Gr w w':=by
 refine (Any.strings_Trim_laid lays160 O4j x ds w Ya Ya ha).mono ?_;rintro e w' ⟨rfl,iP⟩;have h1:=Oh8 (bs x) (bs ds);have ht:(⟨(Lib.trimS x.data.toList ds.data.toList).toArray⟩:ByteArray).toList=Lib.trimS (bs x) (bs ds):=by rw[U1y]
 refine⟨⟨_,rfl,?_,λ h=>?_,λ h=>?_⟩,iP⟩
 rw[ht];cases b with
 |true=>rw[h1.2 hb];rfl
 |false =>
  cases hl:Lib.trimS (bs x) (bs ds) with
  |nil=>rw[h1.1 hl]at hb;cases hb
  |cons c l=>rfl
 rw[ht];exact h1.2 (by rw[hb,h])
 rw[ht];intro e;have:=h1.1 e;rw[hb,h]at this;cases this
def O1n(ds:ByteArray)(p:ByteArray):Prop:=¬p.toList=[]/\((bs p).all λ c=>(bs ds).contains c)=true
theorem O7k(ds p:ByteArray):O1n ds p ↔ (!(bs p).isEmpty&&(bs p).all (bs ds).contains)=true:=by
 unfold O1n;rw[U1y];simp only[U1g,U4l,List.isEmpty_eq_false_iff]
theorem Oa5(ds s:ByteArray){n:Nat}(xs:List (V57 n))(h:xs.map sbs=V1d 95 (bs s)):V15 (bs ds).contains (bs s)=true ↔ ∀p∈xs,O1n ds p.1:=by
 unfold V15;rw[<-h,List.all_map,U2h];exact⟨λ h p hp=>(O7k ds p.1).2 (h p hp),λ h p hp=>(O7k ds p.1).1 (h p hp)⟩
theorem Oa6(ds s:ByteArray){n:Nat}(pre:List (V57 n))(xL:List Pl.Bs)(h:pre.map sbs++xL=V1d 95 (bs s))(p:V57 n)(hp:p∈pre)(hb:¬O1n ds p.1):V15 (bs ds).contains (bs s)=false:=by
 unfold V15;rw[<-h,List.all_append,Bool.and_eq_false_iff];left;rw[Bool.eq_false_iff];intro e;rw[List.all_map,U2h]at e;exact hb ((O7k ds p.1).2 (e p hp))
theorem O2p{w:World}{C:Nat->Prop}{B:Nat}{W W':World}{row:Option Nat}{b:Nat}{o:Obj}(hb:W.heap[b]?=some o)(hc:¬C b)(hB:b<B)(hg:W.grownBy W' row)(hr:∀r,row=some r->C r\/(B<=r/\∃o:Obj,W.heap[r]?=some o/\o.isCells=false)):W'.heap[b]?=some o :=
 (hg.block b (U1a.1 hb).1 (λ e=>(hr b e.symm).elim hc (λ h=>by omega))).trans hb
theorem O3e{w:World}{C:Nat->Prop}{B:Nat}(hC:∀r,C r->w.heap.size<=r)(hB:w.heap.size<=B){W W':World}{row:Option Nat}(h:Below w w W)(hg:W.grownBy W' row)(hr:∀r,row=some r->C r\/(B<=r/\∃o:Obj,W.heap[r]?=some o/\o.isCells=false)):Below w w W' :=
 h.grown hg h.size (λ k e=>(hr k e).elim (hC k) (λ h=>by omega))
theorem O62(bg:ByteArray)(bb:Nat)(ds:ByteArray)(kG:ds.size<=100)(ha:∀(j:Nat) b,ds.data.toList[j]?=some b->b.toNat<128)(s:ByteArray)(hs:s.size<=20000000)(w:World):Calls prog 133 #[V44 bg bb ds,.string s] w λ e w'=>e=.returned (.bool (V15 (bs ds).contains (bs s)))/\Gr w w':=by
 refine (U40 (n:=6)).1 ?_;refine callsIn_of_wp_marks func133 rfl U3i ?_ rfl;simp only[ntmps133,List.size_toArray,U17,U1t,Nat.reduceAdd,Nat.reduceSub,Array.replicate_succ,Array.replicate_zero,List.push_toArray,List.append_toArray,U23,U1l]
 gi_wp2_with (refine⟨U3i,?_⟩;gi_at_call 166;refine (U40.2 (Oet s _)).mono ?_;rintro e w' ⟨rfl,rfl⟩)
 obtain⟨W0,aI⟩:=ExZ (((((w.alloc (.cells #[.string bg,bb,.string ds] 205)).alloc (.cells #[.bool false] 4)).alloc (.cells #[.string s] 9)).alloc (.cells #[.string ⟨#[95]⟩] 9)).alloc (.cells #[(0:Int)] 3))
 have bY:W0.heap.size=w.heap.size+1+1+1+1+1:=by rw[<-aI];simp only[U1s]
 have eP:Gr w W0:=by rw[<-aI];exact (((((Gr.refl w).alloc _).alloc _).alloc _).alloc _).alloc _
 have b0:W0.heap[w.heap.size]?=some (.cells #[.string bg,bb,.string ds] 205 (0,0)):=by
  rw[<-aI];exact (((((Gr.refl (w.alloc _)).alloc _).alloc _).alloc _).alloc _).block Yb |>.trans (U1z w _)
 have b1:W0.heap[w.heap.size+1]?=some (.cells #[.bool false] 4 (0,0)):=by
  rw[<-aI];refine ((((Gr.refl ((w.alloc _).alloc _)).alloc _).alloc _).alloc _).block Yb |>.trans ?_;have:=U1z (w.alloc (.cells #[.string bg,bb,.string ds] 205)) (.cells #[.bool false] 4)
  rwa [U1s]at this
 have b2:W0.heap[w.heap.size+1+1]?=some (.cells #[.string s] 9 (0,0)):=by
  rw[<-aI];refine (((Gr.refl (((w.alloc _).alloc _).alloc _)).alloc _).alloc _).block Yb |>.trans ?_;have:=U1z ((w.alloc (.cells #[.string bg,bb,.string ds] 205)).alloc (.cells #[.bool false] 4)) (.cells #[.string s] 9);exact J12
 have b3:W0.heap[w.heap.size+1+1+1]?=some (.cells #[.string ⟨#[95]⟩] 9 (0,0)):=by
  rw[<-aI];refine ((Gr.refl ((((w.alloc _).alloc _).alloc _).alloc _)).alloc _).block Yb |>.trans ?_;have:=U1z (((w.alloc (.cells #[.string bg,bb,.string ds] 205)).alloc (.cells #[.bool false] 4)).alloc (.cells #[.string s] 9)) (.cells #[.string ⟨#[95]⟩] 9);exact J12
 have b4:W0.heap[w.heap.size+1+1+1+1]?=some (.cells #[(0:Int)] 3 (0,0)):=by
  rw[<-aI];have:=U1z ((((w.alloc (.cells #[.string bg,bb,.string ds] 205)).alloc (.cells #[.bool false] 4)).alloc (.cells #[.string s] 9)).alloc (.cells #[.string ⟨#[95]⟩] 9)) (.cells #[(0:Int)] 3);exact J12
 rw[aI];clear aI;have PP:=U10 ha;have pH:=U10 b4;clear ha b4;refine Oa3 (C:=λ r=>r=w.heap.size+1+1+1\/r=w.heap.size+1+1\/r=w.heap.size+1+1+1+1) (by rintro r (rfl|rfl|rfl) <;> omega) rfl Ya (gf:=206) (lb:=#[.pointer (some ⟨w+1+1+1,0,none⟩),.pointer (some ⟨w+1+1,0,none⟩),.pointer (some ⟨w+1+1+1+1,0,none⟩)]) rfl U3i (enters_of func206 Yc rfl)
  (Oa4 5 Ya (w.heap.size+1+1+1) (w.heap.size+1+1) (w.heap.size+1+1+1+1) s hs W0 Ya Ya b3 b2 pH.o) (λ _=>rfl)
  (λ pre W=>(∀p∈pre,O1n ds p.1)/\W.heap[w.heap.size]?=some (.cells #[.string bg,bb,.string ds] 205 (0,0))/\W.heap[w.heap.size+1]?=some (.cells #[.bool false] 4 (0,0))/\W0.heap.size<=W.heap.size/\Below w w W)
  (λ c pre W=>c=.ret/\(∃p∈pre,¬O1n ds p.1)/\W.heap[w.heap.size+1]?=some (.cells #[.bool false] 4 (0,0))/\Below w w W)
  (λ pre A B row hs hg hr=>⟨hs.1,O2p (w:=w) hs.2.1 Ya Ya hg hr,O2p (w:=w) hs.2.2.1 Ya Ya hg hr,U1k hs.2.2.2.1 hg.size,O3e (by rintro r (rfl|rfl|rfl) <;> omega) Ya hs.2.2.2.2 hg hr⟩)
  (λ c pre A B row hs hg hr=>⟨hs.1,hs.2.1,O2p (w:=w) hs.2.2.1 Ya Ya hg hr,O3e (by rintro r (rfl|rfl|rfl) <;> omega) Ya hs.2.2.2 hg hr⟩)
  ⟨λ p hp=>(by cases hp),b0,b1,U12 _,eP⟩
  (λ x:V57 s.size=>{ tmps:=#[V44 bg bb ds,.string s,.pointer (some ⟨w,0,none⟩),undef,.pointer (some ⟨w+1,0,none⟩),.string x.1,.string s,.func (.func 206) #[] #[.pointer (some ⟨w+1+1+1,0,none⟩),.pointer (some ⟨w+1+1,0,none⟩),.pointer (some ⟨w+1+1+1+1,0,none⟩)],.string x.1,undef,undef,undef,undef,undef,undef,undef,undef,undef],defers:=[] }) ?assign ?body ?done ?stop
 case assign =>
  intro l x W K hK
  gi_wp2
  exact hK
 case body =>
  rintro l pre ⟨x,oa⟩ W ⟨cM,iG,bz,BM,hB⟩ ad;dsimp only;have kd:W.cell? ⟨w,2,none⟩=some (.string ds):=by rw[cell_of_block iG];rfl
  have kr:W.cell? (w.heap.size+1:Nat)=some (.bool false):=by rw[cell_of_block bz];rfl
  have kf:W.frozen? (w.heap.size+1:Nat)=false:=unfrozen_of_block bz 0;by_cases hx:x.toList=[]
  have gm:¬O1n ds x:=λ h=>h.1 hx
  have HB:=U10 gm;obtain rfl:x=⟨#[]⟩:=by
   apply U31;apply U32.1;rw[<-U1y];exact hx
  clear gm hx
  gi_wp2_with fail
  refine⟨U3i,?_⟩
  gi_wp2_with fail
  refine⟨KeepsOthers.setCell _ _ _,rfl,⟨(⟨⟨#[]⟩,oa⟩:V57 s.size),Yb,HB.o⟩,?_,hB.setCell (p:=⟨w+1,0,none⟩) Yb _⟩;have:=block_setCell (i:=0) bz (.bool false);exact J4
  have he:x.toList.isEmpty=false:=by simpa using hx
  have Ac:x.size<=20000000:=Ya;obtain⟨b,hb⟩:=ExZ (((bs x).all λ c=>(bs ds).contains c))
  have HT:=U10 (Obo x ds Ac kG PP.o b hb);have HX:=U10 hx;have Ad:=U10 hb;clear hb hx;cases b with
  |true =>
   have BN:O1n ds x:=⟨HX.o,Ad.o⟩
   have HG:Hid (∀p∈pre++[(⟨x,oa⟩:V57 s.size)],O1n ds p.1):=λ p hp=>by
    rcases U2s.1 hp with hp|hp
    exact cM p hp
    rw[U22]at hp;rw[hp];exact BN
   clear BN cM
   gi_wp2_with (refine⟨U3i,?_⟩;gi_at_call 167;refine (CallsIn.inRound l (U40.2 (HT.o _))).mono ?_;rintro e w1 ⟨⟨t,rfl,t1,t2,t3⟩,g1⟩;have t4:=t2 rfl;clear t2 t3)
   refine⟨KeepsOthers.of_gr g1,λ r hr=>g1.block (by rcases hr with rfl|rfl|rfl <;> omega),HG.o,(g1.block Ya).trans iG,(g1.block Ya).trans bz,U1k BM g1.size,hB.trans (Below.mono g1 hB.size)⟩
  |false =>
   have HB:Hid (¬O1n ds x):=λ h=>by have:=h.2;rw[Ad.o]at this;cases this
   clear cM
   gi_wp2_with (refine⟨U3i,?_⟩;gi_at_call 167;refine (CallsIn.inRound l (U40.2 (HT.o _))).mono ?_;rintro e w1 ⟨⟨t,rfl,t1,t2,t3⟩,g1⟩;have t4:=t3 rfl;clear t2 t3;have PQ:w1.cell? (w.heap.size+1:Nat)=some (.bool false):=(g1.use.1 _ _ Ya).trans kr;have PR:w1.frozen? (w.heap.size+1:Nat)=false:=(g1.use.2.1 _ _ Ya).trans kf)
   refine⟨(KeepsOthers.of_gr g1).trans (KeepsOthers.setCell _ _ _),rfl,⟨(⟨x,oa⟩:V57 s.size),Yb,HB.o⟩,?_,(hB.trans (Below.mono g1 hB.size)).setCell (p:=⟨w+1,0,none⟩) Yb _⟩;have:=block_setCell (i:=0) ((g1.block Ya).trans bz) (.bool false);exact J4
 case done =>
  rintro D ys W hD BO ⟨cM,iG,bz,BM,hB⟩ hK;have co:V15 (bs ds).contains (bs s)=true:=(Oa5 ds s ys BO).2 cM;have kr:W.cell? (w.heap.size+1:Nat)=some (.bool false):=by rw[cell_of_block bz];rfl
  have kf:W.frozen? (w.heap.size+1:Nat)=false:=unfrozen_of_block bz 0;have HV:=U10 co;clear cM co BO
  gi_wp2
  have xP:=(KeepsOthers.setCell W ⟨w+1,0,none⟩ (.bool true)).same D _ hK rfl;refine⟨Yb,.inl ⟨_,_,rfl,run_takeDeferred xP,?_⟩⟩;have sP:=cell_kept (U2v W ⟨w+1,0,none⟩ (.bool true) (by rw[kr];rfl)) (grownBy_putObj' _ D (.deferred none)) (λ r e=>by cases e;exact⟨_,xP,rfl⟩);refine⟨.bool true,?_,by rw[HV.o],(hB.setCell (p:=⟨w+1,0,none⟩) Yb _).trans (belowK_b (w:=w) (U12 _) _ D _ _ Ya xP rfl rfl)⟩;simp[results,f133,go_sem,sP]
 case stop =>
  rintro D c pre W hD ⟨xL,pI⟩ ⟨rfl,⟨p,hp,gm⟩,bz,hB⟩ hK;have co:V15 (bs ds).contains (bs s)=false:=Oa6 ds s pre xL pI p hp gm;have kr:W.cell? (w.heap.size+1:Nat)=some (.bool false):=by rw[cell_of_block bz];rfl
  have HV:=U10 co;clear gm co pI hp
  gi_wp2
  refine Z175 ?_;intro sP;simp[results,f133,go_sem,sP]
theorem Od1(x:Nat)(h:x<128)(w:World):Calls prog 96 #[.string pmD,.int .i32 x] w λ e w'=>e=.returned (.bool (x==43 || x==45 || x==95 || x==46))/\Gr w w':=by
 refine (strings_ContainsRune_ascii pmD x w Ya Ya).mono ?_;refine Z44 ?_;refine⟨?_,Gr.refl _⟩;have:∀x:Fin 128,decide (0<=Lib.indexByte pmD.data.toList ((x.val:Int)).toNat.toUInt8)=(x.val==43 || x.val==45 || x.val==95 || x.val==46):=Yd;rw[this ⟨x,h⟩]
theorem Od2(x:Nat)(h:x<=1114111)(w:World):Calls prog 96 #[.string pmD,.int .i32 x] w λ e w'=>e=.returned (.bool (x==43 || x==45 || x==95 || x==46))/\Gr w w':=by
 by_cases h1:x<128;exact Od1 x h1 w
 refine (Ob7 x Ya Ya w).mono ?_;rintro e w' ⟨rfl,g⟩;refine⟨?_,g⟩;have a:(x==43)=false:=Ye;have b:(x==45)=false:=Ye;have c:(x==95)=false:=Ye;have d:(x==46)=false:=Ye;rw[a,b,c,d];rfl
theorem Onr(x:Nat)(h:x<=1114111)(w:World):Calls prog 72 #[.int .i32 x] w λ e w'=>e=.returned (.bool (V3d x))/\Gr w w':=by
 have HC:=U10 (Od2 x h);clear h;go_enter func72,ntmps72;go_wp2_with (go_at_call 96;refine (HC.o _).mono ?_;rintro e w1 ⟨rfl,g1⟩)
 all_goals go_ret
 all_goals (refine⟨O3r ?_,by first|assumption|exact Gr.refl _⟩;rw[U3j];simp[V3d];try omega)
theorem Oir(w:World):PredGrows prog 72 #[] V3d w:=by
 intro W x hx _;exact Onr x hx W
theorem Olc(s:ByteArray):∀f ai,ai<=s.size->s.size-ai<=f ->Lib.idxFuncFrom V3d false s f ai=if ai+(V3m ((bs s).drop ai)).length<s.size then ((ai+(V3m ((bs s).drop ai)).length:Nat):Int) else -1:=by
 intro f
 induction f with
 |zero =>
  exact J162
 |succ f ih =>
  intro ai h1 h2;rw[Lib.idxFuncFrom];by_cases hp:ai<s.size
  ·rw[U18 hp];have hl:ai<(bs s).length:=by rw[O0];exact hp
   have bJ:(bs s)[ai]'hl=s[ai]'hp:=rfl;by_cases az:(s[ai]'hp).toNat<128
   rw[O55 s ai hp az];cases hc:V3d (s[ai]'hp).toNat with
   |false =>
    simp only[hc,U2i];have:V3m ((bs s).drop ai)=[]:=by
     unfold V3m;rw[U1u hl,U1o,U1b];rw[bJ];simp[V2w,hc]
    rw[this,U18 (by simpa using hp)];simp
   |true =>
    rw[U1b (by simp[hc]),ih (ai+1) Ya Ya];unfold V3m;rw[O6m V2w (bs s) ai hl (by rw[bJ];simp[V2w,hc])]
   have hd:=decode_high s ai hp Ya;have hn:V3d (Utf8.decode s ai).1=false:=by simp[V3d];omega
   rw[hn,U18 rfl];have:V3m ((bs s).drop ai)=[]:=by
    unfold V3m;rw[U1u hl,U1o,U1b];rw[bJ];simp[V2w,V3d];omega
   rw[this,U18 (by simpa using hp)];simp
  rw[U1b hp,U1b Ya]
theorem Ois(l:List UInt8):(V3m l).length<=l.length:=by
 exact (List.takeWhile_sublist V2w).length_le
theorem Oit(s:ByteArray)(w:World):Calls prog 71 #[.string s,.func (.func 72) #[] #[]] w λ e w'=>e=.returned (.string (s.extract (V3m (bs s)).length s.size))/\Gr w w':=by
 refine (Any.strings_TrimLeftFunc_grows lays272 72 #[] (enters_of func72 Yc rfl) V3d s w (Oir w)).mono ?_;rintro e w' ⟨rfl,hb⟩;refine⟨?_,hb⟩;have h1:=Olc s s.size 0 Ya Ya;have hl:=Ois (bs s);rw[O0]at hl;unfold Lib.trimLeftF;rw[show Lib.idxFunc V3d false s=Lib.idxFuncFrom V3d false s s.size 0 from rfl,h1];simp only[U2j,U1q];by_cases h2:(V3m (bs s)).length<s.size;rw[U18 h2,U1b Ya];simp
 rw[U1b h2,U18 rfl];congr 2;apply U31;simp;omega
abbrev O_s(bg:ByteArray)(bb:Nat)(ds:ByteArray)(b:Nat)(w:World):Prop:=(w.cell? b=some (.string bg)/\w.cell? ⟨b,1,none⟩=some (.int .i64 bb)/\w.cell? ⟨b,2,none⟩=some (.string ds))/\b<w.heap.size
theorem O_s.gr{bg bb ds}{b:Nat}{w w':World}(h:O_s bg bb ds b w)(g:Gr w w'):O_s bg bb ds b w':=by
 obtain⟨⟨h0,h1,h2⟩,hl⟩:=h;have hc:=g.use.1;exact⟨⟨(hc _ _ hl).trans h0,(hc _ _ hl).trans h1,(hc _ _ hl).trans h2⟩,U13 hl g.size⟩
def Op(X:V35 Pl.Bs)(e:Ending):Prop:=match X with
 |.ok x=>e=.returned (.tuple #[.string ⟨x.toArray⟩,(0:Int)])
 |.bad c _=>e=.returned (.tuple #[.string ⟨#[]⟩,c])
def V7h(Y:Lib.NumEnd Int):V35 Pl.Bs:=match Y with
 |.ok v => .ok (Lib.itoa v)
 |.range => .bad 8 0
 |Lib.NumEnd.syntax => .bad 3 0
theorem O1t{X:V35 Pl.Bs}{c:Nat}(h:X=.bad c 0):Op X (.returned (.tuple #[.string ⟨#[]⟩,c])):=by rw[h];rfl
theorem Ony{X:V35 Pl.Bs}{v:Int}(h:X=V7h (.ok v)):Op X (.returned (.tuple #[.string ⟨(Lib.itoa v).toArray⟩,(0:Int)])):=by rw[h];rfl
theorem Oix(bg:ByteArray)(bb:Nat)(ds:ByteArray)(s:ByteArray)(hs:s.size<=20000000)(ju:O1o (bs s)=V44 bg bb ds)(PS:bg.size<=s.size)(q:∀W,(Go.binOp .eql 205 (V44 bg bb ds) O2o).run prog W=.ok (.bool false) W)(D:ByteArray)(hD:s.extract bg.size s.size=D)(r:Bool)(hr:∀w,Calls prog 133 #[V44 bg bb ds,.string D] w λ e w'=>e=.returned (.bool r)/\Gr w w')(L:ByteArray)(hL:L=⟨(Lib.replaceAll (bs D) [95] []).toArray⟩)(Y:Lib.NumEnd Int)(hY:r=true->Y≠Lib.NumEnd.syntax/\(∀v,Y=.ok v -> -9223372036854775808<=v/\v<=9223372036854775807)/\∀w ep,w.cell? ⟨1,0,none⟩=some (.iface 288 (.pointer (some ep)))->Calls prog 134 #[.string L,bb,(64:Int)] w (O1h ep w Y))(w:World)(hw:V4d w):Calls prog 99 #[.string s] w λ e w'=>Op (if r=false then .bad 3 0 else V7h Y) e/\Gr w w':=by
 have HW:=U10 hw;have oM:=U10 ju;have HR:=U10 hr;have HL:=U10 hL;have pJ:D.size<=20000000:=by rw[<-hD];simp;omega
 refine Z182 ?_;intro uX;have bz:(bg.size:Int)<=(s.size:Int):=Ya;obtain⟨T,hT⟩:∃T,T=L:=⟨_,rfl⟩
 have tE:(⟨#[]⟩:ByteArray)++L=T:=by rw[hT];apply U31;simp[U2m]
 rw[<-hT]at hY;have fc:¬ 9223372036854775807<L.size:=Ya
 have mN:¬ 9223372036854775807<(0+L.size):=Ya;have ay:(0:Int)<=(bg.size:Int):=Ya;have HY:=U10 hY;clear hw ju hr hY hL hT;go_enter func99,ntmps99;go_wp2_with (go_at_call 131;refine (O35 s _ ((HW.o.gr Gr.auto).rad)).mono ?_;rw[oM.o];rintro e w1 ⟨rfl,g1⟩);refine Z147 ?_;intro W0 aI;have dM:O_s bg bb ds w1.heap.size W0:=by rw[<-aI];exact⟨⟨Yb,Yb,Yb⟩,Yb⟩
 have eP:Gr w W0:=by rw[<-aI];exact g1.alloc _
 rw[aI];clear aI g1;obtain⟨⟨c0,c1,c2⟩,aa⟩:=dM
 go_quiet (fail)
 have o8:Gr w (W0.drewN nq):=eP.drewN _;go_wp2_with fail;refine Z15 ?_;intro bh w2 g2 cF;refine Reg.sk 4 ?_;refine Reg.sk 5 ?_;refine Reg.ty 6 ?_;refine Reg.ty 7 ?_;refine Z45 ?_;refine Reg.ty 16 ?_;refine Z12 ?_;have bC:Gr w w2:=o8.drew.trans g2;clear g2 eP o8 c0 c1 c2 aa bh;obtain⟨⟨c0,c1,c2⟩,aa⟩:=cF;go_wp2_with fail;refine Z320 ?_;intro bi w3 g3 aC;cases r with
 |false =>
  refine Z21 ?_;refine Z12 ?_;have d7:Gr w w3:=bC.drew.trans g3;clear g3;go_wp2_with fail;exact U11 (v:=.tuple #[.string ⟨#[]⟩,(3:Int)]) (by simp[results,results99,go_sem]) rfl ⟨rfl,d7⟩
 |true =>
  refine Z40 ?_;refine Z315 ?_;intro w4 g4 ci;refine Z33 ?_;refine Reg.ty 7 ?_;refine Reg.ty 8 ?_;refine Reg.sk 9 ?_;refine Reg.sk 10 ?_;refine Reg.sk 11 ?_;refine Reg.ty 12 ?_;refine Reg.ty 13 ?_;refine Z90 ?_;refine Z99 ?_;refine Z12 ?_;have dk:Gr w w4:=(bC.drew.trans g3).trans g4;clear g3 g4 bC c0 c1 c2 aa bi aC;obtain⟨⟨c0,c1,c2⟩,aa⟩:=ci;go_wp2_with fail;obtain⟨bH,lZ,m7⟩:=HY.o Yb;cases Y with
  |ok v =>
   obtain⟨nN,lP⟩:=lZ v rfl;have HP:Hid (∀W,V4d W->Calls prog 134 #[.string T,bb,(64:Int)] W λ e w'=>e=.returned (.tuple #[v,.nilIface])/\Gr W w'):=λ W hW=>by
    obtain⟨ep,he⟩:=hW.err;exact m7 W ep he
   refine Z119 ?_;intro HV;clear m7 lZ bH HY nN lP
   go_region_held3 (O_s bg bb ds w1.heap.size) (first|exact⟨⟨c0,c1,c2⟩,aa⟩|assumption|exact O_s.gr Ym Ym|go_keep) (first|(go_at_call 135;refine (O1j D Ya _ (HW.o.gr Gr.auto)).mono ?_;rw[<-HL.o];rintro e w5 ⟨rfl,g5⟩)|(go_at_call 134;refine (HP.o _ (HW.o.gr Gr.auto)).mono ?_;rintro e w6 ⟨rfl,g6⟩))
   refine Z39 ?_;intro eI rz ep he HF;clear g5 g6 dk;go_wp2_with (first|(go_at_call 136;refine (O77 _ _ _).mono ?_;rintro e w7 ⟨rfl,g7⟩)|(go_at_call 137;refine (HF.o _ (rz.gr Gr.auto)).mono ?_;rintro e w8 ⟨rfl,k8,Pr,rfl⟩));exact U11 (v:=.tuple #[.string ⟨(Lib.itoa v).toArray⟩,(0:Int)]) (by simp[results,results99,go_sem]) rfl ⟨by simp[Op,V7h],(eI.trans g7).trans (O4m _ _ _)⟩
  |range =>
   have HP:Hid (∀W,V4d W->Calls prog 134 #[.string T,bb,(64:Int)] W λ e w'=>(∃(k:Int)(N:Nat)(ep:Addr),e=.returned (.tuple #[k,.iface 260 (.pointer (some ⟨N,0,none⟩))])/\w'.cell? ⟨N,2,none⟩=some (.iface 288 (.pointer (some ep)))/\w'.cell? ⟨1,0,none⟩=some (.iface 288 (.pointer (some ep))))/\Gr W w'):=λ W hW=>by
    obtain⟨ep,he⟩:=hW.err;refine (m7 W ep he).mono ?_;rintro e w' ⟨⟨k,N,rfl,hN⟩,g⟩;exact⟨⟨k,N,ep,rfl,hN,(g.use.1 _ _ (Lib.lt_of_cell he)).trans he⟩,g⟩
   clear m7 lZ bH HY
   go_region_held3 (O_s bg bb ds w1.heap.size) (first|exact⟨⟨c0,c1,c2⟩,aa⟩|assumption|exact O_s.gr Ym Ym|go_keep) (first|(go_at_call 135;refine (O1j D Ya _ (HW.o.gr Gr.auto)).mono ?_;rw[<-HL.o];rintro e w5 ⟨rfl,g5⟩)|(go_at_call 134;refine (HP.o _ (HW.o.gr Gr.auto)).mono ?_;rintro e w6 ⟨⟨k,N,ep,rfl,hN,hE⟩,g6⟩))
   refine Z156 ?_;intro eI;clear g5 g6 dk;go_wp2_with (go_at_call 136;refine (Od8 N ep _ hN).mono ?_;rintro e w7 ⟨rfl,rfl⟩);exact U11 (v:=.tuple #[.string ⟨#[]⟩,(8:Int)]) (by simp[results,results99,go_sem]) rfl ⟨by simp[Op,V7h],eI⟩
  |_=>exact absurd rfl bH
theorem Ogk(bg:ByteArray)(bb:Nat)(ds:ByteArray)(jy:bg=⟨#[]⟩)(cn:bb=10)(kG:ds=V36)(s:ByteArray)(hs:s.size<=20000000)(ju:O1o (bs s)=V44 bg bb ds)(h0:0<s.size)(hc:(s[0]'h0).toNat=43)(D S:ByteArray)(hD:s.extract 1 s.size=D)(hS:s.extract 0 1=S)(r:Bool)(hr:∀w,Calls prog 133 #[V44 bg bb ds,.string D] w λ e w'=>e=.returned (.bool r)/\Gr w w')(L:ByteArray)(hL:L=⟨(Lib.replaceAll (bs D) [95] []).toArray⟩)(T:ByteArray)(tE:S++L=T)(Y:Lib.NumEnd Int)(hY:r=true->Y≠Lib.NumEnd.syntax/\(∀v,Y=.ok v -> -9223372036854775808<=v/\v<=9223372036854775807)/\∀w ep,w.cell? ⟨1,0,none⟩=some (.iface 288 (.pointer (some ep)))->Calls prog 134 #[.string T,bb,(64:Int)] w (O1h ep w Y))(X:V35 Pl.Bs)(uS:r=false->X=.bad 3 0)(uT:1<D.size/\(bs D)[0]?=some 48->X=.bad 3 0)(uU:r=true->¬(1<D.size/\(bs D)[0]?=some 48)->X=V7h Y)(w:World)(hw:V4d w):Calls prog 99 #[.string s] w λ e w'=>Op X e/\Gr w w':=by
 refine Z122 ?_;intro HW oM HR HY HL zO zP xe;have pJ:D.size<=20000000:=by rw[<-hD];simp;omega
 have Hg:S.size<=1:=by rw[<-hS];simp;omega
 have a8:¬s.toList=[]:=λ e=>by rw[U1y]at e;have h2:=O0 s;rw[show bs s=[] from e]at h2;simp at h2;omega
 refine Z198 ?_;intro eJ zX fW;obtain⟨y1,y2⟩:=V1q (s[0]'h0).toNat 43 true (by simpa using hc);refine Z182 ?_;intro uX;have fc:¬ 9223372036854775807<L.size:=Ya;have mN:¬ 9223372036854775807<(S.size+L.size):=Ya;have q:∀W,(Go.binOp .eql 205 (V44 bg bb ds) O2o).run prog W=.ok (.bool true) W:=λ _=>by subst jy cn kG;kernel_rfl
 have bz:(bg.size:Int)<=(s.size:Int):=by rw[jy,show (⟨#[]⟩:ByteArray).size=0 from rfl];omega
 refine Z196 ?_;intro ay hB;clear jy cn kG;clear hw ju hr hY hL uS uT uU;go_enter func99,ntmps99;go_wp2_with (go_at_call 131;refine (O35 s _ ((HW.o.gr Gr.auto).rad)).mono ?_;rw[oM.o];rintro e w1 ⟨rfl,g1⟩);refine Z147 ?_;intro W0 aI;have dM:O_s bg bb ds w1.heap.size W0:=by rw[<-aI];exact⟨⟨Yb,Yb,Yb⟩,Yb⟩
 have eP:Gr w W0:=by rw[<-aI];exact g1.alloc _
 rw[aI];clear aI g1;obtain⟨⟨c0,c1,c2⟩,aa⟩:=dM
 go_quiet (fail)
 have o8:Gr w (W0.drewN nq):=eP.drewN _;go_wp2_with fail;refine Z15 ?_;intro bh w2 g2 cF;refine Z82 ?_;refine Reg.ty 7 ?_;refine Z46 ?_;refine Reg.ty 11 ?_;refine Reg.sk 12 ?_;refine Reg.sk 13 ?_;refine Reg.sk 14 ?_;refine Reg.ty 15 ?_;refine Reg.ty 16 ?_;exact J192
theorem Ogl(bg:ByteArray)(bb:Nat)(ds:ByteArray)(jy:bg=⟨#[]⟩)(cn:bb=10)(kG:ds=V36)(s:ByteArray)(hs:s.size<=20000000)(ju:O1o (bs s)=V44 bg bb ds)(h0:0<s.size)(hc:(s[0]'h0).toNat=45)(D S:ByteArray)(hD:s.extract 1 s.size=D)(hS:s.extract 0 1=S)(r:Bool)(hr:∀w,Calls prog 133 #[V44 bg bb ds,.string D] w λ e w'=>e=.returned (.bool r)/\Gr w w')(L:ByteArray)(hL:L=⟨(Lib.replaceAll (bs D) [95] []).toArray⟩)(T:ByteArray)(tE:S++L=T)(Y:Lib.NumEnd Int)(hY:r=true->Y≠Lib.NumEnd.syntax/\(∀v,Y=.ok v -> -9223372036854775808<=v/\v<=9223372036854775807)/\∀w ep,w.cell? ⟨1,0,none⟩=some (.iface 288 (.pointer (some ep)))->Calls prog 134 #[.string T,bb,(64:Int)] w (O1h ep w Y))(X:V35 Pl.Bs)(uS:r=false->X=.bad 3 0)(uT:1<D.size/\(bs D)[0]?=some 48->X=.bad 3 0)(uU:r=true->¬(1<D.size/\(bs D)[0]?=some 48)->X=V7h Y)(w:World)(hw:V4d w):Calls prog 99 #[.string s] w λ e w'=>Op X e/\Gr w w':=by
 refine Z122 ?_;intro HW oM HR HY HL zO zP xe;have pJ:D.size<=20000000:=by rw[<-hD];simp;omega
 have Hg:S.size<=1:=by rw[<-hS];simp;omega
 have a8:¬s.toList=[]:=λ e=>by rw[U1y]at e;have h2:=O0 s;rw[show bs s=[] from e]at h2;simp at h2;omega
 refine Z198 ?_;intro eJ zX fW;obtain⟨y1,y2⟩:=V1q (s[0]'h0).toNat 43 false Ye;obtain⟨y3,y4⟩:=V1q (s[0]'h0).toNat 45 true (by simpa using hc);refine Z182 ?_;intro uX;have fc:¬ 9223372036854775807<L.size:=Ya;have mN:¬ 9223372036854775807<(S.size+L.size):=Ya;have q:∀W,(Go.binOp .eql 205 (V44 bg bb ds) O2o).run prog W=.ok (.bool true) W:=λ _=>by subst jy cn kG;kernel_rfl
 have bz:(bg.size:Int)<=(s.size:Int):=by rw[jy,show (⟨#[]⟩:ByteArray).size=0 from rfl];omega
 refine Z196 ?_;intro ay hB;clear jy cn kG;clear hw ju hr hY hL uS uT uU;go_enter func99,ntmps99;go_wp2_with (go_at_call 131;refine (O35 s _ ((HW.o.gr Gr.auto).rad)).mono ?_;rw[oM.o];rintro e w1 ⟨rfl,g1⟩);refine Z147 ?_;intro W0 aI;have dM:O_s bg bb ds w1.heap.size W0:=by rw[<-aI];exact⟨⟨Yb,Yb,Yb⟩,Yb⟩
 have eP:Gr w W0:=by rw[<-aI];exact g1.alloc _
 rw[aI];clear aI g1;obtain⟨⟨c0,c1,c2⟩,aa⟩:=dM
 go_quiet (fail)
 have o8:Gr w (W0.drewN nq):=eP.drewN _;go_wp2_with fail;refine Z15 ?_;intro bh w2 g2 cF;refine Z82 ?_;refine Z19 ?_;exact J192
theorem Ogm(bg:ByteArray)(bb:Nat)(ds:ByteArray)(jy:bg=⟨#[]⟩)(cn:bb=10)(kG:ds=V36)(s:ByteArray)(hs:s.size<=20000000)(ju:O1o (bs s)=V44 bg bb ds)(h0:0<s.size)(hc:(s[0]'h0).toNat≠43/\(s[0]'h0).toNat≠45)(r:Bool)(hr:∀w,Calls prog 133 #[V44 bg bb ds,.string s] w λ e w'=>e=.returned (.bool r)/\Gr w w')(L:ByteArray)(hL:L=⟨(Lib.replaceAll (bs s) [95] []).toArray⟩)(T:ByteArray)(tE:(⟨#[]⟩:ByteArray)++L=T)(Y:Lib.NumEnd Int)(hY:r=true->Y≠Lib.NumEnd.syntax/\(∀v,Y=.ok v -> -9223372036854775808<=v/\v<=9223372036854775807)/\∀w ep,w.cell? ⟨1,0,none⟩=some (.iface 288 (.pointer (some ep)))->Calls prog 134 #[.string T,bb,(64:Int)] w (O1h ep w Y))(X:V35 Pl.Bs)(uS:r=false->X=.bad 3 0)(uT:1<s.size/\(bs s)[0]?=some 48->X=.bad 3 0)(uU:r=true->¬(1<s.size/\(bs s)[0]?=some 48)->X=V7h Y)(w:World)(hw:V4d w):Calls prog 99 #[.string s] w λ e w'=>Op X e/\Gr w w':=by
 refine Z122 ?_;intro HW oM HR HY HL zO zP xe;have pJ:=hs;have a8:¬s.toList=[]:=λ e=>by rw[U1y]at e;have h2:=O0 s;rw[show bs s=[] from e]at h2;simp at h2;omega
 refine Z198 ?_;intro eJ zX fW;have y1:(((s[0]'h0).toNat:Int)==43)=false:=(V1q (s[0]'h0).toNat 43 false (by simpa using hc.1)).1;have y3:(((s[0]'h0).toNat:Int)==45)=false:=(V1q (s[0]'h0).toNat 45 false (by simpa using hc.2)).1;refine Z204 ?_;intro uX fc mN;have q:∀W,(Go.binOp .eql 205 (V44 bg bb ds) O2o).run prog W=.ok (.bool true) W:=λ _=>by subst jy cn kG;kernel_rfl
 have bz:(bg.size:Int)<=(s.size:Int):=by rw[jy,show (⟨#[]⟩:ByteArray).size=0 from rfl];omega
 refine Z196 ?_;intro ay hB;clear jy cn kG;clear hw ju hr hY hL uS uT uU;go_enter func99,ntmps99;go_wp2_with (go_at_call 131;refine (O35 s _ ((HW.o.gr Gr.auto).rad)).mono ?_;rw[oM.o];rintro e w1 ⟨rfl,g1⟩);refine Z147 ?_;intro W0 aI;have dM:O_s bg bb ds w1.heap.size W0:=by rw[<-aI];exact⟨⟨Yb,Yb,Yb⟩,Yb⟩
 have eP:Gr w W0:=by rw[<-aI];exact g1.alloc _
 rw[aI];clear aI g1;obtain⟨⟨c0,c1,c2⟩,aa⟩:=dM
 go_quiet (fail)
 have o8:Gr w (W0.drewN nq):=eP.drewN _;go_wp2_with fail;refine Z15 ?_;intro bh w2 g2 cF;refine Z82 ?_;refine Z19 ?_;refine Z12 ?_;have bC:Gr w w2:=o8.drew.trans g2;clear g2 eP o8 c0 c1 c2 aa bh;obtain⟨⟨c0,c1,c2⟩,aa⟩:=cF;go_wp2_with fail;refine Z320 ?_;intro bi w3 g3 aC;cases r with
 |false =>
  refine Z21 ?_;refine Z12 ?_;have d7:Gr w w3:=bC.drew.trans g3;exact J123
 |true =>
  by_cases h1:1<s.size
  have e1:decide ((1:Int)<(s.size:Int))=true:=Ye;have H1:=U10 h1;have e0:0<s.size:=Ya;have e2:(0:Int)<(s.size:Int):=Ya
  cases hz:((s[0]'e0).toNat==48) with
  |true =>
   obtain⟨z1,z2⟩:=V1q _ 48 _ hz;have HZ:Hid ((bs s)[0]?=some 48):=U10 (by
    have h2:=O9 s 0 e0;simp only[U2j]at h2;rw[h2];simp only[U2e,U1f,<-U20]
    simpa using hz)
   clear hz;refine Z5 ?_;intro w4 g4 ci;refine Z73 ?_;refine Z99 ?_;refine Z12 ?_;have dk:Gr w w4:=(bC.drew.trans g3).trans g4;exact J203
  |false =>
   obtain⟨z1,z2⟩:=V1q _ 48 _ hz;have Bq:Hid (¬(1<s.size/\(bs s)[0]?=some 48)):=U10 (by
    rintro⟨_,h3⟩;have h2:=O9 s 0 e0;simp only[U2j]at h2;rw[h2]at h3;simp only[U2e,U1f]at h3;rw[h3]at hz;simp at hz)
   clear hz;refine Z5 ?_;intro w4 g4 ci;refine Z73 ?_;exact J100
  have e1:decide ((1:Int)<(s.size:Int))=false:=Ye;have Bq:Hid (¬(1<s.size/\(bs s)[0]?=some 48)):=U10 (λ h3=>h1 h3.1);refine Z5 ?_;intro w4 g4 ci;refine Z90 ?_;exact J100
theorem Ogn(bg:ByteArray)(bb:Nat)(ds:ByteArray)(jy:bg=⟨#[]⟩)(cn:bb=10)(kG:ds=V36)(s:ByteArray)(hs:s.size<=20000000)(ju:O1o (bs s)=V44 bg bb ds)(h0:s.toList=[])(r:Bool)(Ew:r=false)(hr:∀w,Calls prog 133 #[V44 bg bb ds,.string s] w λ e w'=>e=.returned (.bool r)/\Gr w w')(L:ByteArray)(hL:L=⟨(Lib.replaceAll (bs s) [95] []).toArray⟩)(T:ByteArray)(tE:(⟨#[]⟩:ByteArray)++L=T)(Y:Lib.NumEnd Int)(hY:r=true->Y≠Lib.NumEnd.syntax/\(∀v,Y=.ok v -> -9223372036854775808<=v/\v<=9223372036854775807)/\∀w ep,w.cell? ⟨1,0,none⟩=some (.iface 288 (.pointer (some ep)))->Calls prog 134 #[.string T,bb,(64:Int)] w (O1h ep w Y))(X:V35 Pl.Bs)(uS:r=false->X=.bad 3 0)(uT:1<s.size/\(bs s)[0]?=some 48->X=.bad 3 0)(uU:r=true->¬(1<s.size/\(bs s)[0]?=some 48)->X=V7h Y)(w:World)(hw:V4d w):Calls prog 99 #[.string s] w λ e w'=>Op X e/\Gr w w':=by
 refine Z122 ?_;intro HW oM HR HY HL zO zP xe;have pJ:=hs;have eJ:s.toList.isEmpty=true:=by rw[h0];rfl
 refine Z204 ?_;intro uX fc mN;have q:∀W,(Go.binOp .eql 205 (V44 bg bb ds) O2o).run prog W=.ok (.bool true) W:=λ _=>by subst jy cn kG;kernel_rfl
 have bz:(bg.size:Int)<=(s.size:Int):=by rw[jy,show (⟨#[]⟩:ByteArray).size=0 from rfl];omega
 refine Z196 ?_;intro ay hB;clear jy cn kG;clear hw ju hr hY hL uS uT uU;go_enter func99,ntmps99;go_wp2_with (go_at_call 131;refine (O35 s _ ((HW.o.gr Gr.auto).rad)).mono ?_;rw[oM.o];rintro e w1 ⟨rfl,g1⟩);refine Z147 ?_;intro W0 aI;have dM:O_s bg bb ds w1.heap.size W0:=by rw[<-aI];exact⟨⟨Yb,Yb,Yb⟩,Yb⟩
 have eP:Gr w W0:=by rw[<-aI];exact g1.alloc _
 rw[aI];clear aI g1;obtain⟨⟨c0,c1,c2⟩,aa⟩:=dM
 go_quiet (fail)
 have o8:Gr w (W0.drewN nq):=eP.drewN _;go_wp2_with fail;refine Z15 ?_;intro bh w2 g2 cF;refine Z82 ?_;refine Reg.ty 7 ?_;refine Z45 ?_;refine Reg.ty 16 ?_;refine Z12 ?_;have bC:Gr w w2:=o8.drew.trans g2;clear g2 eP o8 c0 c1 c2 aa bh;obtain⟨⟨c0,c1,c2⟩,aa⟩:=cF;go_wp2_with fail;have PU:Hid (r=false):=Ew;clear Ew;refine Z320 ?_;intro bi w3 g3 aC;cases r with
 |false =>
  refine Z21 ?_;refine Z12 ?_;have d7:Gr w w3:=bC.drew.trans g3;exact J123
 |true=>exact absurd PU.o Yb
theorem O72(ds:ByteArray)(f:UInt8->Bool)(h:∀n:Fin 256,(bs ds).contains (UInt8.ofNat n.val)=f (UInt8.ofNat n.val)):(bs ds).contains=f:=by
 funext c
 exact J36
theorem Ofb:(bs V6y).contains=V6i:=O72 V6y _ Yi
theorem Ofc:(bs V6z).contains=(λ c=>decide (48<=c.toNat)&&decide (c.toNat<=55)):=O72 V6z _ Yi
theorem Ofd:(bs V70).contains=(λ c=>decide (48<=c.toNat)&&decide (c.toNat<=49)):=O72 V70 _ Yi
theorem Ofe:(bs V36).contains=O2:=O72 V36 _ Yi
theorem O47(ds:ByteArray)(h:((bs ds).all λ c=>decide (c.toNat<128))=true):∀(j:Nat) b,ds.data.toList[j]?=some b->b.toNat<128:=by
 intro j b hb;have:=U2h.1 h b (U2g hb);exact J4
theorem O5v(b:Nat)(l:List UInt8)(v:Int)(h:V22 b l=.ok v) : -9223372036854775808<=v/\v<=9223372036854775807:=by
 unfold V22 at h
 split at h
 -- base ten
 unfold Lib.parseIntB at h
 split at h;cases h
 simp only at h;have e:(2:Nat) ^ (64-1)=9223372036854775808:=Yd
 split at h;cases h
 cases h
 rename_i u _
 rw[e]at h
 split at h;cases h
 split at h;cases h
 rename_i h1 h2
 simp only[U4y]at h
 split at h
 rename_i hn
 have:u<=9223372036854775808:=by
  by_cases hu:9223372036854775808<u;exact absurd ⟨hn,hu⟩ h2
  omega
 omega
 rename_i hn
 have:u<9223372036854775808:=by
  by_cases hu:9223372036854775808<=u;exact absurd ⟨hn,hu⟩ h1
  omega
 omega
 split at h
 split at h;simp only[U4y]at h;omega
 cases h
 cases h
 cases h
theorem O32(b:Nat)(ds:ByteArray)(hb:(b=10/\ds=V36)\/((b=16/\ds=V6y)\/(b=8/\ds=V6z)\/(b=2/\ds=V70)))(S D L T:ByteArray)(hS:(b=10/\(bs S=[]\/bs S=[43]\/bs S=[45]))\/bs S=[])(hD:(bs S).length+D.size<=20000000)(hL:L=⟨(Lib.replaceAll (bs D) [95] []).toArray⟩)(hT:S++L=T)(hr:V15 (bs ds).contains (bs D)=true):V22 b (bs S++Vo (bs D))≠Lib.NumEnd.syntax/\(∀v,V22 b (bs S++Vo (bs D))=.ok v -> -9223372036854775808<=v/\v<=9223372036854775807) /\∀w ep,w.cell? ⟨1,0,none⟩=some (.iface 288 (.pointer (some ep)))->Calls prog 134 #[.string T,b,(64:Int)] w (O1h ep w (V22 b (bs S++Vo (bs D)))):=by
 obtain⟨LW,a8⟩:=V7c _ _ hr;have je:bs T=bs S++Vo (bs D):=by
  rw[<-hT,hL];simp[bs,U2m,Vo]
 have rH:T.size<=20000000:=by
  rw[<-O0,je,U1c];have:=V45 (bs D);rw[O0]at this;omega
 have xQ:=λ h w ep hw=>Oiw b T rH h w ep hw
 rw[je]at xQ;rcases hb with⟨rfl,rfl⟩|hb
 have hd:∀c∈Vo (bs D),O2 c=true:=λ c hc=>by have:=LW c hc;rw[Ofe]at this;exact this
 have Ae:Lib.parseIntB 64 (bs S++Vo (bs D))≠Lib.NumEnd.syntax:=V7d _ _ (by rcases hS with⟨_,h⟩|h;exact h;exact .inl h) hd a8;have e:V22 10 (bs S++Vo (bs D))=Lib.parseIntB 64 (bs S++Vo (bs D)):=by unfold V22;rw[U18 rfl]
 exact⟨by rw[e];exact Ae,λ v hv=>O5v _ _ v hv,λ w ep hw=>xQ (.inl ⟨rfl,Ae⟩) w ep hw⟩
 have lp:b≠10:=by rcases hb with⟨rfl,_⟩|⟨rfl,_⟩|⟨rfl,_⟩ <;> decide
 have bh:bs S=[]:=by rcases hS with⟨h,_⟩|h;exact absurd h lp;exact h
 have aR:b=16\/b=8\/b=2:=by rcases hb with⟨h,_⟩|⟨h,_⟩|⟨h,_⟩;exact .inl h;exact .inr (.inl h);exact .inr (.inr h)
 have hd:∀c∈Vo (bs D),V2g c.toNat<b:=by
  intro c hc;have h2:=LW c hc;rcases hb with⟨rfl,rfl⟩|⟨rfl,rfl⟩|⟨rfl,rfl⟩
  rw[Ofb]at h2;simp only[V6i,O2,U4h,U1g,U1x]at h2;unfold V2g
  split;omega
  split;omega
  split;omega
  omega;rw[Ofc]at h2;exact J70
  rw[Ofd]at h2;exact J70
 have h0:0<T.size:=by
  rw[<-O0,je,bh,U23];exact U30.2 a8
 have rC:bs S++Vo (bs D)=Vo (bs D):=by rw[bh];rfl
 refine⟨?_,λ v hv=>O5v _ _ v hv,λ w ep hw=>xQ (.inr ⟨aR,h0,by rw[rC];exact hd⟩) w ep hw⟩;rw[O6h b _ lp,rC];have:=V4u b 18446744073709551615 _ 0 hd;revert this;cases Vr b 18446744073709551615 0 (Vo (bs D)) with
 |range=>intro _ h;cases h
 |ok v=>intro _ h;unfold O3b at h;simp only at h;split at h <;> cases h
 |_=>intro h;exact absurd rfl h
theorem Ope(bb:Nat)(ds S D:ByteArray)(dig:UInt8->Bool)(lq:(bs ds).contains=dig)(hb:bb≠10)(hS:bs S=[])(lg:Nat):(if V15 (bs ds).contains (bs D)=false then .bad 3 0 else V7h (V22 bb (bs S++Vo (bs D))))=V1t ⟨lg,bb,dig⟩ [] (bs D):=by
 unfold V1t;rw[lq,hS];by_cases h:V15 dig (bs D)=false;rw[U18 h,U18 (.inl h)]
 rw[U1b h,U1b (by rintro (h1|⟨h1,_⟩);exact h h1;exact hb h1)];simp only;cases V22 bb ([]++Vo (bs D)) <;> rfl
theorem Od9(S D:ByteArray)(lg:Nat):let X:=V1t ⟨lg,10,O2⟩ (bs S) (bs D)
    (V15 (bs V36).contains (bs D)=false->X=.bad 3 0)/\(1<D.size/\(bs D)[0]?=some 48->X=.bad 3 0) /\
    (V15 (bs V36).contains (bs D)=true->¬(1<D.size/\(bs D)[0]?=some 48)->X=V7h (V22 10 (bs S++Vo (bs D)))):=by
 intro X;have hX:X=V1t ⟨lg,10,O2⟩ (bs S) (bs D):=rfl
 clear_value X
 subst hX;unfold V1t;rw[Ofe];refine⟨λ h=>by rw[U18 (.inl h)],λ h=>by rw[U18 (.inr ⟨rfl,by rw[O0];exact h.1,h.2⟩)],λ h h2=>?_⟩;rw[U1b (by rintro (h1|⟨_,h1,h3⟩);rw[h]at h1;cases h1;exact h2 ⟨by rw[O0]at h1;exact h1,h3⟩)];simp only;cases V22 10 (bs S++Vo (bs D)) <;> rfl
theorem Off(s:ByteArray)(hs:s.size<=20000000)(w:World)(hw:V4d w):Calls prog 99 #[.string s] w λ e w'=>Op (V1i (bs s)) e/\Gr w w':=by
 have other:∀(bg:ByteArray)(bb:Nat)(ds:ByteArray)(dig:UInt8->Bool),(bs ds).contains=dig->bb≠10->((bb=16/\ds=V6y)\/(bb=8/\ds=V6z)\/(bb=2/\ds=V70))->ds.size<=100->(∀(j:Nat) b,ds.data.toList[j]?=some b->b.toNat<128)->bg.size=2->2<=s.size ->
     O1o (bs s)=V44 bg bb ds->V4v (bs s)=⟨2,bb,dig⟩->(∀W,(Go.binOp .eql 205 (V44 bg bb ds) O2o).run prog W=.ok (.bool false) W) ->
     Calls prog 99 #[.string s] w λ e w'=>Op (V1i (bs s)) e/\Gr w w':=by
  intro bg bb ds dig lq lp hb kG ha jy bY ju td hq;have pJ:(s.extract bg.size s.size).size<=20000000:=Ye
  have h:=Oix bg bb ds s hs ju Ya hq (s.extract bg.size s.size) rfl _ (λ w=>O62 bg bb ds kG ha _ pJ w) _ rfl
   (V22 bb (bs ⟨#[]⟩++Vo (bs (s.extract bg.size s.size)))) (λ hr=>O32 bb ds (.inr hb) ⟨#[]⟩ _ _ _ (.inr rfl) (by simp only[bs];simp;omega) rfl (by apply U31;simp[U2m]) hr) w hw
  rw[Ope bb ds ⟨#[]⟩ (s.extract bg.size s.size) dig lq lp rfl 2]at h;have e:V1i (bs s)=V1t ⟨2,bb,dig⟩ [] (bs (s.extract bg.size s.size)):=by
   unfold V1i V5b;rw[td];have:(decide (bb=10)&&Pl.signed (bs s))=false:=by simp[lp]
   simp only[this];rw[O3,jy];rfl
  rw[e];exact h
 have bY:∀x:UInt8,Pl.pre (bs s) [48,x]=true->2<=s.size:=λ x h=>by
  have:=V1w _ _ h;rw[O0]at this
  simpa using this
 by_cases h0:Pl.pre (bs s) [48,120]=true;exact other ⟨#[48,120]⟩ 16 V6y _ Ofb Yd (.inl ⟨rfl,rfl⟩) Yd (O47 _ Yd) rfl (bY _ h0) (by unfold O1o;rw[U18 h0]) (by unfold V4v;rw[U18 h0]) (λ _=>by kernel_rfl)
 by_cases h1:Pl.pre (bs s) [48,111]=true;exact other ⟨#[48,111]⟩ 8 V6z _ Ofc Yd (.inr (.inl ⟨rfl,rfl⟩)) Yd (O47 _ Yd) rfl (bY _ h1) (by unfold O1o;rw[U1b h0,U18 h1]) (by unfold V4v;rw[U1b h0,U18 h1]) (λ _=>by kernel_rfl)
 by_cases h2:Pl.pre (bs s) [48,98]=true;exact other ⟨#[48,98]⟩ 2 V70 _ Ofd Yd (.inr (.inr ⟨rfl,rfl⟩)) Yd (O47 _ Yd) rfl (bY _ h2) (by unfold O1o;rw[U1b h0,U1b h1,U18 h2]) (by unfold V4v;rw[U1b h0,U1b h1,U18 h2]) (λ _=>by kernel_rfl)
 have ju:O1o (bs s)=V44 ⟨#[]⟩ 10 V36:=by unfold O1o;rw[U1b h0,U1b h1,U1b h2];rfl
 have td:V4v (bs s)=⟨0,10,O2⟩:=by unfold V4v;rw[U1b h0,U1b h1,U1b h2]
 have jg:=λ(D:ByteArray)(hD:D.size<=20000000)(w:World)=>O62 ⟨#[]⟩ 10 V36 Yd (O47 _ Yd) D hD w
 by_cases hz:0<s.size
 have du:=O9 s 0 hz;simp only[U2j]at du;by_cases n7:(s[0]'hz).toNat=43\/(s[0]'hz).toNat=45
 have hS:bs (s.extract 0 1)=[s[0]'hz]:=by
  have h5:bs (s.extract 0 1)=(bs s).take 1:=by simp only[bs,U3b];simp
  rw[h5,du];rfl
 have Hh:bs (s.extract 0 1)=[43]\/bs (s.extract 0 1)=[45]:=by
  rw[hS];rcases n7 with h|h
  left;congr 1;rw[<-U20];exact h
  right;congr 1;rw[<-U20];exact h
 have pJ:(s.extract 1 s.size).size<=20000000:=Ye;obtain⟨x1,x2,x3⟩:=Od9 (s.extract 0 1) (s.extract 1 s.size) 0;have e:V1i (bs s)=V1t ⟨0,10,O2⟩ (bs (s.extract 0 1)) (bs (s.extract 1 s.size)):=by
  have Hi:V5b (bs s)=true:=by
   unfold V5b;rw[td,du];simp only[decide_true,Bool.true_and,Pl.signed,Vx];rcases n7 with h|h <;> rw[h] <;> rfl
  unfold V1i;rw[U18 Hi,td];have h5:bs (s.extract 0 1)=(bs s).take 1:=by simp only[bs,U3b];simp
  rw[h5,O3]
 rw[e];have hP:=λ hr=>O32 10 V36 (.inl ⟨rfl,rfl⟩) (s.extract 0 1) (s.extract 1 s.size) _ _ (.inl ⟨rfl,.inr Hh⟩) (by rw[hS];simp;omega) rfl rfl hr
 rcases n7 with h|h
 exact Ogk ⟨#[]⟩ 10 V36 rfl rfl rfl s hs ju hz h _ _ rfl rfl _ (jg _ pJ) _ rfl _ rfl _ hP _ x1 x2 x3 w hw
 exact Ogl ⟨#[]⟩ 10 V36 rfl rfl rfl s hs ju hz h _ _ rfl rfl _ (jg _ pJ) _ rfl _ rfl _ hP _ x1 x2 x3 w hw
 obtain⟨x1,x2,x3⟩:=Od9 ⟨#[]⟩ s 0;have e:V1i (bs s)=V1t ⟨0,10,O2⟩ (bs ⟨#[]⟩) (bs s):=by
  have Hi:V5b (bs s)=false:=by
   unfold V5b;rw[td,du];simp only[decide_true,Bool.true_and,Pl.signed,Vx];simp only[Bool.or_eq_false_iff,U3l];exact⟨λ h=>n7 (.inl h),λ h=>n7 (.inr h)⟩
  unfold V1i;rw[U1b (by rw[Hi];simp),td];rfl
 rw[e];exact Ogm ⟨#[]⟩ 10 V36 rfl rfl rfl s hs ju hz ⟨λ h=>n7 (.inl h),λ h=>n7 (.inr h)⟩ _ (jg _ hs) _ rfl _ rfl _
  (λ hr=>O32 10 V36 (.inl ⟨rfl,rfl⟩) ⟨#[]⟩ s _ _ (.inr rfl) (by simp only[bs];simp;omega) rfl rfl hr) _ x1 x2 x3 w hw
 have Hj:bs s=[]:=List.length_eq_zero_iff.1 (by rw[O0];omega);have PV:s.toList=[]:=by rw[U1y];exact Hj
 obtain⟨x1,x2,x3⟩:=Od9 ⟨#[]⟩ s 0;have e:V1i (bs s)=V1t ⟨0,10,O2⟩ (bs ⟨#[]⟩) (bs s):=by rw[Hj];rfl
 rw[e];exact Ogn ⟨#[]⟩ 10 V36 rfl rfl rfl s hs ju PV _ (by rw[Hj];rfl) (jg _ hs) _ rfl _ rfl _
  (λ hr=>O32 10 V36 (.inl ⟨rfl,rfl⟩) ⟨#[]⟩ s _ _ (.inr rfl) (by simp only[bs];simp;omega) rfl rfl hr) _ x1 x2 x3 w hw
