/- The proof's part 15. -/
import Derived.Test.YtnkgknbdaiakgaaGreatDoorQ16
set_option maxHeartbeats 16000000
set_option linter.all false
set_option maxRecDepth 100000
namespace Go.Proofs.YtnkgknbdaiakgaaGreatDoor
open Pl Go.Proofs.Tryz Go.RowKit
def O1c(ep:Addr)(w:World)(Y:Lib.NumEnd Int)(e:Ending)(w':World):Prop:=match Y with
 |.ok v=>e=.returned (.tuple #[v,.nilIface])/\Gr w w'
 |.range=>(∃(k:Int)(N:Nat),e=.returned (.tuple #[k,.iface 260 (.pointer (some ⟨N,0,none⟩))])/\w'.cell? ⟨N,2,none⟩=some (.iface 288 (.pointer (some ep))))/\Gr w w'
 |Lib.NumEnd.syntax=>True
def O34(Y:Lib.NumEnd Nat):Lib.NumEnd Int:=match Y with
 |.ok v=>if v<9223372036854775808 then .ok (v:Int) else .range
 |.range => .range
 |Lib.NumEnd.syntax=>Lib.NumEnd.syntax
def Oea(Y:Lib.NumEnd Int)(e:Ending):Prop:=match Y with
 |.ok v=>e=.returned (.tuple #[v,.nilIface])
 |.range=>e=.returned (.tuple #[(9223372036854775807:Int),.iface 257 (1:Int)])
 |Lib.NumEnd.syntax=>True
theorem Ooe(t:ByteArray)(base:Int)(h0:0<t.size)(hs:(t[0]'h0).toNat≠43/\(t[0]'h0).toNat≠45)(Y:Lib.NumEnd Nat)(aP:∀v,Y=.ok v->v<=18446744073709551615)(a8:Y≠Lib.NumEnd.syntax)(hU:∀w,Calls prog 192 #[.string t,base,(64:Int)] w λ e w'=>e=.returned (Lib.uintTupleM 257 18446744073709551615 Y)/\w'=Lib.bytesWorld w 5 t)(w:World):Calls prog 168 #[.string t,base,(64:Int)] w λ e w'=>Oea (O34 Y) e/\Gr w w':=by
 have eS:t.toList.isEmpty=false:=by
  rw[<-decide_eq_emptyBytes];exact U48 (λ h=>by rw[h]at h0;exact absurd h0 Yd)
 have eW:(0:Int)<(t.size:Int):=Ya;obtain⟨x1,x2⟩:=V1u (t[0]'h0).toNat 43 false (by simpa using hs.1);obtain⟨y1,y2⟩:=V1u (t[0]'h0).toNat 45 false (by simpa using hs.2);have vK:∀W,(Go.binOp .neq 115 (.iface 257 (1:Int)) (.iface 257 (1:Int))).run prog W=.ok (.bool false) W:=λ W=>by kernel_rfl
 have cY:=O11 w 5 t;have hU:=hU w;refine Z168 ?_;intro W1 aR;rw[<-aR]at hU cY;clear aR hs;cases Y with
 |range =>
  have hU:Calls prog 192 #[.string t,base,(64:Int)] w λ e w'=>e=.returned (.tuple #[.int .u64 18446744073709551615,.iface 257 (1:Int)])/\w'=W1:=hU
  clear aP a8;go_enter func168,ntmps168;go_wp2_with (refine hU.mono ?_;rintro e w1 ⟨rfl,rfl⟩)
  go_wp2
  go_ret2
  exact⟨rfl,cY⟩
 |ok v =>
  have hv:=aP v rfl;have hU:Calls prog 192 #[.string t,base,(64:Int)] w λ e w'=>e=.returned (.tuple #[.int .u64 (v:Int),.nilIface])/\w'=W1:=hU
  obtain⟨a,ha⟩:∃a:Int,a=(v:Int):=⟨_,rfl⟩
  rw[<-ha]at hU;refine Z277 ?_;intro a0 a1;clear aP a8;by_cases tZ:v<9223372036854775808
  ·have HI:Hid (v<9223372036854775808):=tZ;have HA:Hid (a=(v:Int)):=ha;have Ud:a<9223372036854775808:=by omega
   clear tZ hv ha;go_enter func168,ntmps168;go_wp2_with (refine hU.mono ?_;rintro e w1 ⟨rfl,rfl⟩)
   go_wp2
   go_ret2
   exact⟨by unfold O34;simp only;rw[U1a HI.o];unfold Oea;simp only;rw[HA.o];rfl,cY⟩
  have HI:Hid (¬v<9223372036854775808):=tZ;have Qa:9223372036854775808<=a:=Ya;clear tZ hv ha;go_enter func168,ntmps168;go_wp2_with (refine hU.mono ?_;rintro e w1 ⟨rfl,rfl⟩)
  go_wp2
  go_ret2
  exact⟨by unfold O34;simp only;rw[U1c HI.o];rfl,cY⟩
 |_=>exact absurd rfl a8
theorem O94(t:ByteArray)(base:Int)(h0:0<t.size)(hz:t.size<=20000000)(hs:(t[0]'h0).toNat≠43/\(t[0]'h0).toNat≠45)(Y:Lib.NumEnd Nat)(aP:∀v,Y=.ok v->v<=18446744073709551615)(a8:Y≠Lib.NumEnd.syntax)(hU:∀w,Calls prog 192 #[.string t,base,(64:Int)] w λ e w'=>e=.returned (Lib.uintTupleM 257 18446744073709551615 Y)/\w'=Lib.bytesWorld w 5 t)(w:World)(ep:Addr)(hw:w.cell? ⟨1,0,none⟩=some (.iface 288 (.pointer (some ep)))):Calls prog 134 #[.string t,base,(64:Int)] w (O1c ep w (O34 Y)):=by
 have hI:=Ooe t base h0 hs Y aP a8 hU w;have bad:Calls prog 168 #[.string t,base,(64:Int)] w (λ e w'=>e=.returned (.tuple #[(9223372036854775807:Int),.iface 257 (1:Int)])/\Gr w w') ->
     Calls prog 134 #[.string t,base,(64:Int)] w (O1c ep w .range):=by
  intro hJ;have HW:=U10 hw;clear hw hI hU;go_enter func134,ntmps134;go_wp2_with fail;refine hJ.mono ?_;rintro e w1 ⟨rfl,g1⟩;go_wp2_with fail;refine (strconv_toError_range ⟨#[80,97,114,115,101,73,110,116]⟩ t base 64 _ w1 Ya ((g1.use.1 _ _ (Lib.lt_of_cell HW.o)).trans HW.o) (.inr ⟨_,_,rfl⟩)).mono ?_;rintro e w2 ⟨N,rfl,hN,hb,g2⟩;go_wp2_with fail
  go_ret2
  exact⟨⟨_,N,rfl,by rw[Joins.cell_of_block hb];rfl⟩,g1.trans g2⟩
 cases Y with
 |range=>exact bad hI
 |ok v =>
  unfold O34 at hI⊢;by_cases hv:v<9223372036854775808
  ·simp only[U1a hv]at hI⊢;clear hw hU bad;go_enter func134,ntmps134;go_wp2_with fail;refine hI.mono ?_;rintro e w1 ⟨rfl,g1⟩;go_wp2_with fail
   go_ret2
   exact⟨rfl,g1⟩
  simp only[U1c hv]at hI⊢;exact bad hI
 |_=>exact absurd rfl a8
theorem O5z(b:Nat)(l:List UInt8)(h:b≠10):V1z b l=O34 (Vp b 18446744073709551615 0 l):=by
 unfold V1z O34;rw[U1c h];cases Vp b 18446744073709551615 0 l <;> rfl
namespace Pl
theorem V6d(B M:Nat)(l:Bs):∀acc v,acc<=M->Vp B M acc l=.ok v->v<=M:=by
 induction l with
 |nil=>intro acc v h hv;simp only[Vp,U4m]at hv;omega
 |cons c l ih =>
  intro acc v h hv;unfold Vp at hv
  split at hv
  split at hv;cases hv
  exact ih _ _ Ya hv
  cases hv
theorem V4g(B M:Nat)(l:Bs):∀acc,(∀c∈l,V2d c.toNat<B)->Vp B M acc l≠Lib.NumEnd.syntax:=by
 induction l with
 |nil=>intro acc _ h;simp[Vp]at h
 |cons c l ih =>
  intro acc hd;unfold Vp;rw[U1a (hd c Yb)]
  split;simp
  exact ih _ (λ x hx=>hd x (U24 _ hx))
end Pl
theorem Oi1(b:Nat)(t:ByteArray)(hz:t.size<=20000000)(h:(b=10/\Lib.parseIntB 64 (bs t)≠Lib.NumEnd.syntax)\/((b=16\/b=8\/b=2)/\0<t.size/\∀c∈bs t,V2d c.toNat<b))(w:World)(ep:Addr)(hw:w.cell? ⟨1,0,none⟩=some (.iface 288 (.pointer (some ep)))):Calls prog 134 #[.string t,b,(64:Int)] w (O1c ep w (V1z b (bs t))):=by
 rcases h with⟨rfl,a8⟩|⟨hb,h0,hd⟩
 unfold V1z;rw[U1a rfl];cases hp:Lib.parseIntB 64 (bs t) with
 |ok v=>exact Oiw t hz v hp w
 |range =>
  refine (strconv_ParseInt_10_at64_range t Ya hp _ w hw (.inr ⟨_,_,rfl⟩)).mono ?_;rintro e w' ⟨N,rfl,hN,hb,g⟩;exact⟨⟨_,N,rfl,by rw[Joins.cell_of_block hb];rfl⟩,g⟩
 |_=>exact absurd hp a8
 have hs:(t[0]'h0).toNat≠43/\(t[0]'h0).toNat≠45:=by
  have h2:=hd (t[0]'h0) (by have:=O8 t 0 h0;simp only[U2b]at this;rw[this];simp);unfold V2d at h2;constructor;intro e;rw[e]at h2;simp at h2;omega
  intro e;rw[e]at h2;simp at h2;omega
 have lI:b≠10:=Ya;rw[O5z b _ lI];rcases hb with rfl|rfl|rfl
 exact O94 t 16 h0 hz hs _ (λ v hv=>V6d _ _ _ 0 v Ya hv) (V4g _ _ _ 0 hd) (λ w=>Oko t Ya Ya w) w ep hw;exact O94 t 8 h0 hz hs _ (λ v hv=>V6d _ _ _ 0 v Ya hv) (V4g _ _ _ 0 hd) (λ w=>On4 t Ya Ya w) w ep hw
 exact O94 t 2 h0 hz hs _ (λ v hv=>V6d _ _ _ 0 v Ya hv) (V4g _ _ _ 0 hd) (λ w=>On5 t Ya Ya w) w ep hw
end Go.Proofs.YtnkgknbdaiakgaaGreatDoor
namespace Go.Proofs.YtnkgknbdaiakgaaGreatDoor
open Pl Go.Proofs.Tryz Go.RowKit Go.Shelf Go.Joins
attribute [local go_sem] U22
abbrev V6a:ByteArray:=⟨#[48,49,50,51,52,53,54,55,56,57,97,98,99,100,101,102,65,66,67,68,69,70]⟩
abbrev V6b:ByteArray:=⟨#[48,49,50,51,52,53,54,55]⟩
abbrev V6c:ByteArray:=⟨#[48,49]⟩
abbrev V3n(bg:ByteArray)(b:Nat)(ds:ByteArray):Value := .agg #[.string bg,b,.string ds]
theorem Olr(s:ByteArray)(h0:Pl.pre (bs s) [48,120]=true)(w:World)(hr:V8b w):Calls prog 131 #[.string s] w λ e w'=>e=.returned (V3n ⟨#[48,120]⟩ 16 V6a)/\Gr w w':=by
 have r0:w.cell? ⟨6,0,none⟩=some (.string ⟨#[48,120]⟩):=hr 0 _ rfl;have r1:w.cell? ⟨6,1,none⟩=some (.int .i64 16):=hr 1 _ rfl;have r2:w.cell? ⟨6,2,none⟩=some (.string V6a):=hr 2 _ rfl;have r3:w.cell? ⟨6,3,none⟩=some (.string ⟨#[48,111]⟩):=hr 3 _ rfl;have r4:w.cell? ⟨6,4,none⟩=some (.int .i64 8):=hr 4 _ rfl;have r5:w.cell? ⟨6,5,none⟩=some (.string V6b):=hr 5 _ rfl;have r6:w.cell? ⟨6,6,none⟩=some (.string ⟨#[48,98]⟩):=hr 6 _ rfl;have r7:w.cell? ⟨6,7,none⟩=some (.int .i64 2):=hr 7 _ rfl;have r8:w.cell? ⟨6,8,none⟩=some (.string V6c):=hr 8 _ rfl;have a9:6<w.heap.size:=Lib.lt_of_cell r0;have H0:=U10 h0;refine Z52 ?_;intro i0 i1 i2;clear hr h0;go_enter func131,ntmps131;go_wp2_with fail
 go_loopw [6] (λ v wr=>∃k:Nat,v=.int .i64 k/\(k=0)/\Gr (w.alloc (.cells #[.string ⟨#[]⟩,(0:Int),.string ⟨#[]⟩] 205)) wr) (λ v _=>3-(intOf v).toNat)
 case atStart=>exact⟨0,rfl,rfl,Gr.refl _⟩
 case round =>
  obtain⟨k,rfl,hk,hg⟩:=hrel;obtain⟨hc,hf,hz⟩:=hg.use;rcases hk with rfl;have p0:wr.cell? w=some (.string ⟨#[]⟩):=(hc _ _ Yb).trans Yb;have p1:wr.cell? ⟨w,1,none⟩=some (.int .i64 0):=(hc _ _ Yb).trans Yb;have p2:wr.cell? ⟨w,2,none⟩=some (.string ⟨#[]⟩):=(hc _ _ Yb).trans Yb;have pf:∀o,wr.frozen? ⟨w,o,none⟩=false:=λ o=>(hf _ _ Yb).trans Yh
  simp only[U1s]at hz;have eN:w.heap.size<wr.heap.size:=Ya
  clear hc hf;go_wp2_with (go_at_call 56;refine (Om s ⟨#[48,120]⟩ true H0.o _).mono ?_;rintro e w1 ⟨rfl,rfl⟩);have cb:Gr w wr:=((Gr.refl w).alloc _).trans hg;exact U11 (v:=V3n ⟨#[48,120]⟩ 16 V6a) (by simp[results,results131,go_sem,p0,p1,p2,pf,eN]) rfl ⟨rfl,by refine Gr.alloc ?_ _;(repeat refine Gr.setCell ?_ (U12 _) _);exact cb⟩
theorem Ols(s:ByteArray)(h0:Pl.pre (bs s) [48,120]=false)(h1:Pl.pre (bs s) [48,111]=true)(w:World)(hr:V8b w):Calls prog 131 #[.string s] w λ e w'=>e=.returned (V3n ⟨#[48,111]⟩ 8 V6b)/\Gr w w':=by
 have r0:w.cell? ⟨6,0,none⟩=some (.string ⟨#[48,120]⟩):=hr 0 _ rfl;have r1:w.cell? ⟨6,1,none⟩=some (.int .i64 16):=hr 1 _ rfl;have r2:w.cell? ⟨6,2,none⟩=some (.string V6a):=hr 2 _ rfl;have r3:w.cell? ⟨6,3,none⟩=some (.string ⟨#[48,111]⟩):=hr 3 _ rfl;have r4:w.cell? ⟨6,4,none⟩=some (.int .i64 8):=hr 4 _ rfl;have r5:w.cell? ⟨6,5,none⟩=some (.string V6b):=hr 5 _ rfl;have r6:w.cell? ⟨6,6,none⟩=some (.string ⟨#[48,98]⟩):=hr 6 _ rfl;have r7:w.cell? ⟨6,7,none⟩=some (.int .i64 2):=hr 7 _ rfl;have r8:w.cell? ⟨6,8,none⟩=some (.string V6c):=hr 8 _ rfl;have a9:6<w.heap.size:=Lib.lt_of_cell r0;have H0:=U10 h0;have H1:=U10 h1;refine Z52 ?_;intro i0 i1 i2;clear hr h0 h1;go_enter func131,ntmps131;go_wp2_with fail
 go_loopw [6] (λ v wr=>∃k:Nat,v=.int .i64 k/\(k=0\/k=1)/\Gr (w.alloc (.cells #[.string ⟨#[]⟩,(0:Int),.string ⟨#[]⟩] 205)) wr) (λ v _=>3-(intOf v).toNat)
 case atStart=>exact⟨0,rfl,.inl rfl,Gr.refl _⟩
 case round =>
  obtain⟨k,rfl,hk,hg⟩:=hrel;obtain⟨hc,hf,hz⟩:=hg.use;rcases hk with rfl|rfl
  ·clear hc hf;go_wp2_with (go_at_call 56;refine (Om s ⟨#[48,120]⟩ false H0.o _).mono ?_;rintro e w1 ⟨rfl,rfl⟩)
   go_roundw
   case rel=>exact⟨1,rfl,.inr (rfl),hg.alloc _⟩
   case measure=>simp[intOf]
  have p0:wr.cell? w=some (.string ⟨#[]⟩):=(hc _ _ Yb).trans Yb;have p1:wr.cell? ⟨w,1,none⟩=some (.int .i64 0):=(hc _ _ Yb).trans Yb;have p2:wr.cell? ⟨w,2,none⟩=some (.string ⟨#[]⟩):=(hc _ _ Yb).trans Yb;have pf:∀o,wr.frozen? ⟨w,o,none⟩=false:=λ o=>(hf _ _ Yb).trans Yh
  simp only[U1s]at hz;have eN:w.heap.size<wr.heap.size:=Ya
  clear hc hf;go_wp2_with (go_at_call 56;refine (Om s ⟨#[48,111]⟩ true H1.o _).mono ?_;rintro e w1 ⟨rfl,rfl⟩);have cb:Gr w wr:=((Gr.refl w).alloc _).trans hg;exact U11 (v:=V3n ⟨#[48,111]⟩ 8 V6b) (by simp[results,results131,go_sem,p0,p1,p2,pf,eN]) rfl ⟨rfl,by refine Gr.alloc ?_ _;(repeat refine Gr.setCell ?_ (U12 _) _);exact cb⟩
theorem Olt(s:ByteArray)(h0:Pl.pre (bs s) [48,120]=false)(h1:Pl.pre (bs s) [48,111]=false)(h2:Pl.pre (bs s) [48,98]=true)(w:World)(hr:V8b w):Calls prog 131 #[.string s] w λ e w'=>e=.returned (V3n ⟨#[48,98]⟩ 2 V6c)/\Gr w w':=by
 have r0:w.cell? ⟨6,0,none⟩=some (.string ⟨#[48,120]⟩):=hr 0 _ rfl;have r1:w.cell? ⟨6,1,none⟩=some (.int .i64 16):=hr 1 _ rfl;have r2:w.cell? ⟨6,2,none⟩=some (.string V6a):=hr 2 _ rfl;have r3:w.cell? ⟨6,3,none⟩=some (.string ⟨#[48,111]⟩):=hr 3 _ rfl;have r4:w.cell? ⟨6,4,none⟩=some (.int .i64 8):=hr 4 _ rfl;have r5:w.cell? ⟨6,5,none⟩=some (.string V6b):=hr 5 _ rfl;have r6:w.cell? ⟨6,6,none⟩=some (.string ⟨#[48,98]⟩):=hr 6 _ rfl;have r7:w.cell? ⟨6,7,none⟩=some (.int .i64 2):=hr 7 _ rfl;have r8:w.cell? ⟨6,8,none⟩=some (.string V6c):=hr 8 _ rfl;have a9:6<w.heap.size:=Lib.lt_of_cell r0;have H0:=U10 h0;have H1:=U10 h1;have H2:=U10 h2;refine Z52 ?_;intro i0 i1 i2;clear hr h0 h1 h2;go_enter func131,ntmps131;go_wp2_with fail
 go_loopw [6] (λ v wr=>∃k:Nat,v=.int .i64 k/\(k=0\/k=1\/k=2)/\Gr (w.alloc (.cells #[.string ⟨#[]⟩,(0:Int),.string ⟨#[]⟩] 205)) wr) (λ v _=>3-(intOf v).toNat)
 case atStart=>exact⟨0,rfl,.inl rfl,Gr.refl _⟩
 case round =>
  obtain⟨k,rfl,hk,hg⟩:=hrel;obtain⟨hc,hf,hz⟩:=hg.use;rcases hk with rfl|rfl|rfl
  ·clear hc hf;go_wp2_with (go_at_call 56;refine (Om s ⟨#[48,120]⟩ false H0.o _).mono ?_;rintro e w1 ⟨rfl,rfl⟩);exact J6
  ·clear hc hf;go_wp2_with (go_at_call 56;refine (Om s ⟨#[48,111]⟩ false H1.o _).mono ?_;rintro e w1 ⟨rfl,rfl⟩)
   go_roundw
   case rel=>exact⟨2,rfl,.inr (.inr (rfl)),hg.alloc _⟩
   case measure=>simp[intOf]
  have p0:wr.cell? w=some (.string ⟨#[]⟩):=(hc _ _ Yb).trans Yb;have p1:wr.cell? ⟨w,1,none⟩=some (.int .i64 0):=(hc _ _ Yb).trans Yb;have p2:wr.cell? ⟨w,2,none⟩=some (.string ⟨#[]⟩):=(hc _ _ Yb).trans Yb;have pf:∀o,wr.frozen? ⟨w,o,none⟩=false:=λ o=>(hf _ _ Yb).trans Yh
  simp only[U1s]at hz;have eN:w.heap.size<wr.heap.size:=Ya
  clear hc hf;go_wp2_with (go_at_call 56;refine (Om s ⟨#[48,98]⟩ true H2.o _).mono ?_;rintro e w1 ⟨rfl,rfl⟩);have cb:Gr w wr:=((Gr.refl w).alloc _).trans hg;exact U11 (v:=V3n ⟨#[48,98]⟩ 2 V6c) (by simp[results,results131,go_sem,p0,p1,p2,pf,eN]) rfl ⟨rfl,by refine Gr.alloc ?_ _;(repeat refine Gr.setCell ?_ (U12 _) _);exact cb⟩
def O1h(l:List UInt8):Value :=
 if Pl.pre l [48,120] then V3n ⟨#[48,120]⟩ 16 V6a else if Pl.pre l [48,111] then V3n ⟨#[48,111]⟩ 8 V6b else if Pl.pre l [48,98] then V3n ⟨#[48,98]⟩ 2 V6c else O2g
theorem O2z(s:ByteArray)(w:World)(hr:V8b w):Calls prog 131 #[.string s] w λ e w'=>e=.returned (O1h (bs s))/\Gr w w':=by
 unfold O1h;cases h0:Pl.pre (bs s) [48,120] with
 |true=>exact Olr s h0 w hr
 |false =>
  cases h1:Pl.pre (bs s) [48,111] with
  |true=>exact Ols s h0 h1 w hr
  |false =>
   cases h2:Pl.pre (bs s) [48,98] with
   |true=>exact Olt s h0 h1 h2 w hr
   |false=>exact Op1 s ⟨h0,h1,h2⟩ w hr
theorem Og9(l cs:List UInt8):Lib.trimS l cs=[] ↔ (l.all λ c=>cs.contains c)=true:=by
 unfold Lib.trimS Lib.trimRightS Lib.trimLeftS;constructor
 ·intro h;rw[U2k];intro x hx;have h2:∀(m:List UInt8),m.dropWhile (cs.contains ·)=[]->∀x∈m,cs.contains x=true:=by
   intro m
   induction m with
   |nil=>intro _ x hx;cases hx
   |cons a m ih =>
    intro h x hx;rw[U3c]at h
    split at h
    rename_i ha
    rcases U2s.1 hx with rfl|hx
    exact ha
    exact ih h x hx
    cases h
  first
   | (have h3:=h2 _ h
      by_cases hm:x∈(l.reverse.dropWhile (cs.contains ·)).reverse;exact h3 x hm
      have hs:∀(m:List UInt8)(x:UInt8),x∈m->x ∉ m.dropWhile (cs.contains ·)->cs.contains x=true:=by
       intro m
       induction m with
       |nil=>intro x hx;cases hx
       |cons a m ih =>
        intro x hx hn;rw[U3c]at hn
        split at hn
        rename_i ha
        rcases U2s.1 hx with rfl|hx
        exact ha
        exact ih x hx hn
        exact absurd hx hn
      exact hs l.reverse x (List.mem_reverse.2 hx) (λ e=>hm (List.mem_reverse.2 e)))
   | (have h3:=h2 _ (List.reverse_eq_nil_iff.1 h)
      by_cases hm:x∈l.dropWhile (cs.contains ·);exact h3 x (List.mem_reverse.2 hm)
      have hs:∀(m:List UInt8)(x:UInt8),x∈m->x ∉ m.dropWhile (cs.contains ·)->cs.contains x=true:=by
       intro m
       induction m with
       |nil=>intro x hx;cases hx
       |cons a m ih =>
        intro x hx hn;rw[U3c]at hn
        split at hn
        rename_i ha
        rcases U2s.1 hx with rfl|hx
        exact ha
        exact ih x hx hn
        exact absurd hx hn
      exact hs l x hx hm)
 intro h;rw[U2k]at h;have h2:∀(m:List UInt8),(∀x∈m,cs.contains x=true)->m.dropWhile (cs.contains ·)=[]:=by
  intro m
  induction m with
  |nil=>intro _;rfl
  |cons a m ih =>
   intro hm;rw[U3c,U1a (hm a Yb),ih (λ x hx=>hm x (U24 _ hx))]
 first
  |rw[h2 l.reverse (λ x hx=>h x (List.mem_reverse.1 hx))];rfl
  |rw[h2 l h];rfl
theorem Oaz(x ds:ByteArray)(hx:x.size<=20000000)(kZ:ds.size<=100)(ha:∀(j:Nat) b,ds.data.toList[j]?=some b->b.toNat<128)(b:Bool)(hb:((bs x).all λ c=>(bs ds).contains c)=b)(w:World):Calls prog 167 #[.string x,.string ds] w λ e w'=>(∃t:ByteArray,e=.returned (.string t)/\t.toList.isEmpty=b/\(b=true->t.toList=[])/\(b=false->¬t.toList=[]))/\Gr w w':=by
 refine (Any.strings_Trim_laid lays160 O48 x ds w Ya Ya ha).mono ?_;rintro e w' ⟨rfl,j8⟩;have h1:=Og9 (bs x) (bs ds);have ht:(⟨(Lib.trimS x.data.toList ds.data.toList).toArray⟩:ByteArray).toList=Lib.trimS (bs x) (bs ds):=by rw[U21]
 refine⟨⟨_,rfl,?_,λ h=>?_,λ h=>?_⟩,j8⟩
 rw[ht];cases b with
 |true=>rw[h1.2 hb];rfl
 |false =>
  cases hl:Lib.trimS (bs x) (bs ds) with
  |nil=>rw[h1.1 hl]at hb;cases hb
  |cons c l=>rfl
 rw[ht];exact h1.2 (by rw[hb,h])
 rw[ht];intro e;have:=h1.1 e;rw[hb,h]at this;cases this
def O1g(ds:ByteArray)(p:ByteArray):Prop:=¬p.toList=[]/\((bs p).all λ c=>(bs ds).contains c)=true
theorem O6z(ds p:ByteArray):O1g ds p ↔ (!(bs p).isEmpty&&(bs p).all (bs ds).contains)=true:=by
 unfold O1g;rw[U21];simp only[U1h,Bool.not_eq_true',List.isEmpty_eq_false_iff]
theorem O9h(ds s:ByteArray){n:Nat}(xs:List (V4u n))(h:xs.map sbs=V1b 95 (bs s)):V13 (bs ds).contains (bs s)=true ↔ ∀p∈xs,O1g ds p.1:=by
 unfold V13;rw[<-h,List.all_map,U2k];exact⟨λ h p hp=>(O6z ds p.1).2 (h p hp),λ h p hp=>(O6z ds p.1).1 (h p hp)⟩
theorem O9i(ds s:ByteArray){n:Nat}(pre:List (V4u n))(yv:List Pl.Bs)(h:pre.map sbs++yv=V1b 95 (bs s))(p:V4u n)(hp:p∈pre)(hb:¬O1g ds p.1):V13 (bs ds).contains (bs s)=false:=by
 unfold V13;rw[<-h,List.all_append,Bool.and_eq_false_iff];left;rw[Bool.eq_false_iff];intro e;rw[List.all_map,U2k]at e;exact hb ((O6z ds p.1).2 (e p hp))
theorem O2h{w:World}{C:Nat->Prop}{B:Nat}{W W':World}{row:Option Nat}{b:Nat}{o:Obj}(hb:W.heap[b]?=some o)(hc:¬C b)(hB:b<B)(hg:W.grownBy W' row)(hr:∀r,row=some r->C r\/(B<=r/\∃o:Obj,W.heap[r]?=some o/\o.isCells=false)):W'.heap[b]?=some o :=
 (hg.block b (U18.1 hb).1 (λ e=>(hr b e.symm).elim hc (λ h=>by omega))).trans hb
theorem O37{w:World}{C:Nat->Prop}{B:Nat}(hC:∀r,C r->w.heap.size<=r)(hB:w.heap.size<=B){W W':World}{row:Option Nat}(h:Below w w W)(hg:W.grownBy W' row)(hr:∀r,row=some r->C r\/(B<=r/\∃o:Obj,W.heap[r]?=some o/\o.isCells=false)):Below w w W' :=
 h.grown hg h.size (λ k e=>(hr k e).elim (hC k) (λ h=>by omega))
theorem O5m(bg:ByteArray)(bb:Nat)(ds:ByteArray)(kZ:ds.size<=100)(ha:∀(j:Nat) b,ds.data.toList[j]?=some b->b.toNat<128)(s:ByteArray)(hs:s.size<=20000000)(w:World):Calls prog 133 #[V3n bg bb ds,.string s] w λ e w'=>e=.returned (.bool (V13 (bs ds).contains (bs s)))/\Gr w w':=by
 refine (U3x (n:=6)).1 ?_;refine callsIn_of_wp_marks func133 rfl U3f ?_ rfl;simp only[ntmps133,List.size_toArray,U1d,U1q,Nat.reduceAdd,Nat.reduceSub,Array.replicate_succ,Array.replicate_zero,List.push_toArray,List.append_toArray,U2l,U1o]
 gi_wp2_with (refine⟨U3f,?_⟩;gi_at_call 166;refine (U3x.2 (Ods s _)).mono ?_;rintro e w' ⟨rfl,rfl⟩)
 obtain⟨W0,aI⟩:=ExZ (((((w.alloc (.cells #[.string bg,bb,.string ds] 205)).alloc (.cells #[.bool false] 4)).alloc (.cells #[.string s] 9)).alloc (.cells #[.string ⟨#[95]⟩] 9)).alloc (.cells #[(0:Int)] 3))
 have dc:W0.heap.size=w.heap.size+1+1+1+1+1:=by rw[<-aI];simp only[U1s]
 have eV:Gr w W0:=by rw[<-aI];exact (((((Gr.refl w).alloc _).alloc _).alloc _).alloc _).alloc _
 have b0:W0.heap[w.heap.size]?=some (.cells #[.string bg,bb,.string ds] 205 (0,0)):=by
  rw[<-aI];exact (((((Gr.refl (w.alloc _)).alloc _).alloc _).alloc _).alloc _).block Yb |>.trans (U1w w _)
 have b1:W0.heap[w.heap.size+1]?=some (.cells #[.bool false] 4 (0,0)):=by
  rw[<-aI];refine ((((Gr.refl ((w.alloc _).alloc _)).alloc _).alloc _).alloc _).block Yb |>.trans ?_;have:=U1w (w.alloc (.cells #[.string bg,bb,.string ds] 205)) (.cells #[.bool false] 4)
  rwa [U1s]at this
 have b2:W0.heap[w.heap.size+1+1]?=some (.cells #[.string s] 9 (0,0)):=by
  rw[<-aI];refine (((Gr.refl (((w.alloc _).alloc _).alloc _)).alloc _).alloc _).block Yb |>.trans ?_;have:=U1w ((w.alloc (.cells #[.string bg,bb,.string ds] 205)).alloc (.cells #[.bool false] 4)) (.cells #[.string s] 9);exact J15
 have b3:W0.heap[w.heap.size+1+1+1]?=some (.cells #[.string ⟨#[95]⟩] 9 (0,0)):=by
  rw[<-aI];refine ((Gr.refl ((((w.alloc _).alloc _).alloc _).alloc _)).alloc _).block Yb |>.trans ?_;have:=U1w (((w.alloc (.cells #[.string bg,bb,.string ds] 205)).alloc (.cells #[.bool false] 4)).alloc (.cells #[.string s] 9)) (.cells #[.string ⟨#[95]⟩] 9);exact J15
 have b4:W0.heap[w.heap.size+1+1+1+1]?=some (.cells #[(0:Int)] 3 (0,0)):=by
  rw[<-aI];have:=U1w ((((w.alloc (.cells #[.string bg,bb,.string ds] 205)).alloc (.cells #[.bool false] 4)).alloc (.cells #[.string s] 9)).alloc (.cells #[.string ⟨#[95]⟩] 9)) (.cells #[(0:Int)] 3);exact J15
 rw[aI];clear aI;have Qb:=U10 ha;have vW:=U10 b4;clear ha b4;refine O9f (C:=λ r=>r=w.heap.size+1+1+1\/r=w.heap.size+1+1\/r=w.heap.size+1+1+1+1) (by rintro r (rfl|rfl|rfl) <;> omega) rfl Ya (gf:=206) (lb:=#[.pointer (some ⟨w+1+1+1,0,none⟩),.pointer (some ⟨w+1+1,0,none⟩),.pointer (some ⟨w+1+1+1+1,0,none⟩)]) rfl U3f (enters_of func206 Yc rfl)
  (O9g 5 Ya (w.heap.size+1+1+1) (w.heap.size+1+1) (w.heap.size+1+1+1+1) s hs W0 Ya Ya b3 b2 vW.o) (λ _=>rfl)
  (λ pre W=>(∀p∈pre,O1g ds p.1)/\W.heap[w.heap.size]?=some (.cells #[.string bg,bb,.string ds] 205 (0,0))/\W.heap[w.heap.size+1]?=some (.cells #[.bool false] 4 (0,0))/\W0.heap.size<=W.heap.size/\Below w w W)
  (λ c pre W=>c=.ret/\(∃p∈pre,¬O1g ds p.1)/\W.heap[w.heap.size+1]?=some (.cells #[.bool false] 4 (0,0))/\Below w w W)
  (λ pre A B row hs hg hr=>⟨hs.1,O2h (w:=w) hs.2.1 Ya Ya hg hr,O2h (w:=w) hs.2.2.1 Ya Ya hg hr,U1l hs.2.2.2.1 hg.size,O37 (by rintro r (rfl|rfl|rfl) <;> omega) Ya hs.2.2.2.2 hg hr⟩)
  (λ c pre A B row hs hg hr=>⟨hs.1,hs.2.1,O2h (w:=w) hs.2.2.1 Ya Ya hg hr,O37 (by rintro r (rfl|rfl|rfl) <;> omega) Ya hs.2.2.2 hg hr⟩)
  ⟨λ p hp=>(by cases hp),b0,b1,U12 _,eV⟩
  (λ x:V4u s.size=>{ tmps:=#[V3n bg bb ds,.string s,.pointer (some ⟨w,0,none⟩),undef,.pointer (some ⟨w+1,0,none⟩),.string x.1,.string s,.func (.func 206) #[] #[.pointer (some ⟨w+1+1+1,0,none⟩),.pointer (some ⟨w+1+1,0,none⟩),.pointer (some ⟨w+1+1+1+1,0,none⟩)],.string x.1,undef,undef,undef,undef,undef,undef,undef,undef,undef],defers:=[] }) ?assign ?body ?done ?stop
 case assign =>
  intro l x W K hK
  gi_wp2
  exact hK
 case body =>
  rintro l pre ⟨x,mw⟩ W ⟨cT,kj,bJ,Cf,hB⟩ ap;dsimp only;have kd:W.cell? ⟨w,2,none⟩=some (.string ds):=by rw[cell_of_block kj];rfl
  have kr:W.cell? (w.heap.size+1:Nat)=some (.bool false):=by rw[cell_of_block bJ];rfl
  have kf:W.frozen? (w.heap.size+1:Nat)=false:=unfrozen_of_block bJ 0;by_cases hx:x.toList=[]
  have gv:¬O1g ds x:=λ h=>h.1 hx
  have HB:=U10 gv;obtain rfl:x=⟨#[]⟩:=by
   apply U30;apply U2q.1;rw[<-U21];exact hx
  clear gv hx
  gi_wp2_with fail
  refine⟨U3f,?_⟩
  gi_wp2_with fail
  refine⟨KeepsOthers.setCell _ _ _,rfl,⟨(⟨⟨#[]⟩,mw⟩:V4u s.size),Yb,HB.o⟩,?_,hB.setCell (p:=⟨w+1,0,none⟩) Yb _⟩;have:=block_setCell (i:=0) bJ (.bool false);exact J5
  have he:x.toList.isEmpty=false:=by simpa using hx
  have AI:x.size<=20000000:=Ya;obtain⟨b,hb⟩:=ExZ (((bs x).all λ c=>(bs ds).contains c))
  have HT:=U10 (Oaz x ds AI kZ Qb.o b hb);have HX:=U10 hx;have vX:=U10 hb;clear hb hx;cases b with
  |true =>
   have Cg:O1g ds x:=⟨HX.o,vX.o⟩
   have HG:Hid (∀p∈pre++[(⟨x,mw⟩:V4u s.size)],O1g ds p.1):=λ p hp=>by
    rcases U29.1 hp with hp|hp
    exact cT p hp
    rw[U20]at hp;rw[hp];exact Cg
   clear Cg cT
   gi_wp2_with (refine⟨U3f,?_⟩;gi_at_call 167;refine (CallsIn.inRound l (U3x.2 (HT.o _))).mono ?_;rintro e w1 ⟨⟨t,rfl,t1,t2,t3⟩,g1⟩;have t4:=t2 rfl;clear t2 t3)
   refine⟨KeepsOthers.of_gr g1,λ r hr=>g1.block (by rcases hr with rfl|rfl|rfl <;> omega),HG.o,(g1.block Ya).trans kj,(g1.block Ya).trans bJ,U1l Cf g1.size,hB.trans (Below.mono g1 hB.size)⟩
  |false =>
   have HB:Hid (¬O1g ds x):=λ h=>by have:=h.2;rw[vX.o]at this;cases this
   clear cT
   gi_wp2_with (refine⟨U3f,?_⟩;gi_at_call 167;refine (CallsIn.inRound l (U3x.2 (HT.o _))).mono ?_;rintro e w1 ⟨⟨t,rfl,t1,t2,t3⟩,g1⟩;have t4:=t3 rfl;clear t2 t3;have Qc:w1.cell? (w.heap.size+1:Nat)=some (.bool false):=(g1.use.1 _ _ Ya).trans kr;have Qd:w1.frozen? (w.heap.size+1:Nat)=false:=(g1.use.2.1 _ _ Ya).trans kf)
   refine⟨(KeepsOthers.of_gr g1).trans (KeepsOthers.setCell _ _ _),rfl,⟨(⟨x,mw⟩:V4u s.size),Yb,HB.o⟩,?_,(hB.trans (Below.mono g1 hB.size)).setCell (p:=⟨w+1,0,none⟩) Yb _⟩;have:=block_setCell (i:=0) ((g1.block Ya).trans bJ) (.bool false);exact J5
 case done =>
  rintro D ys W hD Ch ⟨cT,kj,bJ,Cf,hB⟩ hK;have du:V13 (bs ds).contains (bs s)=true:=(O9h ds s ys Ch).2 cT;have kr:W.cell? (w.heap.size+1:Nat)=some (.bool false):=by rw[cell_of_block bJ];rfl
  have kf:W.frozen? (w.heap.size+1:Nat)=false:=unfrozen_of_block bJ 0;have HV:=U10 du;clear cT du Ch
  gi_wp2
  have yz:=(KeepsOthers.setCell W ⟨w+1,0,none⟩ (.bool true)).same D _ hK rfl;refine⟨Yb,.inl ⟨_,_,rfl,run_takeDeferred yz,?_⟩⟩;have oO:=cell_kept (U2v W ⟨w+1,0,none⟩ (.bool true) (by rw[kr];rfl)) (grownBy_putObj' _ D (.deferred none)) (λ r e=>by cases e;exact⟨_,yz,rfl⟩);refine⟨.bool true,?_,by rw[HV.o],(hB.setCell (p:=⟨w+1,0,none⟩) Yb _).trans (belowK_b (w:=w) (U12 _) _ D _ _ Ya yz rfl rfl)⟩;simp[results,f133,go_sem,oO]
 case stop =>
  rintro D c pre W hD ⟨yv,qt⟩ ⟨rfl,⟨p,hp,gv⟩,bJ,hB⟩ hK;have du:V13 (bs ds).contains (bs s)=false:=O9i ds s pre yv qt p hp gv;have kr:W.cell? (w.heap.size+1:Nat)=some (.bool false):=by rw[cell_of_block bJ];rfl
  have HV:=U10 du;clear gv du qt hp
  gi_wp2
  refine Z177 ?_;intro oO;simp[results,f133,go_sem,oO]
theorem Oc7(x:Nat)(h:x<128)(w:World):Calls prog 96 #[.string pmD,.int .i32 x] w λ e w'=>e=.returned (.bool (x==43 || x==45 || x==95 || x==46))/\Gr w w':=by
 refine (strings_ContainsRune_ascii pmD x w Ya Ya).mono ?_;refine Z48 ?_;refine⟨?_,Gr.refl _⟩;have:∀x:Fin 128,decide (0<=Lib.indexByte pmD.data.toList ((x.val:Int)).toNat.toUInt8)=(x.val==43 || x.val==45 || x.val==95 || x.val==46):=Yd;rw[this ⟨x,h⟩]
theorem Oc8(x:Nat)(h:x<=1114111)(w:World):Calls prog 96 #[.string pmD,.int .i32 x] w λ e w'=>e=.returned (.bool (x==43 || x==45 || x==95 || x==46))/\Gr w w':=by
 by_cases h1:x<128;exact Oc7 x h1 w
 refine (Oai x Ya Ya w).mono ?_;rintro e w' ⟨rfl,g⟩;refine⟨?_,g⟩;have a:(x==43)=false:=Ye;have b:(x==45)=false:=Ye;have c:(x==95)=false:=Ye;have d:(x==46)=false:=Ye;rw[a,b,c,d];rfl
theorem Omz(x:Nat)(h:x<=1114111)(w:World):Calls prog 72 #[.int .i32 x] w λ e w'=>e=.returned (.bool (V3c x))/\Gr w w':=by
 have HC:=U10 (Oc8 x h);clear h;go_enter func72,ntmps72;go_wp2_with (go_at_call 96;refine (HC.o _).mono ?_;rintro e w1 ⟨rfl,g1⟩)
 all_goals go_ret
 all_goals (refine⟨O3l ?_,by first|assumption|exact Gr.refl _⟩;rw[U3d];simp[V3c];try omega)
theorem Ohw(w:World):PredGrows prog 72 #[] V3c w:=by
 intro W x hx _;exact Omz x hx W
theorem Okk(s:ByteArray):∀f ar,ar<=s.size->s.size-ar<=f ->Lib.idxFuncFrom V3c false s f ar=if ar+(V3e ((bs s).drop ar)).length<s.size then ((ar+(V3e ((bs s).drop ar)).length:Nat):Int) else -1:=by
 intro f
 induction f with
 |zero =>
  exact J3
 |succ f ih =>
  intro ar h1 h2;rw[Lib.idxFuncFrom];by_cases hp:ar<s.size
  ·rw[U1a hp];have hl:ar<(bs s).length:=by rw[O0];exact hp
   have cJ:(bs s)[ar]'hl=s[ar]'hp:=rfl;by_cases aB:(s[ar]'hp).toNat<128
   rw[O7o s ar hp aB];cases hc:V3c (s[ar]'hp).toNat with
   |false =>
    simp only[hc,U2o];have:V3e ((bs s).drop ar)=[]:=by
     unfold V3e;rw[U1u hl,U1p,U1c];rw[cJ];simp[V3a,hc]
    rw[this,U1a (by simpa using hp)];simp
   |true =>
    rw[U1c (by simp[hc]),ih (ar+1) Ya Ya];unfold V3e;rw[O8n V3a (bs s) ar hl (by rw[cJ];simp[V3a,hc])]
   have hd:=decode_high s ar hp Ya;have hn:V3c (Utf8.decode s ar).1=false:=by simp[V3c];omega
   rw[hn,U1a rfl];have:V3e ((bs s).drop ar)=[]:=by
    unfold V3e;rw[U1u hl,U1p,U1c];rw[cJ];simp[V3a,V3c];omega
   rw[this,U1a (by simpa using hp)];simp
  rw[U1c hp,U1c Ya]
theorem Ohx(l:List UInt8):(V3e l).length<=l.length:=by
 exact (List.takeWhile_sublist V3a).length_le
theorem Ohy(s:ByteArray)(w:World):Calls prog 71 #[.string s,.func (.func 72) #[] #[]] w λ e w'=>e=.returned (.string (s.extract (V3e (bs s)).length s.size))/\Gr w w':=by
 refine (Any.strings_TrimLeftFunc_grows lays272 72 #[] (enters_of func72 Yc rfl) V3c s w (Ohw w)).mono ?_;rintro e w' ⟨rfl,hb⟩;refine⟨?_,hb⟩;have h1:=Okk s s.size 0 Ya Ya;have hl:=Ohx (bs s);rw[O0]at hl;unfold Lib.trimLeftF;rw[show Lib.idxFunc V3c false s=Lib.idxFuncFrom V3c false s s.size 0 from rfl,h1];simp only[U2b,U1v];by_cases h2:(V3e (bs s)).length<s.size;rw[U1a h2,U1c Ya];simp
 rw[U1c h2,U1a rfl];congr 2;apply U30;simp;omega
abbrev Ou(bg:ByteArray)(bb:Nat)(ds:ByteArray)(b:Nat)(w:World):Prop:=(w.cell? b=some (.string bg)/\w.cell? ⟨b,1,none⟩=some (.int .i64 bb)/\w.cell? ⟨b,2,none⟩=some (.string ds))/\b<w.heap.size
theorem Ou.gr{bg bb ds}{b:Nat}{w w':World}(h:Ou bg bb ds b w)(g:Gr w w'):Ou bg bb ds b w':=by
 obtain⟨⟨h0,h1,h2⟩,hl⟩:=h;have hc:=g.use.1;exact⟨⟨(hc _ _ hl).trans h0,(hc _ _ hl).trans h1,(hc _ _ hl).trans h2⟩,U13 hl g.size⟩
def Oq(X:V2x Pl.Bs)(e:Ending):Prop:=match X with
 |.ok x=>e=.returned (.tuple #[.string ⟨x.toArray⟩,(0:Int)])
 |.bad c _=>e=.returned (.tuple #[.string ⟨#[]⟩,c])
def V6t(Y:Lib.NumEnd Int):V2x Pl.Bs:=match Y with
 |.ok v => .ok (Lib.itoa v)
 |.range => .bad 8 0
 |Lib.NumEnd.syntax => .bad 3 0
theorem O1l{X:V2x Pl.Bs}{c:Nat}(h:X=.bad c 0):Oq X (.returned (.tuple #[.string ⟨#[]⟩,c])):=by rw[h];rfl
theorem On6{X:V2x Pl.Bs}{v:Int}(h:X=V6t (.ok v)):Oq X (.returned (.tuple #[.string ⟨(Lib.itoa v).toArray⟩,(0:Int)])):=by rw[h];rfl
theorem Oi2(bg:ByteArray)(bb:Nat)(ds:ByteArray)(s:ByteArray)(hs:s.size<=20000000)(jL:O1h (bs s)=V3n bg bb ds)(Qe:bg.size<=s.size)(q:∀W,(Go.binOp .eql 205 (V3n bg bb ds) O2g).run prog W=.ok (.bool false) W)(D:ByteArray)(hD:s.extract bg.size s.size=D)(r:Bool)(hr:∀w,Calls prog 133 #[V3n bg bb ds,.string D] w λ e w'=>e=.returned (.bool r)/\Gr w w')(L:ByteArray)(hL:L=⟨(Lib.replaceAll (bs D) [95] []).toArray⟩)(Y:Lib.NumEnd Int)(hY:r=true->Y≠Lib.NumEnd.syntax/\(∀v,Y=.ok v -> -9223372036854775808<=v/\v<=9223372036854775807)/\∀w ep,w.cell? ⟨1,0,none⟩=some (.iface 288 (.pointer (some ep)))->Calls prog 134 #[.string L,bb,(64:Int)] w (O1c ep w Y))(w:World)(hw:V3y w):Calls prog 99 #[.string s] w λ e w'=>Oq (if r=false then .bad 3 0 else V6t Y) e/\Gr w w':=by
 have HW:=U10 hw;have pK:=U10 jL;have HR:=U10 hr;have HL:=U10 hL;have qv:D.size<=20000000:=by rw[<-hD];simp;omega
 refine Z184 ?_;intro vF;have bJ:(bg.size:Int)<=(s.size:Int):=Ya;obtain⟨T,hT⟩:∃T,T=L:=⟨_,rfl⟩
 have u7:(⟨#[]⟩:ByteArray)++L=T:=by rw[hT];apply U30;simp[U2n]
 rw[<-hT]at hY;have eO:¬ 9223372036854775807<L.size:=Ya
 have nC:¬ 9223372036854775807<(0+L.size):=Ya;have aA:(0:Int)<=(bg.size:Int):=Ya;have HY:=U10 hY;clear hw jL hr hY hL hT;go_enter func99,ntmps99;go_wp2_with (go_at_call 131;refine (O2z s _ ((HW.o.gr Gr.auto).rad)).mono ?_;rw[pK.o];rintro e w1 ⟨rfl,g1⟩);refine Z149 ?_;intro W0 aI;have ex:Ou bg bb ds w1.heap.size W0:=by rw[<-aI];exact⟨⟨Yb,Yb,Yb⟩,Yb⟩
 have eV:Gr w W0:=by rw[<-aI];exact g1.alloc _
 rw[aI];clear aI g1;obtain⟨⟨c0,c1,c2⟩,a9⟩:=ex
 go_quiet (fail)
 have pc:Gr w (W0.drewN nq):=eV.drewN _;go_wp2_with fail;refine Z15 ?_;intro bj w2 g2 ce;refine Reg.sk 4 ?_;refine Reg.sk 5 ?_;refine Reg.ty 6 ?_;refine Reg.ty 7 ?_;refine Z46 ?_;refine Reg.ty 16 ?_;refine Z12 ?_;have bM:Gr w w2:=pc.drew.trans g2;clear g2 eV pc c0 c1 c2 a9 bj;obtain⟨⟨c0,c1,c2⟩,a9⟩:=ce;go_wp2_with fail;refine Z317 ?_;intro br w3 g3 aD;cases r with
 |false =>
  refine Z21 ?_;refine Z12 ?_;have dj:Gr w w3:=bM.drew.trans g3;clear g3;go_wp2_with fail;exact U11 (v:=.tuple #[.string ⟨#[]⟩,(3:Int)]) (by simp[results,results99,go_sem]) rfl ⟨rfl,dj⟩
 |true =>
  refine Z41 ?_;refine Z312 ?_;intro w4 g4 cm;refine Z34 ?_;refine Reg.ty 7 ?_;refine Reg.ty 8 ?_;refine Reg.sk 9 ?_;refine Reg.sk 10 ?_;refine Reg.sk 11 ?_;refine Reg.ty 12 ?_;refine Reg.ty 13 ?_;refine Z91 ?_;refine Z100 ?_;refine Z12 ?_;have dw:Gr w w4:=(bM.drew.trans g3).trans g4;clear g3 g4 bM c0 c1 c2 a9 br aD;obtain⟨⟨c0,c1,c2⟩,a9⟩:=cm;go_wp2_with fail;obtain⟨bP,mr,ms⟩:=HY.o Yb;cases Y with
  |ok v =>
   obtain⟨oG,me⟩:=mr v rfl;have HP:Hid (∀W,V3y W->Calls prog 134 #[.string T,bb,(64:Int)] W λ e w'=>e=.returned (.tuple #[v,.nilIface])/\Gr W w'):=λ W hW=>by
    obtain⟨ep,he⟩:=hW.err;exact ms W ep he
   refine Z119 ?_;intro HV;clear ms mr bP HY oG me
   go_region_held3 (Ou bg bb ds w1.heap.size) (first|exact⟨⟨c0,c1,c2⟩,a9⟩|assumption|exact Ou.gr Yl Yl|go_keep) (first|(go_at_call 135;refine (O1e D Ya _ (HW.o.gr Gr.auto)).mono ?_;rw[<-HL.o];rintro e w5 ⟨rfl,g5⟩)|(go_at_call 134;refine (HP.o _ (HW.o.gr Gr.auto)).mono ?_;rintro e w6 ⟨rfl,g6⟩))
   refine Z40 ?_;intro eR lm ep he HF;clear g5 g6 dw;go_wp2_with (first|(go_at_call 136;refine (O6n _ _ _).mono ?_;rintro e w7 ⟨rfl,g7⟩)|(go_at_call 137;refine (HF.o _ (lm.gr Gr.auto)).mono ?_;rintro e w8 ⟨rfl,k8,PQ,rfl⟩));exact U11 (v:=.tuple #[.string ⟨(Lib.itoa v).toArray⟩,(0:Int)]) (by simp[results,results99,go_sem]) rfl ⟨by simp[Oq,V6t],(eR.trans g7).trans (O4b _ _ _)⟩
  |range =>
   have HP:Hid (∀W,V3y W->Calls prog 134 #[.string T,bb,(64:Int)] W λ e w'=>(∃(k:Int)(N:Nat)(ep:Addr),e=.returned (.tuple #[k,.iface 260 (.pointer (some ⟨N,0,none⟩))])/\w'.cell? ⟨N,2,none⟩=some (.iface 288 (.pointer (some ep)))/\w'.cell? ⟨1,0,none⟩=some (.iface 288 (.pointer (some ep))))/\Gr W w'):=λ W hW=>by
    obtain⟨ep,he⟩:=hW.err;refine (ms W ep he).mono ?_;rintro e w' ⟨⟨k,N,rfl,hN⟩,g⟩;exact⟨⟨k,N,ep,rfl,hN,(g.use.1 _ _ (Lib.lt_of_cell he)).trans he⟩,g⟩
   clear ms mr bP HY
   go_region_held3 (Ou bg bb ds w1.heap.size) (first|exact⟨⟨c0,c1,c2⟩,a9⟩|assumption|exact Ou.gr Yl Yl|go_keep) (first|(go_at_call 135;refine (O1e D Ya _ (HW.o.gr Gr.auto)).mono ?_;rw[<-HL.o];rintro e w5 ⟨rfl,g5⟩)|(go_at_call 134;refine (HP.o _ (HW.o.gr Gr.auto)).mono ?_;rintro e w6 ⟨⟨k,N,ep,rfl,hN,hE⟩,g6⟩))
   refine Z158 ?_;intro eR;clear g5 g6 dw;go_wp2_with (go_at_call 136;refine (Oce N ep _ hN).mono ?_;rintro e w7 ⟨rfl,rfl⟩);exact U11 (v:=.tuple #[.string ⟨#[]⟩,(8:Int)]) (by simp[results,results99,go_sem]) rfl ⟨by simp[Oq,V6t],eR⟩
  |_=>exact absurd rfl bP
theorem Ofk(bg:ByteArray)(bb:Nat)(ds:ByteArray)(jQ:bg=⟨#[]⟩)(cr:bb=10)(kZ:ds=V2y)(s:ByteArray)(hs:s.size<=20000000)(jL:O1h (bs s)=V3n bg bb ds)(h0:0<s.size)(hc:(s[0]'h0).toNat=43)(D S:ByteArray)(hD:s.extract 1 s.size=D)(hS:s.extract 0 1=S)(r:Bool)(hr:∀w,Calls prog 133 #[V3n bg bb ds,.string D] w λ e w'=>e=.returned (.bool r)/\Gr w w')(L:ByteArray)(hL:L=⟨(Lib.replaceAll (bs D) [95] []).toArray⟩)(T:ByteArray)(u7:S++L=T)(Y:Lib.NumEnd Int)(hY:r=true->Y≠Lib.NumEnd.syntax/\(∀v,Y=.ok v -> -9223372036854775808<=v/\v<=9223372036854775807)/\∀w ep,w.cell? ⟨1,0,none⟩=some (.iface 288 (.pointer (some ep)))->Calls prog 134 #[.string T,bb,(64:Int)] w (O1c ep w Y))(X:V2x Pl.Bs)(vB:r=false->X=.bad 3 0)(vC:1<D.size/\(bs D)[0]?=some 48->X=.bad 3 0)(vD:r=true->¬(1<D.size/\(bs D)[0]?=some 48)->X=V6t Y)(w:World)(hw:V3y w):Calls prog 99 #[.string s] w λ e w'=>Oq X e/\Gr w w':=by
 refine Z122 ?_;intro HW pK HR HY HL Ak Am xQ;have qv:D.size<=20000000:=by rw[<-hD];simp;omega
 have Ia:S.size<=1:=by rw[<-hS];simp;omega
 have a8:¬s.toList=[]:=λ e=>by rw[U21]at e;have h2:=O0 s;rw[show bs s=[] from e]at h2;simp at h2;omega
 refine Z199 ?_;intro eS Ar fQ;obtain⟨y1,y2⟩:=V1u (s[0]'h0).toNat 43 true (by simpa using hc);refine Z184 ?_;intro vF;have eO:¬ 9223372036854775807<L.size:=Ya;have nC:¬ 9223372036854775807<(S.size+L.size):=Ya;have q:∀W,(Go.binOp .eql 205 (V3n bg bb ds) O2g).run prog W=.ok (.bool true) W:=λ _=>by subst jQ cr kZ;kernel_rfl
 have bJ:(bg.size:Int)<=(s.size:Int):=by rw[jQ,show (⟨#[]⟩:ByteArray).size=0 from rfl];omega
 refine Z197 ?_;intro aA hB;clear jQ cr kZ;clear hw jL hr hY hL vB vC vD;go_enter func99,ntmps99;go_wp2_with (go_at_call 131;refine (O2z s _ ((HW.o.gr Gr.auto).rad)).mono ?_;rw[pK.o];rintro e w1 ⟨rfl,g1⟩);refine Z149 ?_;intro W0 aI;have ex:Ou bg bb ds w1.heap.size W0:=by rw[<-aI];exact⟨⟨Yb,Yb,Yb⟩,Yb⟩
 have eV:Gr w W0:=by rw[<-aI];exact g1.alloc _
 rw[aI];clear aI g1;obtain⟨⟨c0,c1,c2⟩,a9⟩:=ex
 go_quiet (fail)
 have pc:Gr w (W0.drewN nq):=eV.drewN _;go_wp2_with fail;refine Z15 ?_;intro bj w2 g2 ce;refine Z83 ?_;refine Reg.ty 7 ?_;refine Z42 ?_;refine Reg.ty 11 ?_;refine Reg.sk 12 ?_;refine Reg.sk 13 ?_;refine Reg.sk 14 ?_;refine Reg.ty 15 ?_;refine Reg.ty 16 ?_;exact J197
theorem Ofl(bg:ByteArray)(bb:Nat)(ds:ByteArray)(jQ:bg=⟨#[]⟩)(cr:bb=10)(kZ:ds=V2y)(s:ByteArray)(hs:s.size<=20000000)(jL:O1h (bs s)=V3n bg bb ds)(h0:0<s.size)(hc:(s[0]'h0).toNat=45)(D S:ByteArray)(hD:s.extract 1 s.size=D)(hS:s.extract 0 1=S)(r:Bool)(hr:∀w,Calls prog 133 #[V3n bg bb ds,.string D] w λ e w'=>e=.returned (.bool r)/\Gr w w')(L:ByteArray)(hL:L=⟨(Lib.replaceAll (bs D) [95] []).toArray⟩)(T:ByteArray)(u7:S++L=T)(Y:Lib.NumEnd Int)(hY:r=true->Y≠Lib.NumEnd.syntax/\(∀v,Y=.ok v -> -9223372036854775808<=v/\v<=9223372036854775807)/\∀w ep,w.cell? ⟨1,0,none⟩=some (.iface 288 (.pointer (some ep)))->Calls prog 134 #[.string T,bb,(64:Int)] w (O1c ep w Y))(X:V2x Pl.Bs)(vB:r=false->X=.bad 3 0)(vC:1<D.size/\(bs D)[0]?=some 48->X=.bad 3 0)(vD:r=true->¬(1<D.size/\(bs D)[0]?=some 48)->X=V6t Y)(w:World)(hw:V3y w):Calls prog 99 #[.string s] w λ e w'=>Oq X e/\Gr w w':=by
 refine Z122 ?_;intro HW pK HR HY HL Ak Am xQ;have qv:D.size<=20000000:=by rw[<-hD];simp;omega
 have Ia:S.size<=1:=by rw[<-hS];simp;omega
 have a8:¬s.toList=[]:=λ e=>by rw[U21]at e;have h2:=O0 s;rw[show bs s=[] from e]at h2;simp at h2;omega
 refine Z199 ?_;intro eS Ar fQ;obtain⟨y1,y2⟩:=V1u (s[0]'h0).toNat 43 false Ye;obtain⟨y3,y4⟩:=V1u (s[0]'h0).toNat 45 true (by simpa using hc);refine Z184 ?_;intro vF;have eO:¬ 9223372036854775807<L.size:=Ya;have nC:¬ 9223372036854775807<(S.size+L.size):=Ya;have q:∀W,(Go.binOp .eql 205 (V3n bg bb ds) O2g).run prog W=.ok (.bool true) W:=λ _=>by subst jQ cr kZ;kernel_rfl
 have bJ:(bg.size:Int)<=(s.size:Int):=by rw[jQ,show (⟨#[]⟩:ByteArray).size=0 from rfl];omega
 refine Z197 ?_;intro aA hB;clear jQ cr kZ;clear hw jL hr hY hL vB vC vD;go_enter func99,ntmps99;go_wp2_with (go_at_call 131;refine (O2z s _ ((HW.o.gr Gr.auto).rad)).mono ?_;rw[pK.o];rintro e w1 ⟨rfl,g1⟩);refine Z149 ?_;intro W0 aI;have ex:Ou bg bb ds w1.heap.size W0:=by rw[<-aI];exact⟨⟨Yb,Yb,Yb⟩,Yb⟩
 have eV:Gr w W0:=by rw[<-aI];exact g1.alloc _
 rw[aI];clear aI g1;obtain⟨⟨c0,c1,c2⟩,a9⟩:=ex
 go_quiet (fail)
 have pc:Gr w (W0.drewN nq):=eV.drewN _;go_wp2_with fail;refine Z15 ?_;intro bj w2 g2 ce;refine Z83 ?_;refine Z19 ?_;exact J197
theorem Ofm(bg:ByteArray)(bb:Nat)(ds:ByteArray)(jQ:bg=⟨#[]⟩)(cr:bb=10)(kZ:ds=V2y)(s:ByteArray)(hs:s.size<=20000000)(jL:O1h (bs s)=V3n bg bb ds)(h0:0<s.size)(hc:(s[0]'h0).toNat≠43/\(s[0]'h0).toNat≠45)(r:Bool)(hr:∀w,Calls prog 133 #[V3n bg bb ds,.string s] w λ e w'=>e=.returned (.bool r)/\Gr w w')(L:ByteArray)(hL:L=⟨(Lib.replaceAll (bs s) [95] []).toArray⟩)(T:ByteArray)(u7:(⟨#[]⟩:ByteArray)++L=T)(Y:Lib.NumEnd Int)(hY:r=true->Y≠Lib.NumEnd.syntax/\(∀v,Y=.ok v -> -9223372036854775808<=v/\v<=9223372036854775807)/\∀w ep,w.cell? ⟨1,0,none⟩=some (.iface 288 (.pointer (some ep)))->Calls prog 134 #[.string T,bb,(64:Int)] w (O1c ep w Y))(X:V2x Pl.Bs)(vB:r=false->X=.bad 3 0)(vC:1<s.size/\(bs s)[0]?=some 48->X=.bad 3 0)(vD:r=true->¬(1<s.size/\(bs s)[0]?=some 48)->X=V6t Y)(w:World)(hw:V3y w):Calls prog 99 #[.string s] w λ e w'=>Oq X e/\Gr w w':=by
 refine Z122 ?_;intro HW pK HR HY HL Ak Am xQ;have qv:=hs;have a8:¬s.toList=[]:=λ e=>by rw[U21]at e;have h2:=O0 s;rw[show bs s=[] from e]at h2;simp at h2;omega
 refine Z199 ?_;intro eS Ar fQ;have y1:(((s[0]'h0).toNat:Int)==43)=false:=(V1u (s[0]'h0).toNat 43 false (by simpa using hc.1)).1;have y3:(((s[0]'h0).toNat:Int)==45)=false:=(V1u (s[0]'h0).toNat 45 false (by simpa using hc.2)).1;refine Z204 ?_;intro vF eO nC;have q:∀W,(Go.binOp .eql 205 (V3n bg bb ds) O2g).run prog W=.ok (.bool true) W:=λ _=>by subst jQ cr kZ;kernel_rfl
 have bJ:(bg.size:Int)<=(s.size:Int):=by rw[jQ,show (⟨#[]⟩:ByteArray).size=0 from rfl];omega
 refine Z197 ?_;intro aA hB;clear jQ cr kZ;clear hw jL hr hY hL vB vC vD;go_enter func99,ntmps99;go_wp2_with (go_at_call 131;refine (O2z s _ ((HW.o.gr Gr.auto).rad)).mono ?_;rw[pK.o];rintro e w1 ⟨rfl,g1⟩);refine Z149 ?_;intro W0 aI;have ex:Ou bg bb ds w1.heap.size W0:=by rw[<-aI];exact⟨⟨Yb,Yb,Yb⟩,Yb⟩
 have eV:Gr w W0:=by rw[<-aI];exact g1.alloc _
 rw[aI];clear aI g1;obtain⟨⟨c0,c1,c2⟩,a9⟩:=ex
 go_quiet (fail)
 have pc:Gr w (W0.drewN nq):=eV.drewN _;go_wp2_with fail;refine Z15 ?_;intro bj w2 g2 ce;refine Z83 ?_;refine Z19 ?_;refine Z12 ?_;have bM:Gr w w2:=pc.drew.trans g2;clear g2 eV pc c0 c1 c2 a9 bj;obtain⟨⟨c0,c1,c2⟩,a9⟩:=ce;go_wp2_with fail;refine Z317 ?_;intro br w3 g3 aD;cases r with
 |false =>
  refine Z21 ?_;refine Z12 ?_;have dj:Gr w w3:=bM.drew.trans g3;exact J126
 |true =>
  by_cases h1:1<s.size
  have e1:decide ((1:Int)<(s.size:Int))=true:=Ye;have H1:=U10 h1;have e0:0<s.size:=Ya;have e2:(0:Int)<(s.size:Int):=Ya
  cases hz:((s[0]'e0).toNat==48) with
  |true =>
   obtain⟨z1,z2⟩:=V1u _ 48 _ hz;have HZ:Hid ((bs s)[0]?=some 48):=U10 (by
    have h2:=O8 s 0 e0;simp only[U2b]at h2;rw[h2];simp only[U2a,U1f,<-U2d]
    simpa using hz)
   clear hz;refine Z5 ?_;intro w4 g4 cm;refine Z74 ?_;refine Z100 ?_;refine Z12 ?_;have dw:Gr w w4:=(bM.drew.trans g3).trans g4;exact J208
  |false =>
   obtain⟨z1,z2⟩:=V1u _ 48 _ hz;have BV:Hid (¬(1<s.size/\(bs s)[0]?=some 48)):=U10 (by
    rintro⟨_,h3⟩;have h2:=O8 s 0 e0;simp only[U2b]at h2;rw[h2]at h3;simp only[U2a,U1f]at h3;rw[h3]at hz;simp at hz)
   clear hz;refine Z5 ?_;intro w4 g4 cm;refine Z74 ?_;exact J103
  have e1:decide ((1:Int)<(s.size:Int))=false:=Ye;have BV:Hid (¬(1<s.size/\(bs s)[0]?=some 48)):=U10 (λ h3=>h1 h3.1);refine Z5 ?_;intro w4 g4 cm;refine Z91 ?_;exact J103
theorem Ofn(bg:ByteArray)(bb:Nat)(ds:ByteArray)(jQ:bg=⟨#[]⟩)(cr:bb=10)(kZ:ds=V2y)(s:ByteArray)(hs:s.size<=20000000)(jL:O1h (bs s)=V3n bg bb ds)(h0:s.toList=[])(r:Bool)(EZ:r=false)(hr:∀w,Calls prog 133 #[V3n bg bb ds,.string s] w λ e w'=>e=.returned (.bool r)/\Gr w w')(L:ByteArray)(hL:L=⟨(Lib.replaceAll (bs s) [95] []).toArray⟩)(T:ByteArray)(u7:(⟨#[]⟩:ByteArray)++L=T)(Y:Lib.NumEnd Int)(hY:r=true->Y≠Lib.NumEnd.syntax/\(∀v,Y=.ok v -> -9223372036854775808<=v/\v<=9223372036854775807)/\∀w ep,w.cell? ⟨1,0,none⟩=some (.iface 288 (.pointer (some ep)))->Calls prog 134 #[.string T,bb,(64:Int)] w (O1c ep w Y))(X:V2x Pl.Bs)(vB:r=false->X=.bad 3 0)(vC:1<s.size/\(bs s)[0]?=some 48->X=.bad 3 0)(vD:r=true->¬(1<s.size/\(bs s)[0]?=some 48)->X=V6t Y)(w:World)(hw:V3y w):Calls prog 99 #[.string s] w λ e w'=>Oq X e/\Gr w w':=by
 refine Z122 ?_;intro HW pK HR HY HL Ak Am xQ;have qv:=hs;have eS:s.toList.isEmpty=true:=by rw[h0];rfl
 refine Z204 ?_;intro vF eO nC;have q:∀W,(Go.binOp .eql 205 (V3n bg bb ds) O2g).run prog W=.ok (.bool true) W:=λ _=>by subst jQ cr kZ;kernel_rfl
 have bJ:(bg.size:Int)<=(s.size:Int):=by rw[jQ,show (⟨#[]⟩:ByteArray).size=0 from rfl];omega
 refine Z197 ?_;intro aA hB;clear jQ cr kZ;clear hw jL hr hY hL vB vC vD;go_enter func99,ntmps99;go_wp2_with (go_at_call 131;refine (O2z s _ ((HW.o.gr Gr.auto).rad)).mono ?_;rw[pK.o];rintro e w1 ⟨rfl,g1⟩);refine Z149 ?_;intro W0 aI;have ex:Ou bg bb ds w1.heap.size W0:=by rw[<-aI];exact⟨⟨Yb,Yb,Yb⟩,Yb⟩
 have eV:Gr w W0:=by rw[<-aI];exact g1.alloc _
 rw[aI];clear aI g1;obtain⟨⟨c0,c1,c2⟩,a9⟩:=ex
 go_quiet (fail)
 have pc:Gr w (W0.drewN nq):=eV.drewN _;go_wp2_with fail;refine Z15 ?_;intro bj w2 g2 ce;refine Z83 ?_;refine Reg.ty 7 ?_;refine Z46 ?_;refine Reg.ty 16 ?_;refine Z12 ?_;have bM:Gr w w2:=pc.drew.trans g2;clear g2 eV pc c0 c1 c2 a9 bj;obtain⟨⟨c0,c1,c2⟩,a9⟩:=ce;go_wp2_with fail;have Qf:Hid (r=false):=EZ;clear EZ;refine Z317 ?_;intro br w3 g3 aD;cases r with
 |false =>
  refine Z21 ?_;refine Z12 ?_;have dj:Gr w w3:=bM.drew.trans g3;exact J126
 |true=>exact absurd Qf.o Yb
theorem O6i(ds:ByteArray)(f:UInt8->Bool)(h:∀n:Fin 256,(bs ds).contains (UInt8.ofNat n.val)=f (UInt8.ofNat n.val)):(bs ds).contains=f:=by
 funext c
 exact J40
theorem Oeb:(bs V6a).contains=V5v:=O6i V6a _ Yg
theorem Oec:(bs V6b).contains=(λ c=>decide (48<=c.toNat)&&decide (c.toNat<=55)):=O6i V6b _ Yg
theorem Oed:(bs V6c).contains=(λ c=>decide (48<=c.toNat)&&decide (c.toNat<=49)):=O6i V6c _ Yg
theorem Oee:(bs V2y).contains=O2:=O6i V2y _ Yg
theorem O3z(ds:ByteArray)(h:((bs ds).all λ c=>decide (c.toNat<128))=true):∀(j:Nat) b,ds.data.toList[j]?=some b->b.toNat<128:=by
 intro j b hb;have:=U2k.1 h b (U2p hb);exact J5
theorem O5f(b:Nat)(l:List UInt8)(v:Int)(h:V1z b l=.ok v) : -9223372036854775808<=v/\v<=9223372036854775807:=by
 unfold V1z at h
 split at h
 -- base ten
 unfold Lib.parseIntB at h
 split at h;cases h
 simp only at h;have e:(2:Nat) ^ (64-1)=9223372036854775808:=Yd
 split at h;cases h
 cases h
 rename_i u _
 rw[e]at h
 split at h;cases h
 split at h;cases h
 rename_i h1 h2
 simp only[U4m]at h
 split at h
 rename_i hn
 have:u<=9223372036854775808:=by
  by_cases hu:9223372036854775808<u;exact absurd ⟨hn,hu⟩ h2
  omega
 omega
 rename_i hn
 have:u<9223372036854775808:=by
  by_cases hu:9223372036854775808<=u;exact absurd ⟨hn,hu⟩ h1
  omega
 omega
 split at h
 split at h;simp only[U4m]at h;omega
 cases h
 cases h
 cases h
theorem O2w(b:Nat)(ds:ByteArray)(hb:(b=10/\ds=V2y)\/((b=16/\ds=V6a)\/(b=8/\ds=V6b)\/(b=2/\ds=V6c)))(S D L T:ByteArray)(hS:(b=10/\(bs S=[]\/bs S=[43]\/bs S=[45]))\/bs S=[])(hD:(bs S).length+D.size<=20000000)(hL:L=⟨(Lib.replaceAll (bs D) [95] []).toArray⟩)(hT:S++L=T)(hr:V13 (bs ds).contains (bs D)=true):V1z b (bs S++Vn (bs D))≠Lib.NumEnd.syntax/\(∀v,V1z b (bs S++Vn (bs D))=.ok v -> -9223372036854775808<=v/\v<=9223372036854775807) /\∀w ep,w.cell? ⟨1,0,none⟩=some (.iface 288 (.pointer (some ep)))->Calls prog 134 #[.string T,b,(64:Int)] w (O1c ep w (V1z b (bs S++Vn (bs D)))):=by
 obtain⟨Mo,a8⟩:=V6o _ _ hr;have jy:bs T=bs S++Vn (bs D):=by
  rw[<-hT,hL];simp[bs,U2n,Vn]
 have sw:T.size<=20000000:=by
  rw[<-O0,jy,U1b];have:=V3o (bs D);rw[O0]at this;omega
 have yA:=λ h w ep hw=>Oi1 b T sw h w ep hw
 rw[jy]at yA;rcases hb with⟨rfl,rfl⟩|hb
 have hd:∀c∈Vn (bs D),O2 c=true:=λ c hc=>by have:=Mo c hc;rw[Oee]at this;exact this
 have u9:Lib.parseIntB 64 (bs S++Vn (bs D))≠Lib.NumEnd.syntax:=V6p _ _ (by rcases hS with⟨_,h⟩|h;exact h;exact .inl h) hd a8;have e:V1z 10 (bs S++Vn (bs D))=Lib.parseIntB 64 (bs S++Vn (bs D)):=by unfold V1z;rw[U1a rfl]
 exact⟨by rw[e];exact u9,λ v hv=>O5f _ _ v hv,λ w ep hw=>yA (.inl ⟨rfl,u9⟩) w ep hw⟩
 have lI:b≠10:=by rcases hb with⟨rfl,_⟩|⟨rfl,_⟩|⟨rfl,_⟩ <;> decide
 have bj:bs S=[]:=by rcases hS with⟨h,_⟩|h;exact absurd h lI;exact h
 have aV:b=16\/b=8\/b=2:=by rcases hb with⟨h,_⟩|⟨h,_⟩|⟨h,_⟩;exact .inl h;exact .inr (.inl h);exact .inr (.inr h)
 have hd:∀c∈Vn (bs D),V2d c.toNat<b:=by
  intro c hc;have h2:=Mo c hc;rcases hb with⟨rfl,rfl⟩|⟨rfl,rfl⟩|⟨rfl,rfl⟩
  rw[Oeb]at h2;simp only[V5v,O2,Bool.or_eq_true,U1h,U1x]at h2;unfold V2d
  split;omega
  split;omega
  split;omega
  omega;rw[Oec]at h2;exact J75
  rw[Oed]at h2;exact J75
 have h0:0<T.size:=by
  rw[<-O0,jy,bj,U2l];exact U3t.2 a8
 have vz:bs S++Vn (bs D)=Vn (bs D):=by rw[bj];rfl
 refine⟨?_,λ v hv=>O5f _ _ v hv,λ w ep hw=>yA (.inr ⟨aV,h0,by rw[vz];exact hd⟩) w ep hw⟩;rw[O5z b _ lI,vz];have:=V4g b 18446744073709551615 _ 0 hd;revert this;cases Vp b 18446744073709551615 0 (Vn (bs D)) with
 |range=>intro _ h;cases h
 |ok v=>intro _ h;unfold O34 at h;simp only at h;split at h <;> cases h
 |_=>intro h;exact absurd rfl h
theorem Oof(bb:Nat)(ds S D:ByteArray)(dig:UInt8->Bool)(lJ:(bs ds).contains=dig)(hb:bb≠10)(hS:bs S=[])(lg:Nat):(if V13 (bs ds).contains (bs D)=false then .bad 3 0 else V6t (V1z bb (bs S++Vn (bs D))))=V1t ⟨lg,bb,dig⟩ [] (bs D):=by
 unfold V1t;rw[lJ,hS];by_cases h:V13 dig (bs D)=false;rw[U1a h,U1a (.inl h)]
 rw[U1c h,U1c (by rintro (h1|⟨h1,_⟩);exact h h1;exact hb h1)];simp only;cases V1z bb ([]++Vn (bs D)) <;> rfl
theorem Ocf(S D:ByteArray)(lg:Nat):let X:=V1t ⟨lg,10,O2⟩ (bs S) (bs D)
    (V13 (bs V2y).contains (bs D)=false->X=.bad 3 0)/\(1<D.size/\(bs D)[0]?=some 48->X=.bad 3 0) /\
    (V13 (bs V2y).contains (bs D)=true->¬(1<D.size/\(bs D)[0]?=some 48)->X=V6t (V1z 10 (bs S++Vn (bs D)))):=by
 intro X;have hX:X=V1t ⟨lg,10,O2⟩ (bs S) (bs D):=rfl
 clear_value X
 subst hX;unfold V1t;rw[Oee];refine⟨λ h=>by rw[U1a (.inl h)],λ h=>by rw[U1a (.inr ⟨rfl,by rw[O0];exact h.1,h.2⟩)],λ h h2=>?_⟩;rw[U1c (by rintro (h1|⟨_,h1,h3⟩);rw[h]at h1;cases h1;exact h2 ⟨by rw[O0]at h1;exact h1,h3⟩)];simp only;cases V1z 10 (bs S++Vn (bs D)) <;> rfl
theorem Oef(s:ByteArray)(hs:s.size<=20000000)(w:World)(hw:V3y w):Calls prog 99 #[.string s] w λ e w'=>Oq (V1d (bs s)) e/\Gr w w':=by
 have other:∀(bg:ByteArray)(bb:Nat)(ds:ByteArray)(dig:UInt8->Bool),(bs ds).contains=dig->bb≠10->((bb=16/\ds=V6a)\/(bb=8/\ds=V6b)\/(bb=2/\ds=V6c))->ds.size<=100->(∀(j:Nat) b,ds.data.toList[j]?=some b->b.toNat<128)->bg.size=2->2<=s.size ->
     O1h (bs s)=V3n bg bb ds->V4h (bs s)=⟨2,bb,dig⟩->(∀W,(Go.binOp .eql 205 (V3n bg bb ds) O2g).run prog W=.ok (.bool false) W) ->
     Calls prog 99 #[.string s] w λ e w'=>Oq (V1d (bs s)) e/\Gr w w':=by
  intro bg bb ds dig lJ lI hb kZ ha jQ dc jL tK hq;have qv:(s.extract bg.size s.size).size<=20000000:=Ye
  have h:=Oi2 bg bb ds s hs jL Ya hq (s.extract bg.size s.size) rfl _ (λ w=>O5m bg bb ds kZ ha _ qv w) _ rfl
   (V1z bb (bs ⟨#[]⟩++Vn (bs (s.extract bg.size s.size)))) (λ hr=>O2w bb ds (.inr hb) ⟨#[]⟩ _ _ _ (.inr rfl) (by simp only[bs];simp;omega) rfl (by apply U30;simp[U2n]) hr) w hw
  rw[Oof bb ds ⟨#[]⟩ (s.extract bg.size s.size) dig lJ lI rfl 2]at h;have e:V1d (bs s)=V1t ⟨2,bb,dig⟩ [] (bs (s.extract bg.size s.size)):=by
   unfold V1d V4x;rw[tK];have:(decide (bb=10)&&Pl.signed (bs s))=false:=by simp[lI]
   simp only[this];rw[O4,jQ];rfl
  rw[e];exact h
 have dc:∀x:UInt8,Pl.pre (bs s) [48,x]=true->2<=s.size:=λ x h=>by
  have:=V1i _ _ h;rw[O0]at this
  simpa using this
 by_cases h0:Pl.pre (bs s) [48,120]=true;exact other ⟨#[48,120]⟩ 16 V6a _ Oeb Yd (.inl ⟨rfl,rfl⟩) Yd (O3z _ Yd) rfl (dc _ h0) (by unfold O1h;rw[U1a h0]) (by unfold V4h;rw[U1a h0]) (λ _=>by kernel_rfl)
 by_cases h1:Pl.pre (bs s) [48,111]=true;exact other ⟨#[48,111]⟩ 8 V6b _ Oec Yd (.inr (.inl ⟨rfl,rfl⟩)) Yd (O3z _ Yd) rfl (dc _ h1) (by unfold O1h;rw[U1c h0,U1a h1]) (by unfold V4h;rw[U1c h0,U1a h1]) (λ _=>by kernel_rfl)
 by_cases h2:Pl.pre (bs s) [48,98]=true;exact other ⟨#[48,98]⟩ 2 V6c _ Oed Yd (.inr (.inr ⟨rfl,rfl⟩)) Yd (O3z _ Yd) rfl (dc _ h2) (by unfold O1h;rw[U1c h0,U1c h1,U1a h2]) (by unfold V4h;rw[U1c h0,U1c h1,U1a h2]) (λ _=>by kernel_rfl)
 have jL:O1h (bs s)=V3n ⟨#[]⟩ 10 V2y:=by unfold O1h;rw[U1c h0,U1c h1,U1c h2];rfl
 have tK:V4h (bs s)=⟨0,10,O2⟩:=by unfold V4h;rw[U1c h0,U1c h1,U1c h2]
 have jz:=λ(D:ByteArray)(hD:D.size<=20000000)(w:World)=>O5m ⟨#[]⟩ 10 V2y Yd (O3z _ Yd) D hD w
 by_cases hz:0<s.size
 have dF:=O8 s 0 hz;simp only[U2b]at dF;by_cases nV:(s[0]'hz).toNat=43\/(s[0]'hz).toNat=45
 have hS:bs (s.extract 0 1)=[s[0]'hz]:=by
  have h5:bs (s.extract 0 1)=(bs s).take 1:=by simp only[bs,U36];simp
  rw[h5,dF];rfl
 have Ib:bs (s.extract 0 1)=[43]\/bs (s.extract 0 1)=[45]:=by
  rw[hS];rcases nV with h|h
  left;congr 1;rw[<-U2d];exact h
  right;congr 1;rw[<-U2d];exact h
 have qv:(s.extract 1 s.size).size<=20000000:=Ye;obtain⟨x1,x2,x3⟩:=Ocf (s.extract 0 1) (s.extract 1 s.size) 0;have e:V1d (bs s)=V1t ⟨0,10,O2⟩ (bs (s.extract 0 1)) (bs (s.extract 1 s.size)):=by
  have Ic:V4x (bs s)=true:=by
   unfold V4x;rw[tK,dF];simp only[decide_true,Bool.true_and,Pl.signed,Vq];rcases nV with h|h <;> rw[h] <;> rfl
  unfold V1d;rw[U1a Ic,tK];have h5:bs (s.extract 0 1)=(bs s).take 1:=by simp only[bs,U36];simp
  rw[h5,O4]
 rw[e];have hP:=λ hr=>O2w 10 V2y (.inl ⟨rfl,rfl⟩) (s.extract 0 1) (s.extract 1 s.size) _ _ (.inl ⟨rfl,.inr Ib⟩) (by rw[hS];simp;omega) rfl rfl hr
 rcases nV with h|h
 exact Ofk ⟨#[]⟩ 10 V2y rfl rfl rfl s hs jL hz h _ _ rfl rfl _ (jz _ qv) _ rfl _ rfl _ hP _ x1 x2 x3 w hw
 exact Ofl ⟨#[]⟩ 10 V2y rfl rfl rfl s hs jL hz h _ _ rfl rfl _ (jz _ qv) _ rfl _ rfl _ hP _ x1 x2 x3 w hw
 obtain⟨x1,x2,x3⟩:=Ocf ⟨#[]⟩ s 0;have e:V1d (bs s)=V1t ⟨0,10,O2⟩ (bs ⟨#[]⟩) (bs s):=by
  have Ic:V4x (bs s)=false:=by
   unfold V4x;rw[tK,dF];simp only[decide_true,Bool.true_and,Pl.signed,Vq];simp only[Bool.or_eq_false_iff,U3u];exact⟨λ h=>nV (.inl h),λ h=>nV (.inr h)⟩
  unfold V1d;rw[U1c (by rw[Ic];simp),tK];rfl
 rw[e];exact Ofm ⟨#[]⟩ 10 V2y rfl rfl rfl s hs jL hz ⟨λ h=>nV (.inl h),λ h=>nV (.inr h)⟩ _ (jz _ hs) _ rfl _ rfl _
  (λ hr=>O2w 10 V2y (.inl ⟨rfl,rfl⟩) ⟨#[]⟩ s _ _ (.inr rfl) (by simp only[bs];simp;omega) rfl rfl hr) _ x1 x2 x3 w hw
 have qx:bs s=[]:=U3r.1 (by rw[O0];omega);have Qg:s.toList=[]:=by rw[U21];exact qx
 obtain⟨x1,x2,x3⟩:=Ocf ⟨#[]⟩ s 0;have e:V1d (bs s)=V1t ⟨0,10,O2⟩ (bs ⟨#[]⟩) (bs s):=by rw[qx];rfl
 rw[e];exact Ofn ⟨#[]⟩ 10 V2y rfl rfl rfl s hs jL Qg _ (by rw[qx];rfl) (jz _ hs) _ rfl _ rfl _
  (λ hr=>O2w 10 V2y (.inl ⟨rfl,rfl⟩) ⟨#[]⟩ s _ _ (.inr rfl) (by simp only[bs];simp;omega) rfl rfl hr) _ x1 x2 x3 w hw
