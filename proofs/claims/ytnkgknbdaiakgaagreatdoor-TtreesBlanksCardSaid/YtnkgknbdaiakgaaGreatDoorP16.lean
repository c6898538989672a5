/- The proof's part 16. -/
import Derived.Test.YtnkgknbdaiakgaaGreatDoorP17
set_option maxHeartbeats 16000000
set_option linter.all false
set_option maxRecDepth 100000
namespace Go.Proofs.YtnkgknbdaiakgaaGreatDoor
open Pl Go.Proofs.Tryz Go.RowKit
def O1c(ep:Addr)(w:World)(Y:Lib.NumEnd Int)(e:Ending)(w':World):Prop:=match Y with
 |.ok v=>e = .returned (.tuple #[v,.nilIface])/\Gr w w'
 |.range=>(∃(k:Int)(N:Nat),e = .returned (.tuple #[k,.iface 260 (.pointer (some ⟨N,0,none⟩))])/\w'.cell? ⟨N,2,none⟩=some (.iface 288 (.pointer (some ep))))/\Gr w w'
 |Lib.NumEnd.syntax=>True
def O2x(Y:Lib.NumEnd Nat):Lib.NumEnd Int:=match Y with
 |.ok v=>if v<9223372036854775808 then .ok (v:Int) else .range
 |.range => .range
 |Lib.NumEnd.syntax=>Lib.NumEnd.syntax
def Oe9(Y:Lib.NumEnd Int)(e:Ending):Prop:=match Y with
 |.ok v=>e = .returned (.tuple #[v,.nilIface])
 |.range=>e = .returned (.tuple #[(9223372036854775807:Int),.iface 257 (1:Int)])
 |Lib.NumEnd.syntax=>True
theorem Onx(t:ByteArray)(base:Int)(h0:0<t.size)(hs:(t[0]'h0).toNat≠43/\(t[0]'h0).toNat≠45)(Y:Lib.NumEnd Nat)(aK:∀v,Y = .ok v->v<=18446744073709551615)(a8:Y≠Lib.NumEnd.syntax)
    (hU:∀w,Calls prog 192 #[.string t,base,(64:Int)] w λ e w'=>e = .returned (Lib.uintTupleM 257 18446744073709551615 Y)/\w'=Lib.bytesWorld w 5 t)(w:World) :
    Calls prog 168 #[.string t,base,(64:Int)] w λ e w'=>Oe9 (O2x Y) e/\Gr w w':=by
 have eO:t.toList.isEmpty=false:=by
  rw[<-decide_eq_emptyBytes];exact U3a (λ h=>by rw[h]at h0;exact absurd h0 (by decide))
 have eu:(0:Int)<(t.size:Int):=by omega
 obtain⟨x1,x2⟩:=V1o (t[0]'h0).toNat 43 false (by simpa using hs.1);obtain⟨y1,y2⟩:=V1o (t[0]'h0).toNat 45 false (by simpa using hs.2);have zx:∀W,(Go.binOp .neq 115 (.iface 257 (1:Int)) (.iface 257 (1:Int))).run prog W = .ok (.bool false) W:=λ W=>by kernel_rfl
 have cH:=O11 w 5 t;have hU:=hU w;refine Z166 ?_;intro W1 aQ;rw[<-aQ]at hU cH;clear aQ hs;cases Y with
 |range =>
  have hU:Calls prog 192 #[.string t,base,(64:Int)] w λ e w'=>e = .returned (.tuple #[.int .u64 18446744073709551615,.iface 257 (1:Int)])/\w'=W1:=hU
  clear aK a8;go_enter func168,ntmps168;go_wp2_with (refine hU.mono ?_;rintro e w1 ⟨rfl,rfl⟩)
  go_wp2
  go_ret2
  exact⟨rfl,cH⟩
 |ok v =>
  have hv:=aK v rfl;have hU:Calls prog 192 #[.string t,base,(64:Int)] w λ e w'=>e = .returned (.tuple #[.int .u64 (v:Int),.nilIface])/\w'=W1:=hU
  obtain⟨a,ha⟩:∃a:Int,a=(v:Int):=⟨_,rfl⟩
  rw[<-ha]at hU;refine Z272 ?_;intro a0 a1;clear aK a8;by_cases li:v<9223372036854775808
  ·have HI:Hid (v<9223372036854775808):=li;have HA:Hid (a=(v:Int)):=ha;have Sx:a<9223372036854775808:=by omega
   clear li hv ha;go_enter func168,ntmps168;go_wp2_with (refine hU.mono ?_;rintro e w1 ⟨rfl,rfl⟩)
   go_wp2
   go_ret2
   exact⟨by unfold O2x;simp only;rw[Ua HI.o];unfold Oe9;simp only;rw[HA.o];rfl,cH⟩
  have HI:Hid (¬v<9223372036854775808):=li;have OH:9223372036854775808<=a:=by omega
  clear li hv ha;go_enter func168,ntmps168;go_wp2_with (refine hU.mono ?_;rintro e w1 ⟨rfl,rfl⟩)
  go_wp2
  go_ret2
  exact⟨by unfold O2x;simp only;rw[Ud HI.o];rfl,cH⟩
 |_=>exact absurd rfl a8
theorem O97(t:ByteArray)(base:Int)(h0:0<t.size)(hz:t.size<=20000000)(hs:(t[0]'h0).toNat≠43/\(t[0]'h0).toNat≠45)(Y:Lib.NumEnd Nat)(aK:∀v,Y = .ok v->v<=18446744073709551615)(a8:Y≠Lib.NumEnd.syntax)
    (hU:∀w,Calls prog 192 #[.string t,base,(64:Int)] w λ e w'=>e = .returned (Lib.uintTupleM 257 18446744073709551615 Y)/\w'=Lib.bytesWorld w 5 t)(w:World)(ep:Addr)(hw:w.cell? ⟨1,0,none⟩=some (.iface 288 (.pointer (some ep)))) :
    Calls prog 134 #[.string t,base,(64:Int)] w (O1c ep w (O2x Y)):=by
 have hI:=Onx t base h0 hs Y aK a8 hU w;have bad:Calls prog 168 #[.string t,base,(64:Int)] w (λ e w'=>e = .returned (.tuple #[(9223372036854775807:Int),.iface 257 (1:Int)])/\Gr w w') ->
     Calls prog 134 #[.string t,base,(64:Int)] w (O1c ep w .range):=by
  intro hJ;have HW:=U0 hw;clear hw hI hU;go_enter func134,ntmps134;go_wp2_with fail;refine hJ.mono ?_;rintro e w1 ⟨rfl,g1⟩;go_wp2_with fail;refine (strconv_toError_range ⟨#[80,97,114,115,101,73,110,116]⟩ t base 64 _ w1 (by omega) ((g1.use.1 _ _ (Lib.lt_of_cell HW.o)).trans HW.o) (.inr ⟨_,_,rfl⟩)).mono ?_;rintro e w2 ⟨N,rfl,hN,hb,g2⟩;go_wp2_with fail
  go_ret2
  exact⟨⟨_,N,rfl,by rw[Joins.cell_of_block hb];rfl⟩,g1.trans g2⟩
 cases Y with
 |range=>exact bad hI
 |ok v =>
  unfold O2x at hI⊢;by_cases hv:v<9223372036854775808
  ·simp only[Ua hv]at hI⊢;clear hw hU bad;go_enter func134,ntmps134;go_wp2_with fail;refine hI.mono ?_;rintro e w1 ⟨rfl,g1⟩;go_wp2_with fail
   go_ret2
   exact⟨rfl,g1⟩
  simp only[Ud hv]at hI⊢;exact bad hI
 |_=>exact absurd rfl a8
theorem O5x(b:Nat)(l:List UInt8)(h:b≠10):V1w b l=O2x (Vp b 18446744073709551615 0 l):=by
 unfold V1w O2x;rw[Ud h];cases Vp b 18446744073709551615 0 l <;> rfl
namespace Pl
theorem V6g(B M:Nat)(l:Bs):∀acc v,acc<=M->Vp B M acc l = .ok v->v<=M:=by
 induction l with
 |nil=>intro acc v h hv;simp only[Vp,U3p]at hv;omega
 |cons c l ih =>
  intro acc v h hv;unfold Vp at hv
  split at hv
  split at hv;cases hv
  exact ih _ _ (by omega) hv
  cases hv
theorem V4j(B M:Nat)(l:Bs):∀acc,(∀c∈l,V28 c.toNat<B)->Vp B M acc l≠Lib.NumEnd.syntax:=by
 induction l with
 |nil=>intro acc _ h;simp[Vp]at h
 |cons c l ih =>
  intro acc hd;unfold Vp;rw[Ua (hd c (by simp))]
  split;simp
  exact ih _ (λ x hx=>hd x (U15 _ hx))
end Pl
theorem Ogw(b:Nat)(t:ByteArray)(hz:t.size<=20000000)(h:(b=10/\Lib.parseIntB 64 (bs t)≠Lib.NumEnd.syntax)\/((b=16\/b=8\/b=2)/\0<t.size/\∀c∈bs t,V28 c.toNat<b))(w:World)(ep:Addr)(hw:w.cell? ⟨1,0,none⟩=some (.iface 288 (.pointer (some ep)))) :
    Calls prog 134 #[.string t,b,(64:Int)] w (O1c ep w (V1w b (bs t))):=by
 rcases h with⟨rfl,a8⟩|⟨hb,h0,hd⟩
 unfold V1w;rw[Ua rfl];cases hp:Lib.parseIntB 64 (bs t) with
 |ok v=>exact Oj9 t hz v hp w
 |range =>
  refine (strconv_ParseInt_10_at64_range t (by omega) hp _ w hw (.inr ⟨_,_,rfl⟩)).mono ?_;rintro e w' ⟨N,rfl,hN,hb,g⟩;exact⟨⟨_,N,rfl,by rw[Joins.cell_of_block hb];rfl⟩,g⟩
 |_=>exact absurd hp a8
 have hs:(t[0]'h0).toNat≠43/\(t[0]'h0).toNat≠45:=by
  have h2:=hd (t[0]'h0) (by have:=O8 t 0 h0;simp only[U1l]at this;rw[this];simp);unfold V28 at h2;constructor;intro e;rw[e]at h2;simp at h2;omega
  intro e;rw[e]at h2;simp at h2;omega
 have lj:b≠10:=by omega
 rw[O5x b _ lj];rcases hb with rfl|rfl|rfl
 exact O97 t 16 h0 hz hs _ (λ v hv=>V6g _ _ _ 0 v (by omega) hv) (V4j _ _ _ 0 hd) (λ w=>Ojg t (by omega) (by omega) w) w ep hw;exact O97 t 8 h0 hz hs _ (λ v hv=>V6g _ _ _ 0 v (by omega) hv) (V4j _ _ _ 0 hd) (λ w=>Om4 t (by omega) (by omega) w) w ep hw
 exact O97 t 2 h0 hz hs _ (λ v hv=>V6g _ _ _ 0 v (by omega) hv) (V4j _ _ _ 0 hd) (λ w=>Om5 t (by omega) (by omega) w) w ep hw
end Go.Proofs.YtnkgknbdaiakgaaGreatDoor
namespace Go.Proofs.YtnkgknbdaiakgaaGreatDoor
open Pl Go.Proofs.Tryz Go.RowKit Go.Shelf Go.Joins
attribute [local go_sem] Uy
abbrev V6d:ByteArray:=⟨#[48,49,50,51,52,53,54,55,56,57,97,98,99,100,101,102,65,66,67,68,69,70]⟩
abbrev V6e:ByteArray:=⟨#[48,49,50,51,52,53,54,55]⟩
abbrev V6f:ByteArray:=⟨#[48,49]⟩
abbrev V3p(bg:ByteArray)(b:Nat)(ds:ByteArray):Value := .agg #[.string bg,b,.string ds]
theorem Om1(s:ByteArray)(h0:Pl.pre (bs s) [48,120]=true)(w:World)(hr:V89 w) :
    Calls prog 131 #[.string s] w λ e w'=>e = .returned (V3p ⟨#[48,120]⟩ 16 V6d)/\Gr w w':=by
 have r0:w.cell? ⟨6,0,none⟩=some (.string ⟨#[48,120]⟩):=hr 0 _ rfl;have r1:w.cell? ⟨6,1,none⟩=some (.int .i64 16):=hr 1 _ rfl;have r2:w.cell? ⟨6,2,none⟩=some (.string V6d):=hr 2 _ rfl;have r3:w.cell? ⟨6,3,none⟩=some (.string ⟨#[48,111]⟩):=hr 3 _ rfl;have r4:w.cell? ⟨6,4,none⟩=some (.int .i64 8):=hr 4 _ rfl;have r5:w.cell? ⟨6,5,none⟩=some (.string V6e):=hr 5 _ rfl;have r6:w.cell? ⟨6,6,none⟩=some (.string ⟨#[48,98]⟩):=hr 6 _ rfl;have r7:w.cell? ⟨6,7,none⟩=some (.int .i64 2):=hr 7 _ rfl;have r8:w.cell? ⟨6,8,none⟩=some (.string V6f):=hr 8 _ rfl;have aa:6<w.heap.size:=Lib.lt_of_cell r0;have H0:=U0 h0;refine Z52 ?_;intro i0 i1 i2;clear hr h0;go_enter func131,ntmps131;go_wp2_with fail
 go_loopw [6] (λ v wr=>∃k:Nat,v = .int .i64 k/\(k=0)/\Gr (w.alloc (.cells #[.string ⟨#[]⟩,(0:Int),.string ⟨#[]⟩] 205)) wr) (λ v _=>3-(intOf v).toNat)
 case atStart=>exact⟨0,rfl,rfl,Gr.refl _⟩
 case round =>
  obtain⟨k,rfl,hk,hg⟩:=hrel;obtain⟨hc,hf,hz⟩:=hg.use;rcases hk with rfl;have p0:wr.cell? ⟨w.heap.size,0,none⟩=some (.string ⟨#[]⟩):=(hc _ _ (by simp)).trans (by simp);have p1:wr.cell? ⟨w.heap.size,1,none⟩=some (.int .i64 0):=(hc _ _ (by simp)).trans (by simp);have p2:wr.cell? ⟨w.heap.size,2,none⟩=some (.string ⟨#[]⟩):=(hc _ _ (by simp)).trans (by simp);have pf:∀o,wr.frozen? ⟨w.heap.size,o,none⟩=false:=λ o=>(hf _ _ (by simp)).trans (by simp[go_sem])
  simp only[Uv]at hz;have eI:w.heap.size<wr.heap.size:=by omega
  clear hc hf;go_wp2_with (go_at_call 56;refine (Ok s ⟨#[48,120]⟩ true H0.o _).mono ?_;rintro e w1 ⟨rfl,rfl⟩);have cP:Gr w wr:=((Gr.refl w).alloc _).trans hg;exact U1 (v:=V3p ⟨#[48,120]⟩ 16 V6d) (by simp[results,results131,go_sem,p0,p1,p2,pf,eI]) rfl ⟨rfl,by refine Gr.alloc ?_ _;(repeat refine Gr.setCell ?_ (U2 _) _);exact cP⟩
theorem Om2(s:ByteArray)(h0:Pl.pre (bs s) [48,120]=false)(h1:Pl.pre (bs s) [48,111]=true)(w:World)(hr:V89 w) :
    Calls prog 131 #[.string s] w λ e w'=>e = .returned (V3p ⟨#[48,111]⟩ 8 V6e)/\Gr w w':=by
 have r0:w.cell? ⟨6,0,none⟩=some (.string ⟨#[48,120]⟩):=hr 0 _ rfl;have r1:w.cell? ⟨6,1,none⟩=some (.int .i64 16):=hr 1 _ rfl;have r2:w.cell? ⟨6,2,none⟩=some (.string V6d):=hr 2 _ rfl;have r3:w.cell? ⟨6,3,none⟩=some (.string ⟨#[48,111]⟩):=hr 3 _ rfl;have r4:w.cell? ⟨6,4,none⟩=some (.int .i64 8):=hr 4 _ rfl;have r5:w.cell? ⟨6,5,none⟩=some (.string V6e):=hr 5 _ rfl;have r6:w.cell? ⟨6,6,none⟩=some (.string ⟨#[48,98]⟩):=hr 6 _ rfl;have r7:w.cell? ⟨6,7,none⟩=some (.int .i64 2):=hr 7 _ rfl;have r8:w.cell? ⟨6,8,none⟩=some (.string V6f):=hr 8 _ rfl;have aa:6<w.heap.size:=Lib.lt_of_cell r0;have H0:=U0 h0;have H1:=U0 h1;refine Z52 ?_;intro i0 i1 i2;clear hr h0 h1;go_enter func131,ntmps131;go_wp2_with fail
 go_loopw [6] (λ v wr=>∃k:Nat,v = .int .i64 k/\(k=0\/k=1)/\Gr (w.alloc (.cells #[.string ⟨#[]⟩,(0:Int),.string ⟨#[]⟩] 205)) wr) (λ v _=>3-(intOf v).toNat)
 case atStart=>exact⟨0,rfl,.inl rfl,Gr.refl _⟩
 case round =>
  obtain⟨k,rfl,hk,hg⟩:=hrel;obtain⟨hc,hf,hz⟩:=hg.use;rcases hk with rfl|rfl
  ·clear hc hf;go_wp2_with (go_at_call 56;refine (Ok s ⟨#[48,120]⟩ false H0.o _).mono ?_;rintro e w1 ⟨rfl,rfl⟩)
   go_roundw
   case rel=>exact⟨1,rfl,.inr (rfl),hg.alloc _⟩
   case measure=>simp[intOf]
  have p0:wr.cell? ⟨w.heap.size,0,none⟩=some (.string ⟨#[]⟩):=(hc _ _ (by simp)).trans (by simp);have p1:wr.cell? ⟨w.heap.size,1,none⟩=some (.int .i64 0):=(hc _ _ (by simp)).trans (by simp);have p2:wr.cell? ⟨w.heap.size,2,none⟩=some (.string ⟨#[]⟩):=(hc _ _ (by simp)).trans (by simp);have pf:∀o,wr.frozen? ⟨w.heap.size,o,none⟩=false:=λ o=>(hf _ _ (by simp)).trans (by simp[go_sem])
  simp only[Uv]at hz;have eI:w.heap.size<wr.heap.size:=by omega
  clear hc hf;go_wp2_with (go_at_call 56;refine (Ok s ⟨#[48,111]⟩ true H1.o _).mono ?_;rintro e w1 ⟨rfl,rfl⟩);have cP:Gr w wr:=((Gr.refl w).alloc _).trans hg;exact U1 (v:=V3p ⟨#[48,111]⟩ 8 V6e) (by simp[results,results131,go_sem,p0,p1,p2,pf,eI]) rfl ⟨rfl,by refine Gr.alloc ?_ _;(repeat refine Gr.setCell ?_ (U2 _) _);exact cP⟩
theorem Om3(s:ByteArray)(h0:Pl.pre (bs s) [48,120]=false)(h1:Pl.pre (bs s) [48,111]=false)(h2:Pl.pre (bs s) [48,98]=true)(w:World)(hr:V89 w) :
    Calls prog 131 #[.string s] w λ e w'=>e = .returned (V3p ⟨#[48,98]⟩ 2 V6f)/\Gr w w':=by
 have r0:w.cell? ⟨6,0,none⟩=some (.string ⟨#[48,120]⟩):=hr 0 _ rfl;have r1:w.cell? ⟨6,1,none⟩=some (.int .i64 16):=hr 1 _ rfl;have r2:w.cell? ⟨6,2,none⟩=some (.string V6d):=hr 2 _ rfl;have r3:w.cell? ⟨6,3,none⟩=some (.string ⟨#[48,111]⟩):=hr 3 _ rfl;have r4:w.cell? ⟨6,4,none⟩=some (.int .i64 8):=hr 4 _ rfl;have r5:w.cell? ⟨6,5,none⟩=some (.string V6e):=hr 5 _ rfl;have r6:w.cell? ⟨6,6,none⟩=some (.string ⟨#[48,98]⟩):=hr 6 _ rfl;have r7:w.cell? ⟨6,7,none⟩=some (.int .i64 2):=hr 7 _ rfl;have r8:w.cell? ⟨6,8,none⟩=some (.string V6f):=hr 8 _ rfl;have aa:6<w.heap.size:=Lib.lt_of_cell r0;have H0:=U0 h0;have H1:=U0 h1;have H2:=U0 h2;refine Z52 ?_;intro i0 i1 i2;clear hr h0 h1 h2;go_enter func131,ntmps131;go_wp2_with fail
 go_loopw [6] (λ v wr=>∃k:Nat,v = .int .i64 k/\(k=0\/k=1\/k=2)/\Gr (w.alloc (.cells #[.string ⟨#[]⟩,(0:Int),.string ⟨#[]⟩] 205)) wr) (λ v _=>3-(intOf v).toNat)
 case atStart=>exact⟨0,rfl,.inl rfl,Gr.refl _⟩
 case round =>
  obtain⟨k,rfl,hk,hg⟩:=hrel;obtain⟨hc,hf,hz⟩:=hg.use;rcases hk with rfl|rfl|rfl
  ·clear hc hf;go_wp2_with (go_at_call 56;refine (Ok s ⟨#[48,120]⟩ false H0.o _).mono ?_;rintro e w1 ⟨rfl,rfl⟩);exact J36
  ·clear hc hf;go_wp2_with (go_at_call 56;refine (Ok s ⟨#[48,111]⟩ false H1.o _).mono ?_;rintro e w1 ⟨rfl,rfl⟩)
   go_roundw
   case rel=>exact⟨2,rfl,.inr (.inr (rfl)),hg.alloc _⟩
   case measure=>simp[intOf]
  have p0:wr.cell? ⟨w.heap.size,0,none⟩=some (.string ⟨#[]⟩):=(hc _ _ (by simp)).trans (by simp);have p1:wr.cell? ⟨w.heap.size,1,none⟩=some (.int .i64 0):=(hc _ _ (by simp)).trans (by simp);have p2:wr.cell? ⟨w.heap.size,2,none⟩=some (.string ⟨#[]⟩):=(hc _ _ (by simp)).trans (by simp);have pf:∀o,wr.frozen? ⟨w.heap.size,o,none⟩=false:=λ o=>(hf _ _ (by simp)).trans (by simp[go_sem])
  simp only[Uv]at hz;have eI:w.heap.size<wr.heap.size:=by omega
  clear hc hf;go_wp2_with (go_at_call 56;refine (Ok s ⟨#[48,98]⟩ true H2.o _).mono ?_;rintro e w1 ⟨rfl,rfl⟩);have cP:Gr w wr:=((Gr.refl w).alloc _).trans hg;exact U1 (v:=V3p ⟨#[48,98]⟩ 2 V6f) (by simp[results,results131,go_sem,p0,p1,p2,pf,eI]) rfl ⟨rfl,by refine Gr.alloc ?_ _;(repeat refine Gr.setCell ?_ (U2 _) _);exact cP⟩
def O1h(l:List UInt8):Value :=
 if Pl.pre l [48,120] then V3p ⟨#[48,120]⟩ 16 V6d else if Pl.pre l [48,111] then V3p ⟨#[48,111]⟩ 8 V6e else if Pl.pre l [48,98] then V3p ⟨#[48,98]⟩ 2 V6f else O2g
theorem O2w(s:ByteArray)(w:World)(hr:V89 w):Calls prog 131 #[.string s] w λ e w'=>e = .returned (O1h (bs s))/\Gr w w':=by
 unfold O1h;cases h0:Pl.pre (bs s) [48,120] with
 |true=>exact Om1 s h0 w hr
 |false =>
  cases h1:Pl.pre (bs s) [48,111] with
  |true=>exact Om2 s h0 h1 w hr
  |false =>
   cases h2:Pl.pre (bs s) [48,98] with
   |true=>exact Om3 s h0 h1 h2 w hr
   |false=>exact Oou s ⟨h0,h1,h2⟩ w hr
theorem Ogv(l cs:List UInt8):Lib.trimS l cs=[] ↔ (l.all λ c=>cs.contains c)=true:=by
 unfold Lib.trimS Lib.trimRightS Lib.trimLeftS;constructor
 intro h;rw[U1g];intro x hx;have h2:∀(m:List UInt8),m.dropWhile (cs.contains ·)=[]->∀x∈m,cs.contains x=true:=by
  intro m
  induction m with
  |nil=>intro _ x hx;cases hx
  |cons a m ih =>
   intro h x hx;rw[U2c]at h
   split at h
   rename_i ha
   rcases U1k.1 hx with rfl|hx
   exact ha
   exact ih h x hx
   cases h
 first
  | (have h3:=h2 _ h
     by_cases hm:x∈(l.reverse.dropWhile (cs.contains ·)).reverse;exact h3 x hm
     have hs:∀(m:List UInt8)(x:UInt8),x∈m->x ∉ m.dropWhile (cs.contains ·)->cs.contains x=true:=by
      intro m
      induction m with
      |nil=>intro x hx;cases hx
      |cons a m ih =>
       intro x hx hn;rw[U2c]at hn
       split at hn
       rename_i ha
       rcases U1k.1 hx with rfl|hx
       exact ha
       exact ih x hx hn
       exact absurd hx hn
     exact hs l.reverse x (List.mem_reverse.2 hx) (λ e=>hm (List.mem_reverse.2 e)))
  | (have h3:=h2 _ (List.reverse_eq_nil_iff.1 h)
     by_cases hm:x∈l.dropWhile (cs.contains ·);exact h3 x (List.mem_reverse.2 hm)
     have hs:∀(m:List UInt8)(x:UInt8),x∈m->x ∉ m.dropWhile (cs.contains ·)->cs.contains x=true:=by
      intro m
      induction m with
      |nil=>intro x hx;cases hx
      |cons a m ih =>
       intro x hx hn;rw[U2c]at hn
       split at hn
       rename_i ha
       rcases U1k.1 hx with rfl|hx
       exact ha
       exact ih x hx hn
       exact absurd hx hn
     exact hs l x hx hm)
 intro h;rw[U1g]at h;have h2:∀(m:List UInt8),(∀x∈m,cs.contains x=true)->m.dropWhile (cs.contains ·)=[]:=by
  intro m
  induction m with
  |nil=>intro _;rfl
  |cons a m ih =>
   intro hm;rw[U2c,Ua (hm a (by simp)),ih (λ x hx=>hm x (U15 _ hx))]
 first
  |rw[h2 l.reverse (λ x hx=>h x (List.mem_reverse.1 hx))];rfl
  |rw[h2 l h];rfl
theorem Obp(x ds:ByteArray)(hx:x.size<=20000000)(kz:ds.size<=100)(ha:∀(j:Nat) b,ds.data.toList[j]?=some b->b.toNat<128)(b:Bool)(hb:((bs x).all λ c=>(bs ds).contains c)=b)(w:World) :
    Calls prog 167 #[.string x,.string ds] w λ e w'=>(∃t:ByteArray,e = .returned (.string t)/\t.toList.isEmpty=b/\(b=true->t.toList=[])/\(b=false->¬t.toList=[]))/\Gr w w':=by
 refine (Any.strings_Trim_laid lays160 O4a x ds w (by omega) (by omega) ha).mono ?_;rintro e w' ⟨rfl,fP⟩;have h1:=Ogv (bs x) (bs ds);have ht:(⟨(Lib.trimS x.data.toList ds.data.toList).toArray⟩:ByteArray).toList=Lib.trimS (bs x) (bs ds):=by rw[Uz]
 refine⟨⟨_,rfl,?_,λ h=>?_,λ h=>?_⟩,fP⟩
 rw[ht];cases b with
 |true=>rw[h1.2 hb];rfl
 |false =>
  cases hl:Lib.trimS (bs x) (bs ds) with
  |nil=>rw[h1.1 hl]at hb;cases hb
  |cons c l=>rfl
 rw[ht];exact h1.2 (by rw[hb,h])
 rw[ht];intro e;have:=h1.1 e;rw[hb,h]at this;cases this
def O1g(ds:ByteArray)(p:ByteArray):Prop:=¬p.toList=[]/\((bs p).all λ c=>(bs ds).contains c)=true
theorem O7e(ds p:ByteArray):O1g ds p ↔ (!(bs p).isEmpty&&(bs p).all (bs ds).contains)=true:=by
 unfold O1g;rw[Uz];simp only[Uf,Bool.not_eq_true',List.isEmpty_eq_false_iff]
theorem O9v(ds s:ByteArray){n:Nat}(xs:List (V4z n))(h:xs.map sbs=V1a 95 (bs s)):Vx (bs ds).contains (bs s)=true ↔ ∀p∈xs,O1g ds p.1:=by
 unfold Vx;rw[<-h,List.all_map,U1g];exact⟨λ h p hp=>(O7e ds p.1).2 (h p hp),λ h p hp=>(O7e ds p.1).1 (h p hp)⟩
theorem O9w(ds s:ByteArray){n:Nat}(pre:List (V4z n))(xd:List Pl.Bs)(h:pre.map sbs++xd=V1a 95 (bs s))(p:V4z n)(hp:p∈pre)(hb:¬O1g ds p.1):Vx (bs ds).contains (bs s)=false:=by
 unfold Vx;rw[<-h,List.all_append,Bool.and_eq_false_iff];left;rw[Bool.eq_false_iff];intro e;rw[List.all_map,U1g]at e;exact hb ((O7e ds p.1).2 (e p hp))
theorem O2j{w:World}{C:Nat->Prop}{B:Nat}{W W':World}{dP:Option Nat}{b:Nat}{o:Obj}(hb:W.heap[b]?=some o)(hc:¬C b)(hB:b<B)(hg:W.grownBy W' dP)(hr:∀r,dP=some r->C r\/(B<=r/\∃o:Obj,W.heap[r]?=some o/\o.isCells=false)):W'.heap[b]?=some o :=
 (hg.block b (U8.1 hb).1 (λ e=>(hr b e.symm).elim hc (λ h=>by omega))).trans hb
theorem O37{w:World}{C:Nat->Prop}{B:Nat}(hC:∀r,C r->w.heap.size<=r)(hB:w.heap.size<=B){W W':World}{dP:Option Nat}(h:Below w.heap.size w W)(hg:W.grownBy W' dP)(hr:∀r,dP=some r->C r\/(B<=r/\∃o:Obj,W.heap[r]?=some o/\o.isCells=false)):Below w.heap.size w W' :=
 h.grown hg h.size (λ k e=>(hr k e).elim (hC k) (λ h=>by omega))
theorem O5v(bg:ByteArray)(bb:Nat)(ds:ByteArray)(kz:ds.size<=100)(ha:∀(j:Nat) b,ds.data.toList[j]?=some b->b.toNat<128)(s:ByteArray)(hs:s.size<=20000000)(w:World) :
    Calls prog 133 #[V3p bg bb ds,.string s] w λ e w'=>e = .returned (.bool (Vx (bs ds).contains (bs s)))/\Gr w w':=by
 refine (U2x (n:=6)).1 ?_;refine callsIn_of_wp_marks func133 rfl U2d ?_ rfl;simp only[ntmps133,List.size_toArray,Ub,Ur,Nat.reduceAdd,Nat.reduceSub,Array.replicate_succ,Array.replicate_zero,List.push_toArray,List.append_toArray,U1c,Un]
 gi_wp2_with (refine⟨U2d,?_⟩;gi_at_call 166;refine (U2x.2 (Oe6 s _)).mono ?_;rintro e w' ⟨rfl,rfl⟩)
 obtain⟨W0,aM⟩:=ExZ (((((w.alloc (.cells #[.string bg,bb,.string ds] 205)).alloc (.cells #[.bool false] 4)).alloc (.cells #[.string s] 9)).alloc (.cells #[.string ⟨#[95]⟩] 9)).alloc (.cells #[(0:Int)] 3))
 have d5:W0.heap.size=w.heap.size+1+1+1+1+1:=by rw[<-aM];simp only[Uv]
 have eR:Gr w W0:=by rw[<-aM];exact (((((Gr.refl w).alloc _).alloc _).alloc _).alloc _).alloc _
 have b0:W0.heap[w.heap.size]?=some (.cells #[.string bg,bb,.string ds] 205 (0,0)):=by
  rw[<-aM];exact (((((Gr.refl (w.alloc _)).alloc _).alloc _).alloc _).alloc _).block (by simp) |>.trans (U10 w _)
 have b1:W0.heap[w.heap.size+1]?=some (.cells #[.bool false] 4 (0,0)):=by
  rw[<-aM];refine ((((Gr.refl ((w.alloc _).alloc _)).alloc _).alloc _).alloc _).block (by simp) |>.trans ?_;have:=U10 (w.alloc (.cells #[.string bg,bb,.string ds] 205)) (.cells #[.bool false] 4)
  rwa [Uv]at this
 have b2:W0.heap[w.heap.size+1+1]?=some (.cells #[.string s] 9 (0,0)):=by
  rw[<-aM];refine (((Gr.refl (((w.alloc _).alloc _).alloc _)).alloc _).alloc _).block (by simp) |>.trans ?_;have:=U10 ((w.alloc (.cells #[.string bg,bb,.string ds] 205)).alloc (.cells #[.bool false] 4)) (.cells #[.string s] 9);exact J43
 have b3:W0.heap[w.heap.size+1+1+1]?=some (.cells #[.string ⟨#[95]⟩] 9 (0,0)):=by
  rw[<-aM];refine ((Gr.refl ((((w.alloc _).alloc _).alloc _).alloc _)).alloc _).block (by simp) |>.trans ?_;have:=U10 (((w.alloc (.cells #[.string bg,bb,.string ds] 205)).alloc (.cells #[.bool false] 4)).alloc (.cells #[.string s] 9)) (.cells #[.string ⟨#[95]⟩] 9);exact J43
 have b4:W0.heap[w.heap.size+1+1+1+1]?=some (.cells #[(0:Int)] 3 (0,0)):=by
  rw[<-aM];have:=U10 ((((w.alloc (.cells #[.string bg,bb,.string ds] 205)).alloc (.cells #[.bool false] 4)).alloc (.cells #[.string s] 9)).alloc (.cells #[.string ⟨#[95]⟩] 9)) (.cells #[(0:Int)] 3);exact J43
 rw[aM];clear aM;have OI:=U0 ha;have uS:=U0 b4;clear ha b4;refine O9t (C:=λ r=>r=w.heap.size+1+1+1\/r=w.heap.size+1+1\/r=w.heap.size+1+1+1+1) (by rintro r (rfl|rfl|rfl) <;> omega) rfl (by omega) (gf:=206) (lb:=#[.pointer (some ⟨w.heap.size+1+1+1,0,none⟩),.pointer (some ⟨w.heap.size+1+1,0,none⟩),.pointer (some ⟨w.heap.size+1+1+1+1,0,none⟩)]) rfl U2d (enters_of func206 (by kernel_rfl) rfl)
  (O9u 5 (by omega) (w.heap.size+1+1+1) (w.heap.size+1+1) (w.heap.size+1+1+1+1) s hs W0 (by omega) (by omega) b3 b2 uS.o) (λ _=>rfl)
  (λ pre W=>(∀p∈pre,O1g ds p.1)/\W.heap[w.heap.size]?=some (.cells #[.string bg,bb,.string ds] 205 (0,0))/\W.heap[w.heap.size+1]?=some (.cells #[.bool false] 4 (0,0))/\W0.heap.size<=W.heap.size/\Below w.heap.size w W)
  (λ c pre W=>c = .ret/\(∃p∈pre,¬O1g ds p.1)/\W.heap[w.heap.size+1]?=some (.cells #[.bool false] 4 (0,0))/\Below w.heap.size w W)
  (λ pre A B dP hs hg hr=>⟨hs.1,O2j (w:=w) hs.2.1 (by omega) (by omega) hg hr,O2j (w:=w) hs.2.2.1 (by omega) (by omega) hg hr,Uj hs.2.2.2.1 hg.size,O37 (by rintro r (rfl|rfl|rfl) <;> omega) (by omega) hs.2.2.2.2 hg hr⟩)
  (λ c pre A B dP hs hg hr=>⟨hs.1,hs.2.1,O2j (w:=w) hs.2.2.1 (by omega) (by omega) hg hr,O37 (by rintro r (rfl|rfl|rfl) <;> omega) (by omega) hs.2.2.2 hg hr⟩)
  ⟨λ p hp=>(by cases hp),b0,b1,U2 _,eR⟩
  (λ x:V4z s.size=>{ tmps:=#[V3p bg bb ds,.string s,.pointer (some ⟨w.heap.size,0,none⟩),undef,.pointer (some ⟨w.heap.size+1,0,none⟩),.string x.1,.string s,.func (.func 206) #[] #[.pointer (some ⟨w.heap.size+1+1+1,0,none⟩),.pointer (some ⟨w.heap.size+1+1,0,none⟩),.pointer (some ⟨w.heap.size+1+1+1+1,0,none⟩)],.string x.1,undef,undef,undef,undef,undef,undef,undef,undef,undef],defers:=[] }) ?assign ?body ?done ?stop
 case assign =>
  intro l x W K hK
  gi_wp2
  exact hK
 case body =>
  rintro l pre ⟨x,nX⟩ W ⟨cT,jo,bA,Bl,hB⟩ ao;dsimp only;have kd:W.cell? ⟨w.heap.size,2,none⟩=some (.string ds):=by rw[cell_of_block jo];rfl
  have kr:W.cell? ⟨w.heap.size+1,0,none⟩=some (.bool false):=by rw[cell_of_block bA];rfl
  have kf:W.frozen? ⟨w.heap.size+1,0,none⟩=false:=unfrozen_of_block bA 0;by_cases hx:x.toList=[]
  have gm:¬O1g ds x:=λ h=>h.1 hx
  have HB:=U0 gm;obtain rfl:x=⟨#[]⟩:=by
   apply U1y;apply U21.1;rw[<-Uz];exact hx
  clear gm hx
  gi_wp2_with fail
  refine⟨U2d,?_⟩
  gi_wp2_with fail
  refine⟨KeepsOthers.setCell _ _ _,rfl,⟨(⟨⟨#[]⟩,nX⟩:V4z s.size),by simp,HB.o⟩,?_,hB.setCell (p:=⟨w.heap.size+1,0,none⟩) (by simp) _⟩;have:=block_setCell (i:=0) bA (.bool false);exact J15
  have he:x.toList.isEmpty=false:=by simpa using hx
  have zT:x.size<=20000000:=by omega
  obtain⟨b,hb⟩:=ExZ (((bs x).all λ c=>(bs ds).contains c))
  have HT:=U0 (Obp x ds zT kz OI.o b hb);have HX:=U0 hx;have zU:=U0 hb;clear hb hx;cases b with
  |true =>
   have Bm:O1g ds x:=⟨HX.o,zU.o⟩
   have HG:Hid (∀p∈pre++[(⟨x,nX⟩:V4z s.size)],O1g ds p.1):=λ p hp=>by
    rcases U1t.1 hp with hp|hp
    exact cT p hp
    rw[U13]at hp;rw[hp];exact Bm
   clear Bm cT
   gi_wp2_with (refine⟨U2d,?_⟩;gi_at_call 167;refine (CallsIn.inRound l (U2x.2 (HT.o _))).mono ?_;rintro e w1 ⟨⟨t,rfl,t1,t2,t3⟩,g1⟩;have t4:=t2 rfl;clear t2 t3)
   refine⟨KeepsOthers.of_gr g1,λ r hr=>g1.block (by rcases hr with rfl|rfl|rfl <;> omega),HG.o,(g1.block (by omega)).trans jo,(g1.block (by omega)).trans bA,Uj Bl g1.size,hB.trans (Below.mono g1 hB.size)⟩
  |false =>
   have HB:Hid (¬O1g ds x):=λ h=>by have:=h.2;rw[zU.o]at this;cases this
   clear cT
   gi_wp2_with (refine⟨U2d,?_⟩;gi_at_call 167;refine (CallsIn.inRound l (U2x.2 (HT.o _))).mono ?_;rintro e w1 ⟨⟨t,rfl,t1,t2,t3⟩,g1⟩;have t4:=t3 rfl;clear t2 t3;have OJ:w1.cell? ⟨w.heap.size+1,0,none⟩=some (.bool false):=(g1.use.1 _ _ (by omega)).trans kr;have OK:w1.frozen? ⟨w.heap.size+1,0,none⟩=false:=(g1.use.2.1 _ _ (by omega)).trans kf)
   refine⟨(KeepsOthers.of_gr g1).trans (KeepsOthers.setCell _ _ _),rfl,⟨(⟨x,nX⟩:V4z s.size),by simp,HB.o⟩,?_,(hB.trans (Below.mono g1 hB.size)).setCell (p:=⟨w.heap.size+1,0,none⟩) (by simp) _⟩;have:=block_setCell (i:=0) ((g1.block (by omega)).trans bA) (.bool false);exact J15
 case done =>
  rintro D ys W hD Bn ⟨cT,jo,bA,Bl,hB⟩ hK;have db:Vx (bs ds).contains (bs s)=true:=(O9v ds s ys Bn).2 cT;have kr:W.cell? ⟨w.heap.size+1,0,none⟩=some (.bool false):=by rw[cell_of_block bA];rfl
  have kf:W.frozen? ⟨w.heap.size+1,0,none⟩=false:=unfrozen_of_block bA 0;have HV:=U0 db;clear cT db Bn
  gi_wp2
  have xp:=(KeepsOthers.setCell W ⟨w.heap.size+1,0,none⟩ (.bool true)).same D _ hK rfl;refine⟨by simp,.inl ⟨_,_,rfl,run_takeDeferred xp,?_⟩⟩;have sb:=cell_kept (U1u W ⟨w.heap.size+1,0,none⟩ (.bool true) (by rw[kr];rfl)) (grownBy_putObj' _ D (.deferred none)) (λ r e=>by cases e;exact⟨_,xp,rfl⟩);refine⟨.bool true,?_,by rw[HV.o],(hB.setCell (p:=⟨w.heap.size+1,0,none⟩) (by simp) _).trans (belowK_b (w:=w) (U2 _) _ D _ _ (by omega) xp rfl rfl)⟩;simp[results,f133,go_sem,sb]
 case stop =>
  rintro D c pre W hD ⟨xd,pA⟩ ⟨rfl,⟨p,hp,gm⟩,bA,hB⟩ hK;have db:Vx (bs ds).contains (bs s)=false:=O9w ds s pre xd pA p hp gm;have kr:W.cell? ⟨w.heap.size+1,0,none⟩=some (.bool false):=by rw[cell_of_block bA];rfl
  have HV:=U0 db;clear gm db pA hp
  gi_wp2
  refine Z175 ?_;intro sb;simp[results,f133,go_sem,sb]
theorem Obk(x:Nat)(h:x<128)(w:World) :
    Calls prog 96 #[.string pmD,.int .i32 x] w λ e w'=>e = .returned (.bool (x==43 || x==45 || x==95 || x==46))/\Gr w w':=by
 refine (strings_ContainsRune_ascii pmD x w (by omega) (by omega)).mono ?_;refine Z48 ?_;refine⟨?_,Gr.refl _⟩;have:∀x:Fin 128,decide (0<=Lib.indexByte pmD.data.toList ((x.val:Int)).toNat.toUInt8)=(x.val==43 || x.val==45 || x.val==95 || x.val==46):=by decide
 rw[this ⟨x,h⟩]
theorem Obl(x:Nat)(h:x<=1114111)(w:World) :
    Calls prog 96 #[.string pmD,.int .i32 x] w λ e w'=>e = .returned (.bool (x==43 || x==45 || x==95 || x==46))/\Gr w w':=by
 by_cases h1:x<128;exact Obk x h1 w
 refine (Oap x (by omega) (by omega) w).mono ?_;rintro e w' ⟨rfl,g⟩;refine⟨?_,g⟩;have a:(x==43)=false:=by simp;omega
 have b:(x==45)=false:=by simp;omega
 have c:(x==95)=false:=by simp;omega
 have d:(x==46)=false:=by simp;omega
 rw[a,b,c,d];rfl
theorem Olw(x:Nat)(h:x<=1114111)(w:World) :
    Calls prog 72 #[.int .i32 x] w λ e w'=>e = .returned (.bool (V3e x))/\Gr w w':=by
 have HC:=U0 (Obl x h);clear h;go_enter func72,ntmps72;go_wp2_with (go_at_call 96;refine (HC.o _).mono ?_;rintro e w1 ⟨rfl,g1⟩)
 all_goals go_ret
 all_goals (refine⟨O3g ?_,by first|assumption|exact Gr.refl _⟩;rw[U2f];simp[V3e];try omega)
theorem Ogq(w:World):PredGrows prog 72 #[] V3e w:=by
 intro W x hx _;exact Olw x hx W
theorem Ojc(s:ByteArray):∀f aq,aq<=s.size->s.size-aq<=f ->
    Lib.idxFuncFrom V3e false s f aq=if aq+(V3f ((bs s).drop aq)).length<s.size then ((aq+(V3f ((bs s).drop aq)).length:Nat):Int) else -1:=by
 intro f
 induction f with
 |zero =>
  exact J28
 |succ f ih =>
  intro aq h1 h2;rw[Lib.idxFuncFrom];by_cases hp:aq<s.size
  rw[Ua hp];have hl:aq<(bs s).length:=by rw[O0];exact hp
  have cI:(bs s)[aq]'hl=s[aq]'hp:=rfl;by_cases aB:(s[aq]'hp).toNat<128
  rw[O7w s aq hp aB];cases hc:V3e (s[aq]'hp).toNat with
  |false =>
   simp only[hc,U1j];have:V3f ((bs s).drop aq)=[]:=by
    unfold V3f;rw[Uw hl,Uo,Ud];rw[cI];simp[V39,hc]
   rw[this,Ua (by simpa using hp)];simp
  |true =>
   rw[Ud (by simp[hc]),ih (aq+1) (by omega) (by omega)];unfold V3f;rw[O90 V39 (bs s) aq hl (by rw[cI];simp[V39,hc])]
  have hd:=decode_high s aq hp (by omega);have hn:V3e (Utf8.decode s aq).1=false:=by simp[V3e];omega
  rw[hn,Ua rfl];have:V3f ((bs s).drop aq)=[]:=by
   unfold V3f;rw[Uw hl,Uo,Ud];rw[cI];simp[V39,V3e];omega
  rw[this,Ua (by simpa using hp)];simp
  rw[Ud hp,Ud (by omega)]
theorem Ogr(l:List UInt8):(V3f l).length<=l.length:=by
 exact (List.takeWhile_sublist V39).length_le
theorem Ogs(s:ByteArray)(w:World) :
    Calls prog 71 #[.string s,.func (.func 72) #[] #[]] w λ e w'=>e = .returned (.string (s.extract (V3f (bs s)).length s.size))/\Gr w w':=by
 refine (Any.strings_TrimLeftFunc_grows lays272 72 #[] (enters_of func72 (by kernel_rfl) rfl) V3e s w (Ogq w)).mono ?_;rintro e w' ⟨rfl,hb⟩;refine⟨?_,hb⟩;have h1:=Ojc s s.size 0 (by omega) (by omega);have hl:=Ogr (bs s);rw[O0]at hl;unfold Lib.trimLeftF;rw[show Lib.idxFunc V3e false s=Lib.idxFuncFrom V3e false s s.size 0 from rfl,h1];simp only[U1l,Uu];by_cases h2:(V3f (bs s)).length<s.size;rw[Ua h2,Ud (by omega)];simp
 rw[Ud h2,Ua rfl];congr 2;apply U1y;simp;omega
abbrev Op(bg:ByteArray)(bb:Nat)(ds:ByteArray)(b:Nat)(w:World):Prop:=(w.cell? ⟨b,0,none⟩=some (.string bg)/\w.cell? ⟨b,1,none⟩=some (.int .i64 bb)/\w.cell? ⟨b,2,none⟩=some (.string ds))/\b<w.heap.size
theorem Op.gr{bg bb ds}{b:Nat}{w w':World}(h:Op bg bb ds b w)(g:Gr w w'):Op bg bb ds b w':=by
 obtain⟨⟨h0,h1,h2⟩,hl⟩:=h;have hc:=g.use.1;exact⟨⟨(hc _ _ hl).trans h0,(hc _ _ hl).trans h1,(hc _ _ hl).trans h2⟩,U4 hl g.size⟩
def Ol(X:V2x Pl.Bs)(e:Ending):Prop:=match X with
 |.ok x=>e = .returned (.tuple #[.string ⟨x.toArray⟩,(0:Int)])
 |.bad c _=>e = .returned (.tuple #[.string ⟨#[]⟩,c])
def V6u(Y:Lib.NumEnd Int):V2x Pl.Bs:=match Y with
 |.ok v => .ok (Lib.itoa v)
 |.range => .bad 8 0
 |Lib.NumEnd.syntax => .bad 3 0
theorem O1l{X:V2x Pl.Bs}{c:Nat}(h:X = .bad c 0):Ol X (.returned (.tuple #[.string ⟨#[]⟩,c])):=by rw[h];rfl
theorem Om6{X:V2x Pl.Bs}{v:Int}(h:X=V6u (.ok v)):Ol X (.returned (.tuple #[.string ⟨(Lib.itoa v).toArray⟩,(0:Int)])):=by rw[h];rfl
theorem Ogy(bg:ByteArray)(bb:Nat)(ds:ByteArray)(s:ByteArray)(hs:s.size<=20000000)(jm:O1h (bs s)=V3p bg bb ds)(OL:bg.size<=s.size)(q:∀W,(Go.binOp .eql 205 (V3p bg bb ds) O2g).run prog W = .ok (.bool false) W)
    (D:ByteArray)(hD:s.extract bg.size s.size=D)(r:Bool)(hr:∀w,Calls prog 133 #[V3p bg bb ds,.string D] w λ e w'=>e = .returned (.bool r)/\Gr w w')
    (L:ByteArray)(hL:L=⟨(Lib.replaceAll (bs D) [95] []).toArray⟩)(Y:Lib.NumEnd Int)(hY:r=true->Y≠Lib.NumEnd.syntax/\(∀v,Y = .ok v -> -9223372036854775808<=v/\v<=9223372036854775807)/\∀w ep,w.cell? ⟨1,0,none⟩=some (.iface 288 (.pointer (some ep)))->Calls prog 134 #[.string L,bb,(64:Int)] w (O1c ep w Y))(w:World)(hw:V3z w) :
    Calls prog 99 #[.string s] w λ e w'=>Ol (if r=false then .bad 3 0 else V6u Y) e/\Gr w w':=by
 have HW:=U0 hw;have oJ:=U0 jm;have HR:=U0 hr;have HL:=U0 hL;have pB:D.size<=20000000:=by rw[<-hD];simp;omega
 refine Z182 ?_;intro uA;have bA:(bg.size:Int)<=(s.size:Int):=by omega
 obtain⟨T,hT⟩:∃T,T=L:=⟨_,rfl⟩
 have sP:(⟨#[]⟩:ByteArray)++L=T:=by rw[hT];apply U1y;simp[U1n]
 rw[<-hT]at hY;have fd:¬ 9223372036854775807<L.size:=by omega
 have mK:¬ 9223372036854775807<(0+L.size):=by omega
 have aA:(0:Int)<=(bg.size:Int):=by omega
 have HY:=U0 hY;clear hw jm hr hY hL hT;go_enter func99,ntmps99;go_wp2_with (go_at_call 131;refine (O2w s _ ((HW.o.gr Gr.auto).rad)).mono ?_;rw[oJ.o];rintro e w1 ⟨rfl,g1⟩);refine Z148 ?_;intro W0 aM;have ek:Op bg bb ds w1.heap.size W0:=by rw[<-aM];exact⟨⟨by simp,by simp,by simp⟩,by simp⟩
 have eR:Gr w W0:=by rw[<-aM];exact g1.alloc _
 rw[aM];clear aM g1;obtain⟨⟨c0,c1,c2⟩,aa⟩:=ek
 go_quiet (fail)
 have nT:Gr w (W0.drewN nq):=eR.drewN _;go_wp2_with fail;refine Z15 ?_;intro bi w2 g2 cm;refine Reg.sk 4 ?_;refine Reg.sk 5 ?_;refine Reg.ty 6 ?_;refine Reg.ty 7 ?_;refine Z45 ?_;refine Reg.ty 16 ?_;refine Z12 ?_;have bC:Gr w w2:=nT.drew.trans g2;clear g2 eR nT c0 c1 c2 aa bi;obtain⟨⟨c0,c1,c2⟩,aa⟩:=cm;go_wp2_with fail;refine Z314 ?_;intro bj w3 g3 aD;cases r with
 |false =>
  refine Z21 ?_;refine Z12 ?_;have dh:Gr w w3:=bC.drew.trans g3;clear g3;go_wp2_with fail;exact U1 (v := .tuple #[.string ⟨#[]⟩,(3:Int)]) (by simp[results,results99,go_sem]) rfl ⟨rfl,dh⟩
 |true =>
  refine Z42 ?_;refine Z308 ?_;intro w4 g4 ce;refine Z34 ?_;refine Reg.ty 7 ?_;refine Reg.ty 8 ?_;refine Reg.sk 9 ?_;refine Reg.sk 10 ?_;refine Reg.sk 11 ?_;refine Reg.ty 12 ?_;refine Reg.ty 13 ?_;refine Z91 ?_;refine Z100 ?_;refine Z12 ?_;have du:Gr w w4:=(bC.drew.trans g3).trans g4;clear g3 g4 bC c0 c1 c2 aa bj aD;obtain⟨⟨c0,c1,c2⟩,aa⟩:=ce;go_wp2_with fail;obtain⟨bH,lT,lU⟩:=HY.o (by simp);cases Y with
  |ok v =>
   obtain⟨nG,lK⟩:=lT v rfl;have HP:Hid (∀W,V3z W->Calls prog 134 #[.string T,bb,(64:Int)] W λ e w'=>e = .returned (.tuple #[v,.nilIface])/\Gr W w'):=λ W hW=>by
    obtain⟨ep,he⟩:=hW.err;exact lU W ep he
   refine Z119 ?_;intro HV;clear lU lT bH HY nG lK
   go_region_held3 (Op bg bb ds w1.heap.size) (first|exact⟨⟨c0,c1,c2⟩,aa⟩|assumption|exact Op.gr (by assumption) (by assumption)|go_keep) (first|(go_at_call 135;refine (O1e D (by omega) _ (HW.o.gr Gr.auto)).mono ?_;rw[<-HL.o];rintro e w5 ⟨rfl,g5⟩)|(go_at_call 134;refine (HP.o _ (HW.o.gr Gr.auto)).mono ?_;rintro e w6 ⟨rfl,g6⟩))
   refine Z40 ?_;intro eN yY ep he HF;clear g5 g6 du;go_wp2_with (first|(go_at_call 136;refine (O6w _ _ _).mono ?_;rintro e w7 ⟨rfl,g7⟩)|(go_at_call 137;refine (HF.o _ (yY.gr Gr.auto)).mono ?_;rintro e w8 ⟨rfl,k8,NK,rfl⟩));exact U1 (v := .tuple #[.string ⟨(Lib.itoa v).toArray⟩,(0:Int)]) (by simp[results,results99,go_sem]) rfl ⟨by simp[Ol,V6u],(eN.trans g7).trans (O4b _ _ _)⟩
  |range =>
   have HP:Hid (∀W,V3z W->Calls prog 134 #[.string T,bb,(64:Int)] W λ e w'=>(∃(k:Int)(N:Nat)(ep:Addr),e = .returned (.tuple #[k,.iface 260 (.pointer (some ⟨N,0,none⟩))])/\w'.cell? ⟨N,2,none⟩=some (.iface 288 (.pointer (some ep)))/\w'.cell? ⟨1,0,none⟩=some (.iface 288 (.pointer (some ep))))/\Gr W w'):=λ W hW=>by
    obtain⟨ep,he⟩:=hW.err;refine (lU W ep he).mono ?_;rintro e w' ⟨⟨k,N,rfl,hN⟩,g⟩;exact⟨⟨k,N,ep,rfl,hN,(g.use.1 _ _ (Lib.lt_of_cell he)).trans he⟩,g⟩
   clear lU lT bH HY
   go_region_held3 (Op bg bb ds w1.heap.size) (first|exact⟨⟨c0,c1,c2⟩,aa⟩|assumption|exact Op.gr (by assumption) (by assumption)|go_keep) (first|(go_at_call 135;refine (O1e D (by omega) _ (HW.o.gr Gr.auto)).mono ?_;rw[<-HL.o];rintro e w5 ⟨rfl,g5⟩)|(go_at_call 134;refine (HP.o _ (HW.o.gr Gr.auto)).mono ?_;rintro e w6 ⟨⟨k,N,ep,rfl,hN,hE⟩,g6⟩))
   refine Z156 ?_;intro eN;clear g5 g6 du;go_wp2_with (go_at_call 136;refine (Obs N ep _ hN).mono ?_;rintro e w7 ⟨rfl,rfl⟩);exact U1 (v := .tuple #[.string ⟨#[]⟩,(8:Int)]) (by simp[results,results99,go_sem]) rfl ⟨by simp[Ol,V6u],eN⟩
  |_=>exact absurd rfl bH
theorem Of7(bg:ByteArray)(bb:Nat)(ds:ByteArray)(jq:bg=⟨#[]⟩)(cR:bb=10)(kz:ds=V31)(s:ByteArray)(hs:s.size<=20000000)(jm:O1h (bs s)=V3p bg bb ds)(h0:0<s.size)(hc:(s[0]'h0).toNat=43)(D S:ByteArray)(hD:s.extract 1 s.size=D)(hS:s.extract 0 1=S)(r:Bool)(hr:∀w,Calls prog 133 #[V3p bg bb ds,.string D] w λ e w'=>e = .returned (.bool r)/\Gr w w')
    (L:ByteArray)(hL:L=⟨(Lib.replaceAll (bs D) [95] []).toArray⟩)(T:ByteArray)(sP:S++L=T)(Y:Lib.NumEnd Int)(hY:r=true->Y≠Lib.NumEnd.syntax/\(∀v,Y = .ok v -> -9223372036854775808<=v/\v<=9223372036854775807)/\∀w ep,w.cell? ⟨1,0,none⟩=some (.iface 288 (.pointer (some ep)))->Calls prog 134 #[.string T,bb,(64:Int)] w (O1c ep w Y))
    (X:V2x Pl.Bs)(uw:r=false->X = .bad 3 0)(ux:1<D.size/\(bs D)[0]?=some 48->X = .bad 3 0)(uy:r=true->¬(1<D.size/\(bs D)[0]?=some 48)->X=V6u Y)(w:World)(hw:V3z w) :
    Calls prog 99 #[.string s] w λ e w'=>Ol X e/\Gr w w':=by
 refine Z122 ?_;intro HW oJ HR HY HL zh zi wJ;have pB:D.size<=20000000:=by rw[<-hD];simp;omega
 have Gn:S.size<=1:=by rw[<-hS];simp;omega
 have a8:¬s.toList=[]:=λ e=>by rw[Uz]at e;have h2:=O0 s;rw[show bs s=[] from e]at h2;simp at h2;omega
 refine Z198 ?_;intro eO zo fY;obtain⟨y1,y2⟩:=V1o (s[0]'h0).toNat 43 true (by simpa using hc);refine Z182 ?_;intro uA;have fd:¬ 9223372036854775807<L.size:=by omega
 have mK:¬ 9223372036854775807<(S.size+L.size):=by omega
 have q:∀W,(Go.binOp .eql 205 (V3p bg bb ds) O2g).run prog W = .ok (.bool true) W:=λ _=>by subst jq cR kz;kernel_rfl
 have bA:(bg.size:Int)<=(s.size:Int):=by rw[jq,show (⟨#[]⟩:ByteArray).size=0 from rfl];omega
 refine Z196 ?_;intro aA hB;clear jq cR kz;clear hw jm hr hY hL uw ux uy;go_enter func99,ntmps99;go_wp2_with (go_at_call 131;refine (O2w s _ ((HW.o.gr Gr.auto).rad)).mono ?_;rw[oJ.o];rintro e w1 ⟨rfl,g1⟩);refine Z148 ?_;intro W0 aM;have ek:Op bg bb ds w1.heap.size W0:=by rw[<-aM];exact⟨⟨by simp,by simp,by simp⟩,by simp⟩
 have eR:Gr w W0:=by rw[<-aM];exact g1.alloc _
 rw[aM];clear aM g1;obtain⟨⟨c0,c1,c2⟩,aa⟩:=ek
 go_quiet (fail)
 have nT:Gr w (W0.drewN nq):=eR.drewN _;go_wp2_with fail;refine Z15 ?_;intro bi w2 g2 cm;refine Z309 ?_;refine Reg.ty 7 ?_;refine Z46 ?_;refine Reg.ty 11 ?_;refine Reg.sk 12 ?_;refine Reg.sk 13 ?_;refine Reg.sk 14 ?_;refine Reg.ty 15 ?_;refine Reg.ty 16 ?_;exact J192
theorem Of8(bg:ByteArray)(bb:Nat)(ds:ByteArray)(jq:bg=⟨#[]⟩)(cR:bb=10)(kz:ds=V31)(s:ByteArray)(hs:s.size<=20000000)(jm:O1h (bs s)=V3p bg bb ds)(h0:0<s.size)(hc:(s[0]'h0).toNat=45)(D S:ByteArray)(hD:s.extract 1 s.size=D)(hS:s.extract 0 1=S)(r:Bool)(hr:∀w,Calls prog 133 #[V3p bg bb ds,.string D] w λ e w'=>e = .returned (.bool r)/\Gr w w')
    (L:ByteArray)(hL:L=⟨(Lib.replaceAll (bs D) [95] []).toArray⟩)(T:ByteArray)(sP:S++L=T)(Y:Lib.NumEnd Int)(hY:r=true->Y≠Lib.NumEnd.syntax/\(∀v,Y = .ok v -> -9223372036854775808<=v/\v<=9223372036854775807)/\∀w ep,w.cell? ⟨1,0,none⟩=some (.iface 288 (.pointer (some ep)))->Calls prog 134 #[.string T,bb,(64:Int)] w (O1c ep w Y))
    (X:V2x Pl.Bs)(uw:r=false->X = .bad 3 0)(ux:1<D.size/\(bs D)[0]?=some 48->X = .bad 3 0)(uy:r=true->¬(1<D.size/\(bs D)[0]?=some 48)->X=V6u Y)(w:World)(hw:V3z w) :
    Calls prog 99 #[.string s] w λ e w'=>Ol X e/\Gr w w':=by
 refine Z122 ?_;intro HW oJ HR HY HL zh zi wJ;have pB:D.size<=20000000:=by rw[<-hD];simp;omega
 have Gn:S.size<=1:=by rw[<-hS];simp;omega
 have a8:¬s.toList=[]:=λ e=>by rw[Uz]at e;have h2:=O0 s;rw[show bs s=[] from e]at h2;simp at h2;omega
 refine Z198 ?_;intro eO zo fY;obtain⟨y1,y2⟩:=V1o (s[0]'h0).toNat 43 false (by simp;omega);obtain⟨y3,y4⟩:=V1o (s[0]'h0).toNat 45 true (by simpa using hc);refine Z182 ?_;intro uA;have fd:¬ 9223372036854775807<L.size:=by omega
 have mK:¬ 9223372036854775807<(S.size+L.size):=by omega
 have q:∀W,(Go.binOp .eql 205 (V3p bg bb ds) O2g).run prog W = .ok (.bool true) W:=λ _=>by subst jq cR kz;kernel_rfl
 have bA:(bg.size:Int)<=(s.size:Int):=by rw[jq,show (⟨#[]⟩:ByteArray).size=0 from rfl];omega
 refine Z196 ?_;intro aA hB;clear jq cR kz;clear hw jm hr hY hL uw ux uy;go_enter func99,ntmps99;go_wp2_with (go_at_call 131;refine (O2w s _ ((HW.o.gr Gr.auto).rad)).mono ?_;rw[oJ.o];rintro e w1 ⟨rfl,g1⟩);refine Z148 ?_;intro W0 aM;have ek:Op bg bb ds w1.heap.size W0:=by rw[<-aM];exact⟨⟨by simp,by simp,by simp⟩,by simp⟩
 have eR:Gr w W0:=by rw[<-aM];exact g1.alloc _
 rw[aM];clear aM g1;obtain⟨⟨c0,c1,c2⟩,aa⟩:=ek
 go_quiet (fail)
 have nT:Gr w (W0.drewN nq):=eR.drewN _;go_wp2_with fail;refine Z15 ?_;intro bi w2 g2 cm;refine Z309 ?_;refine Z19 ?_;exact J192
theorem Of9(bg:ByteArray)(bb:Nat)(ds:ByteArray)(jq:bg=⟨#[]⟩)(cR:bb=10)(kz:ds=V31)(s:ByteArray)(hs:s.size<=20000000)(jm:O1h (bs s)=V3p bg bb ds)(h0:0<s.size)(hc:(s[0]'h0).toNat≠43/\(s[0]'h0).toNat≠45)(r:Bool)(hr:∀w,Calls prog 133 #[V3p bg bb ds,.string s] w λ e w'=>e = .returned (.bool r)/\Gr w w')
    (L:ByteArray)(hL:L=⟨(Lib.replaceAll (bs s) [95] []).toArray⟩)(T:ByteArray)(sP:(⟨#[]⟩:ByteArray)++L=T)(Y:Lib.NumEnd Int)(hY:r=true->Y≠Lib.NumEnd.syntax/\(∀v,Y = .ok v -> -9223372036854775808<=v/\v<=9223372036854775807)/\∀w ep,w.cell? ⟨1,0,none⟩=some (.iface 288 (.pointer (some ep)))->Calls prog 134 #[.string T,bb,(64:Int)] w (O1c ep w Y))
    (X:V2x Pl.Bs)(uw:r=false->X = .bad 3 0)(ux:1<s.size/\(bs s)[0]?=some 48->X = .bad 3 0)(uy:r=true->¬(1<s.size/\(bs s)[0]?=some 48)->X=V6u Y)(w:World)(hw:V3z w) :
    Calls prog 99 #[.string s] w λ e w'=>Ol X e/\Gr w w':=by
 refine Z122 ?_;intro HW oJ HR HY HL zh zi wJ;have pB:=hs;have a8:¬s.toList=[]:=λ e=>by rw[Uz]at e;have h2:=O0 s;rw[show bs s=[] from e]at h2;simp at h2;omega
 refine Z198 ?_;intro eO zo fY;have y1:(((s[0]'h0).toNat:Int)==43)=false:=(V1o (s[0]'h0).toNat 43 false (by simpa using hc.1)).1;have y3:(((s[0]'h0).toNat:Int)==45)=false:=(V1o (s[0]'h0).toNat 45 false (by simpa using hc.2)).1;refine Z204 ?_;intro uA fd mK;have q:∀W,(Go.binOp .eql 205 (V3p bg bb ds) O2g).run prog W = .ok (.bool true) W:=λ _=>by subst jq cR kz;kernel_rfl
 have bA:(bg.size:Int)<=(s.size:Int):=by rw[jq,show (⟨#[]⟩:ByteArray).size=0 from rfl];omega
 refine Z196 ?_;intro aA hB;clear jq cR kz;clear hw jm hr hY hL uw ux uy;go_enter func99,ntmps99;go_wp2_with (go_at_call 131;refine (O2w s _ ((HW.o.gr Gr.auto).rad)).mono ?_;rw[oJ.o];rintro e w1 ⟨rfl,g1⟩);refine Z148 ?_;intro W0 aM;have ek:Op bg bb ds w1.heap.size W0:=by rw[<-aM];exact⟨⟨by simp,by simp,by simp⟩,by simp⟩
 have eR:Gr w W0:=by rw[<-aM];exact g1.alloc _
 rw[aM];clear aM g1;obtain⟨⟨c0,c1,c2⟩,aa⟩:=ek
 go_quiet (fail)
 have nT:Gr w (W0.drewN nq):=eR.drewN _;go_wp2_with fail;refine Z15 ?_;intro bi w2 g2 cm;refine Z309 ?_;refine Z19 ?_;refine Z12 ?_;have bC:Gr w w2:=nT.drew.trans g2;clear g2 eR nT c0 c1 c2 aa bi;obtain⟨⟨c0,c1,c2⟩,aa⟩:=cm;go_wp2_with fail;refine Z314 ?_;intro bj w3 g3 aD;cases r with
 |false =>
  refine Z21 ?_;refine Z12 ?_;have dh:Gr w w3:=bC.drew.trans g3;exact J125
 |true =>
  by_cases h1:1<s.size
  have e1:decide ((1:Int)<(s.size:Int))=true:=by simp;omega
  have H1:=U0 h1;have e0:0<s.size:=by omega
  have e2:(0:Int)<(s.size:Int):=by omega
  cases hz:((s[0]'e0).toNat==48) with
  |true =>
   obtain⟨z1,z2⟩:=V1o _ 48 _ hz;have HZ:Hid ((bs s)[0]?=some 48):=U0 (by
    have h2:=O8 s 0 e0;simp only[U1l]at h2;rw[h2];simp only[U1h,Uc,<-U1b]
    simpa using hz)
   clear hz;refine Z5 ?_;intro w4 g4 ce;refine Z74 ?_;refine Z100 ?_;refine Z12 ?_;have du:Gr w w4:=(bC.drew.trans g3).trans g4;exact J203
  |false =>
   obtain⟨z1,z2⟩:=V1o _ 48 _ hz;have B0:Hid (¬(1<s.size/\(bs s)[0]?=some 48)):=U0 (by
    rintro⟨_,h3⟩;have h2:=O8 s 0 e0;simp only[U1l]at h2;rw[h2]at h3;simp only[U1h,Uc]at h3;rw[h3]at hz;simp at hz)
   clear hz;refine Z5 ?_;intro w4 g4 ce;refine Z74 ?_;exact J102
  have e1:decide ((1:Int)<(s.size:Int))=false:=by simp;omega
  have B0:Hid (¬(1<s.size/\(bs s)[0]?=some 48)):=U0 (λ h3=>h1 h3.1);refine Z5 ?_;intro w4 g4 ce;refine Z91 ?_;exact J102
