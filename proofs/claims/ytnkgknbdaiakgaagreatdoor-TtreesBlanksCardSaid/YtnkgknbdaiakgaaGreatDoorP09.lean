/- The proof's part 09. -/
import Derived.Test.YtnkgknbdaiakgaaGreatDoorP05
import Derived.Shelf.RegionOpen
import Derived.Lib.SmallJoins
import Derived.Stop.Asserts
set_option maxHeartbeats 16000000
set_option linter.all false
set_option maxRecDepth 100000
namespace Go.Proofs.YtnkgknbdaiakgaaGreatDoor
open Pl Go.Proofs.Tryz Go.RowKit
theorem Oj(c b:UInt8)(l:List UInt8)(h:(c==b)=false)(k:Int)(hk:Lib.indexByte l b=k):Lib.indexByte (c::l) b=if k = -1 then -1 else k+1:=by
 unfold Lib.indexByte;rw[h,hk];simp only[U11,U1d,U1v]
theorem O_v(l:List UInt8)(b:UInt8):Lib.indexByte l b = -1\/∃i:Nat,Lib.indexByte l b=i:=by
 induction l with
 |nil=>exact .inl rfl
 |cons c l ih =>
  cases hc:(c==b) with
  |true=>exact .inr ⟨0,by unfold Lib.indexByte;rw[hc];rfl⟩
  |false =>
   rcases ih with h|⟨i,h⟩
   rw[Oj c b l hc _ h];exact .inl rfl
   rw[Oj c b l hc _ h,Ud (by omega)];exact .inr ⟨i+1,by omega⟩
theorem Oam(l:List UInt8)(c:UInt8):decide (0<=Lib.indexByte l c)=l.contains c:=by
 induction l with
 |nil=>rfl
 |cons b l ih =>
  rw[List.contains_cons];cases hc:(b==c) with
  |true =>
   have:b=c:=by simpa using hc
   subst this;unfold Lib.indexByte;simp
  |false =>
   have h2:(c==b)=false:=by
    have:¬b=c:=by simpa using hc
    simpa using λ e=>this e.symm
   rw[h2,U3r,<-ih];rcases O_v l c with h|⟨i,h⟩
   rw[Oj b c l hc _ h,h];rfl
   rw[Oj b c l hc _ h,h,Ud (by omega)];simp;omega
theorem Oo(set:ByteArray)(c:UInt8)(b:Bool)(h:(bs set).contains c=b)(w:World) :
    Calls prog 85 #[.string set,.int .u8 c.toNat] w λ e w'=>(∃i:Int,e = .returned i/\decide (0<=i)=b)/\w=w':=by
 refine (strings_IndexByte _ _ w).mono ?_;refine Z48 ?_;refine⟨⟨Lib.indexByte (bs set) c,O2n (by congr 1;simp),?_⟩,rfl⟩;rw[Oam,h]
end Go.Proofs.YtnkgknbdaiakgaaGreatDoor
namespace Go.Proofs.YtnkgknbdaiakgaaGreatDoor
open Pl Go.Proofs.Tryz Go.RowKit Go.Shelf Go.Joins
attribute [local go_sem] Uy
abbrev V31:ByteArray:=⟨#[48,49,50,51,52,53,54,55,56,57]⟩
abbrev O2g:Value := .agg #[.string ⟨#[]⟩,(10:Int),.string V31]
theorem O92(w:World):Calls prog 132 #[] w λ e w'=>e = .returned O2g/\Gr w w':=by
 go_enter func132,ntmps132;go_wp2_with fail;exact U1 (v:=O2g) (by simp[results,results132,go_sem]) rfl ⟨rfl,Gr.auto⟩
def V56:Array Value:=#[.string ⟨#[48,120]⟩,(16:Int),.string ⟨#[48,49,50,51,52,53,54,55,56,57,97,98,99,100,101,102,65,66,67,68,69,70]⟩,.string ⟨#[48,111]⟩,(8:Int),.string ⟨#[48,49,50,51,52,53,54,55]⟩,.string ⟨#[48,98]⟩,(2:Int),.string ⟨#[48,49]⟩]
def V89(w:World):Prop:=∀j v,V56[j]?=some v->w.cell? ⟨6,j,none⟩=some v
def Oot(l:List UInt8):Prop:=Pl.pre l [48,120]=false/\Pl.pre l [48,111]=false/\Pl.pre l [48,98]=false
theorem Ok(s p:ByteArray)(b:Bool)(h:Pl.pre (bs s) (bs p)=b)(w:World) :
    Calls prog 56 #[.string s,.string p] w λ e w'=>e = .returned (.bool b)/\w=w':=by
 refine (strings_HasPrefix _ _ w).mono ?_;refine Z48 ?_;exact⟨by rw[O5i];exact O3g h,rfl⟩
theorem Oou(s:ByteArray)(hn:Oot (bs s))(w:World)(hr:V89 w) :
    Calls prog 131 #[.string s] w λ e w'=>e = .returned O2g/\Gr w w':=by
 have r0:w.cell? ⟨6,0,none⟩=some (.string ⟨#[48,120]⟩):=hr 0 _ rfl;have r1:w.cell? ⟨6,1,none⟩=some (.int .i64 16):=hr 1 _ rfl;have r2:w.cell? ⟨6,2,none⟩=some (.string ⟨#[48,49,50,51,52,53,54,55,56,57,97,98,99,100,101,102,65,66,67,68,69,70]⟩):=hr 2 _ rfl;have r3:w.cell? ⟨6,3,none⟩=some (.string ⟨#[48,111]⟩):=hr 3 _ rfl;have r4:w.cell? ⟨6,4,none⟩=some (.int .i64 8):=hr 4 _ rfl;have r5:w.cell? ⟨6,5,none⟩=some (.string ⟨#[48,49,50,51,52,53,54,55]⟩):=hr 5 _ rfl;have r6:w.cell? ⟨6,6,none⟩=some (.string ⟨#[48,98]⟩):=hr 6 _ rfl;have r7:w.cell? ⟨6,7,none⟩=some (.int .i64 2):=hr 7 _ rfl;have r8:w.cell? ⟨6,8,none⟩=some (.string ⟨#[48,49]⟩):=hr 8 _ rfl;have aa:6<w.heap.size:=Lib.lt_of_cell r0;have H1:=U0 hn.1;have H2:=U0 hn.2.1;have H3:=U0 hn.2.2;have i0:∀W,(Instr.index 229 (.agg V56) (0:Int)).run prog W = .ok (.agg #[.string ⟨#[48,120]⟩,(16:Int),.string ⟨#[48,49,50,51,52,53,54,55,56,57,97,98,99,100,101,102,65,66,67,68,69,70]⟩]) W:=λ _=>by kernel_rfl
 have i1:∀W,(Instr.index 229 (.agg V56) (1:Int)).run prog W = .ok (.agg #[.string ⟨#[48,111]⟩,(8:Int),.string ⟨#[48,49,50,51,52,53,54,55]⟩]) W:=λ _=>by kernel_rfl
 have i2:∀W,(Instr.index 229 (.agg V56) (2:Int)).run prog W = .ok (.agg #[.string ⟨#[48,98]⟩,(2:Int),.string ⟨#[48,49]⟩]) W:=λ _=>by kernel_rfl
 unfold V56 at i0 i1 i2;clear hn hr;go_enter func131,ntmps131;go_wp2_with fail
 go_loopw [6] (λ v wr=>∃k:Nat,v = .int .i64 k/\(k=0\/k=1\/k=2\/k=3)/\Gr (w.alloc (.cells #[.string ⟨#[]⟩,(0:Int),.string ⟨#[]⟩] 205)) wr) (λ v _=>3-(intOf v).toNat)
 case atStart=>exact⟨0,rfl,.inl rfl,Gr.refl _⟩
 case round =>
  obtain⟨k,rfl,hk,hg⟩:=hrel;obtain⟨hc,hf,hz⟩:=hg.use;rcases hk with rfl|rfl|rfl|rfl
  ·clear hc hf;go_wp2_with (go_at_call 56;refine (Ok s ⟨#[48,120]⟩ false H1.o _).mono ?_;rintro e w1 ⟨rfl,rfl⟩);exact J36
  ·clear hc hf;go_wp2_with (go_at_call 56;refine (Ok s ⟨#[48,111]⟩ false H2.o _).mono ?_;rintro e w1 ⟨rfl,rfl⟩)
   go_roundw
   case rel=>exact⟨2,rfl,.inr (.inr (.inl rfl)),hg.alloc _⟩
   case measure=>simp[intOf]
  ·clear hc hf;go_wp2_with (go_at_call 56;refine (Ok s ⟨#[48,98]⟩ false H3.o _).mono ?_;rintro e w1 ⟨rfl,rfl⟩)
   go_roundw
   case rel=>exact⟨3,rfl,.inr (.inr (.inr rfl)),hg.alloc _⟩
   case measure=>simp[intOf]
  have p0:wr.cell? ⟨w.heap.size,0,none⟩=some (.string ⟨#[]⟩):=(hc _ _ (by simp)).trans (by simp);have p1:wr.cell? ⟨w.heap.size,1,none⟩=some (.int .i64 0):=(hc _ _ (by simp)).trans (by simp);have p2:wr.cell? ⟨w.heap.size,2,none⟩=some (.string ⟨#[]⟩):=(hc _ _ (by simp)).trans (by simp);have pf:∀o,wr.frozen? ⟨w.heap.size,o,none⟩=false:=λ o=>(hf _ _ (by simp)).trans (by simp[go_sem])
  simp only[Uv]at hz;go_wp2_with (go_at_call 132;refine (O92 _).mono ?_;rintro e w2 ⟨rfl,g2⟩;obtain⟨aE,dt,aJ⟩:=g2.use;have q0:w2.cell? ⟨w.heap.size,0,none⟩=some (.string ⟨#[]⟩):=(aE _ _ (by omega)).trans p0;have q1:w2.cell? ⟨w.heap.size,1,none⟩=some (.int .i64 0):=(aE _ _ (by omega)).trans p1;have q2:w2.cell? ⟨w.heap.size,2,none⟩=some (.string ⟨#[]⟩):=(aE _ _ (by omega)).trans p2;have qf:∀o,w2.frozen? ⟨w.heap.size,o,none⟩=false:=λ o=>(dt _ _ (by omega)).trans (pf o);have eI:w.heap.size<w2.heap.size:=by omega);have cP:Gr w w2:=(((Gr.refl w).alloc _).trans hg).trans g2;exact U1 (v:=O2g) (by simp[results,results131,go_sem,q0,q1,q2,qf,eI]) rfl ⟨rfl,by (repeat refine Gr.setCell ?_ (U2 _) _);exact cP⟩
theorem Oe6(s:ByteArray)(w:World) :
    Calls prog 166 #[.string s,.string ⟨#[95]⟩] w λ e w'=>e = .returned (.func (.func 206) #[] #[.pointer (some ⟨w.heap.size+1,0,none⟩),.pointer (some ⟨w.heap.size,0,none⟩),.pointer (some ⟨w.heap.size+1+1,0,none⟩)]) /\
     w'=((w.alloc (.cells #[.string s] 9)).alloc (.cells #[.string ⟨#[95]⟩] 9)).alloc (.cells #[(0:Int)] 3):=by
 go_enter func166,ntmps166;exact J26
theorem KeepsOthers.of_gr{W W':World}(g:Gr W W'):KeepsOthers W W':=⟨g.size,λ k o hk _=>(g.block (U8.1 hk).1).trans hk⟩
def O2(c:UInt8):Bool:=decide (48<=c.toNat)&&decide (c.toNat<=57)
theorem O6w(t:TypeId)(v:Value)(w:World):Calls prog 136 #[.nilIface,.iface t v] w λ e w'=>e = .returned (.bool false)/\Gr w w':=by
 have q:∀W,(Go.binOp .eql 115 .nilIface (.iface t v)).run prog W = .ok (.bool false) W:=λ W=>run_eql_iface_nil_left W t v underlying115
 go_enter func136,ntmps136;exact J17
structure V3z(w:World):Prop where
 rad:V89 w
 max:∃m:Int,w.cell? ⟨3,0,none⟩=some (.int .i64 m)
 err:∃p,w.cell? ⟨1,0,none⟩=some (.iface 288 (.pointer (some p)))
 pow:Lib.TabIs prog w "internal/strconv.uint64pow10" .u64 Lib.pow10Tab
theorem V3z.gr{w w':World}(h:V3z w)(g:Gr w w'):V3z w':=by
 have hc:=g.use.1;have hl:∀{b o:Nat} {v},w.cell? ⟨b,o,none⟩=some v->b<w.heap.size:=λ e=>Lib.lt_of_cell e
 obtain⟨m,hm⟩:=h.max;obtain⟨p,he⟩:=h.err;refine⟨λ j v hj=>(hc _ _ (hl (h.rad j v hj))).trans (h.rad j v hj),⟨m,(hc _ _ (hl hm)).trans hm⟩,⟨p,(hc _ _ (hl he)).trans he⟩,?_⟩;have hp:=h.pow;have lc:prog.globalNamed "internal/strconv.uint64pow10" = some 2:=by kernel_rfl
 unfold Lib.TabIs World.var? at hp⊢;rw[lc]at hp⊢;simp only[Option.bind_some]at hp⊢;have aa:2<w.heap.size:=by
  exact J37
 rw[g.block aa];exact hp
theorem O1e(s:ByteArray)(hz:s.size<=20000000)(w:World)(hw:V3z w) :
    Calls prog 135 #[.string s,.string ⟨#[95]⟩,.string ⟨#[]⟩] w λ e w'=>e = .returned (.string ⟨(Lib.replaceAll (bs s) [95] []).toArray⟩)/\Gr w w':=by
 obtain⟨m,hm⟩:=hw.max;refine (strings_ReplaceAll s ⟨#[95]⟩ ⟨#[]⟩ m w (by omega) hm (by decide) (by rw[show (⟨#[]⟩:ByteArray).size=0 from rfl];omega)).mono ?_;rintro e w' ⟨rfl,hb⟩;exact⟨rfl,hb⟩
theorem O4b(w:World)(k:Nat)(os):Gr w (Sort.grow (w.drewN k) os):=by
 refine⟨rfl,rfl,rfl,by simp[Sort.grow,World.drewN],λ j hj=>?_⟩;simp[Sort.grow,World.drewN,Array.getElem?_append_left hj]
theorem Oj9(s:ByteArray)(hs:s.size<=20000000)(v:Int)(h:Lib.parseIntB 64 s.data.toList = .ok v)(w:World) :
    Calls prog 134 #[.string s,(10:Int),(64:Int)] w λ e w'=>e = .returned (.tuple #[v,.nilIface])/\Gr w w':=by
 refine (strconv_ParseInt_10_at64_ok s (by omega) v h w).mono ?_;rintro e w' ⟨rfl,h⟩;refine⟨rfl,?_⟩;rcases h with rfl|⟨t,rfl⟩
 exact Gr.refl _
 exact Lib.bytesWorld_below _ _ _
end Go.Proofs.YtnkgknbdaiakgaaGreatDoor
namespace Go.Proofs.YtnkgknbdaiakgaaGreatDoor
open Pl Go.Proofs.Tryz Go.RowKit Go.Extern.Stop Go.Stop Go.Extern
theorem Ojh(v:Value)(w:World):(Extern.ReflectliteType.typeOf #[.iface 288 v]).run prog w = .ok (.iface 264 (.agg #[.pointer (some ⟨16,288,none⟩)])) w:=by kernel_rfl
theorem Obq(w:World):((Extern.ReflectliteType.method λ t=>do Go.Extern.Rtype.noPackHeld "Comparable" t;pure (.bool (<-typeInfo t).comparable)) #[.agg #[.pointer (some ⟨16,288,none⟩)]]).run prog w = .ok (.bool true) w:=by kernel_rfl
theorem O5w(v:Value)(w:World):(Go.method 433 264 v "Comparable").run prog w = .ok (260,v) w:=by kernel_rfl
theorem Onv:(prog.info? 288).map (·.comparable)=some true:=by kernel_rfl
theorem Onw:(prog.info? 290).map (·.size)=some 1:=by kernel_rfl
theorem Oow(v:Value)(xT:TypeId)(w:World):(Instr.typeAssert (.iface 260 v) xT 266 true).run prog w = .ok (.tuple #[.nilIface,.bool false]) w:=run_typeAssert_lacksB underlying266 (by kernel_rfl) (by kernel_rfl) v xT w
theorem Of6(v:Value)(xT:TypeId)(w:World):(Instr.typeAssert (.iface 260 v) xT 269 true).run prog w = .ok (.tuple #[.iface 260 v,.bool true]) w:=run_typeAssert_hasB underlying269 (by kernel_rfl) v xT w
theorem Obr(v:Value)(w:World):(Go.method 433 260 v "Unwrap").run prog w = .ok (256,v) w:=by kernel_rfl
theorem Obs(pb:Nat)(b:Addr)(w:World)(h1:w.cell? ⟨pb,2,none⟩=some (.iface 288 (.pointer (some b)))) :
    Calls prog 136 #[.iface 260 (.pointer (some ⟨pb,0,none⟩)),.iface 288 (.pointer (some b))] w λ e w'=>e = .returned (.bool true)/\w'=w:=by
 obtain⟨i,hi,G8⟩:=Option.map_eq_some_iff.1 Onv;obtain⟨j,hj,G0⟩:=Option.map_eq_some_iff.1 Onw;have h8 := @run_callFunc_extern prog 171 _ Extern.ReflectliteType.typeOf func171 (by kernel_rfl) (by kernel_rfl) (by kernel_rfl) (by kernel_rfl);have xc := @run_callFunc_extern prog 260 _ (Extern.ReflectliteType.method λ t=>do Go.Extern.Rtype.noPackHeld "Comparable" t;pure (.bool (<-typeInfo t).comparable)) func260 (by kernel_rfl) (by kernel_rfl) (by kernel_rfl) (by kernel_rfl);have tT:=Ojh;have hC:∀w,(callFunc 260 #[.agg #[.pointer (some ⟨16,288,none⟩)]]).run prog w = .ok (.value (.bool true)) w:=λ w=>by rw[xc,Obq];rfl
 clear xc;have mR:=O5w;have nW:=Oow;have uW:=Of6;have mU:=Obr;have sE:=run_eql_iface_ptr_same (P:=prog) w b underlying115 underlying288 hi G8 hj;have Sn:=run_eql_iface_types (P:=prog) 260 288 (.pointer (some ⟨pb,0,none⟩)) (.pointer (some b)) underlying115 (by decide) w;go_enter func136,ntmps136
 go_wp2
 refine wp_loop_rounds 2 ?_;rw[rounds_succ]
 go_wp2
 rw[rounds_succ];exact J26
end Go.Proofs.YtnkgknbdaiakgaaGreatDoor
namespace Go.Proofs.YtnkgknbdaiakgaaGreatDoor
open Pl Go.Proofs.Tryz Go.RowKit Go.Shelf Go.Joins
attribute [local go_sem] Uy
abbrev pmD:ByteArray:=⟨#[43,45,95,46]⟩
def Of2(w:World)(b:Nat):Nat:=match w.heap[b]? with
 |some (.stringIter _ p)=>p
 |_=>0
theorem O34(w:World)(s:ByteArray)(k:Nat):Of2 (w.iter s k) w.heap.size=k:=by unfold Of2;rw[World.iter_heap]
theorem Olv(w:World)(s:ByteArray)(k:Nat):Gr w (w.iter s k):=(Gr.refl w).alloc _
theorem Oan(w:World) :
    Calls prog 124 #[.string pmD,.int .i32 65533] w λ e w'=>e = .returned (.int .i64 (-1))/\Gr w w':=by
 have n0:∀ty,(Instr.next (.pointer (some ⟨w.heap.size,0,none⟩)) true ty).run prog (w.iter pmD 0) = .ok (.tuple #[.bool true,(0:Int),.int .i32 43]) (w.iter pmD 1):=λ ty=>U3n w pmD 0 ty (by decide) (by decide)
 have n1:∀ty,(Instr.next (.pointer (some ⟨w.heap.size,0,none⟩)) true ty).run prog (w.iter pmD 1) = .ok (.tuple #[.bool true,(1:Int),.int .i32 45]) (w.iter pmD 2):=λ ty=>U3n w pmD 1 ty (by decide) (by decide)
 have n2:∀ty,(Instr.next (.pointer (some ⟨w.heap.size,0,none⟩)) true ty).run prog (w.iter pmD 2) = .ok (.tuple #[.bool true,(2:Int),.int .i32 95]) (w.iter pmD 3):=λ ty=>U3n w pmD 2 ty (by decide) (by decide)
 have n3:∀ty,(Instr.next (.pointer (some ⟨w.heap.size,0,none⟩)) true ty).run prog (w.iter pmD 3) = .ok (.tuple #[.bool true,(3:Int),.int .i32 46]) (w.iter pmD 4):=λ ty=>U3n w pmD 3 ty (by decide) (by decide)
 have n4:∀ty,(Instr.next (.pointer (some ⟨w.heap.size,0,none⟩)) true ty).run prog (w.iter pmD 4) = .ok (.tuple #[.bool false]) (w.iter pmD 4):=λ ty=>run_next_end w pmD 4 ty (by decide)
 go_enter func124,ntmps124;go_wp2_with fail
 go_loopw [5] (λ _ wr=>∃k:Nat,wr=w.iter pmD k/\(k=0\/k=1\/k=2\/k=3\/k=4)) (λ _ wr=>4-Of2 wr w.heap.size)
 case atStart=>exact⟨0,rfl,.inl rfl⟩
 case round =>
  obtain⟨k,rfl,hk⟩:=hrel;rcases hk with rfl|rfl|rfl|rfl|rfl
  ·go_wp2_with fail
   go_roundw
   case rel=>exact⟨1,rfl,by simp⟩
   case measure=>simp only[O34];omega
  ·go_wp2_with fail
   go_roundw
   case rel=>exact⟨2,rfl,by simp⟩
   case measure=>simp only[O34];omega
  ·go_wp2_with fail
   go_roundw
   case rel=>exact⟨3,rfl,by simp⟩
   case measure=>simp only[O34];omega
  ·go_wp2_with fail
   go_roundw
   case rel=>exact⟨4,rfl,by simp⟩
   case measure=>simp only[O34];omega
  go_wp2_with fail
  go_ret
  exact⟨rfl,Olv _ _ _⟩
theorem Ode(x:Int)(h:128<=x)(hx:(x==65533)=false)(hv:Lib.validRune x=false)(w:World) :
    Calls prog 124 #[.string pmD,.int .i32 x] w λ e w'=>e = .returned (.int .i64 (-1))/\Gr w w':=by
 have h1:decide (x<128)=false:=by simp;omega
 have h2:decide (0<=x)=true:=by simp;omega
 have HV:=U0 hv;clear hv;go_enter func124,ntmps124;go_wp2_with (go_at_call 155;refine (utf8_ValidRune x _).mono ?_;rw[HV.o];rintro e w' ⟨rfl,rfl⟩)
 go_ret
 exact⟨rfl,Gr.refl _⟩
theorem Oja(x:Int)(h:128<=x)(hx:x<=1114111):∃m:Nat,(m=1\/m=2\/m=3)/\∃hz:(Utf8.encode x).size=m+1,128<=((Utf8.encode x)[m]'(by omega)).toNat:=by
 have hb:∀n:Nat,128<=(UInt8.ofNat (128+n % 64)).toNat:=by intro n;simp;omega
 have key:∀c:Nat,¬c<128->∀u:ByteArray,u=(if c<0x80 then ⟨#[UInt8.ofNat c]⟩
     else if c<0x800 then ⟨#[UInt8.ofNat (0xC0+c / 64),UInt8.ofNat (0x80+c % 64)]⟩
     else if c<0x10000 then ⟨#[UInt8.ofNat (0xE0+c / 4096),UInt8.ofNat (0x80+c / 64 % 64),UInt8.ofNat (0x80+c % 64)]⟩
     else ⟨#[UInt8.ofNat (0xF0+c / 262144),UInt8.ofNat (0x80+c / 4096 % 64),UInt8.ofNat (0x80+c / 64 % 64),UInt8.ofNat (0x80+c % 64)]⟩) ->
     ∃m:Nat,(m=1\/m=2\/m=3)/\∃hz:u.size=m+1,128<=(u[m]'(by omega)).toNat:=by
  intro c NR u hu;rw[Ud NR]at hu
  split at hu;subst hu;exact⟨1,by simp,rfl,hb _⟩
  split at hu;subst hu;exact⟨2,by simp,rfl,hb _⟩
  subst hu;exact⟨3,by simp,rfl,hb _⟩
 refine key (if Utf8.valid x=true then x.toNat else Utf8.runeError) ?_ (Utf8.encode x) rfl
 split;omega
 simp[Utf8.runeError]
theorem Oe7(k j:Nat)(c:UInt8)(h:128<=c.toNat)(W:World) :
    Calls prog 85 #[.string (pmD.extract k j),.int .u8 (c.toNat:Int)] W λ e w'=>e = .returned (.int .i64 (-1))/\W=w':=by
 refine (strings_IndexByte _ _ W).mono ?_;refine Z48 ?_;refine⟨O2n ?_,rfl⟩;have hl:∀b∈(pmD.extract k j).data.toList,b.toNat<128:=by
  intro b hb;rw[ByteArray.data_extract,Array.toList_extract,List.extract_eq_take_drop]at hb;have h2:=List.mem_of_mem_drop (List.mem_of_mem_take hb);simp at h2;rcases h2 with rfl|rfl|rfl|rfl <;> decide
 generalize (pmD.extract k j).data.toList=l at hl;rw[Lib.byte_back]
 induction l with
 |nil=>rfl
 |cons b l ih =>
  unfold Lib.indexByte;have hb:=hl b (by simp);have a8:(b==c)=false:=by
   cases L3:b==c with
   |false=>rfl
   |true=>rw[U1v.1 L3]at hb;omega
  rw[a8,ih (λ x hx=>hl x (U15 _ hx))];rfl
theorem Ojb(c:UInt8)(W:World) :
    Calls prog 85 #[.string ByteArray.empty,.int .u8 (c.toNat:Int)] W λ e w'=>e = .returned (.int .i64 (-1))/\W=w':=by
 refine (strings_IndexByte _ _ W).mono ?_;refine Z48 ?_;exact J9
theorem Oao(x:Int)(h:128<=x)(hx:(x==65533)=false)(hv:Lib.validRune x=true)(hm:x<=1114111)(w:World) :
    Calls prog 124 #[.string pmD,.int .i32 x] w λ e w'=>e = .returned (.int .i64 (-1))/\Gr w w':=by
 have h1:decide (x<128)=false:=by simp;omega
 have h2:decide (0<=x)=true:=by simp;omega
 have HV:=U0 hv;obtain⟨m,sI,hz,hl⟩:=Oja x h hm;obtain⟨c,hc⟩:=ExZ ((Utf8.encode x)[m]'(by omega))
 rw[hc]at hl;obtain⟨u,hu⟩:=ExZ (Utf8.encode x)
 have w2:IntKind.i64.wrap 2=2:=by decide
 have w3:IntKind.i64.wrap 3=3:=by decide
 have w4:IntKind.i64.wrap 4=4:=by decide
 rcases sI with rfl|rfl|rfl
 ·clear hv;simp only[hu]at hz hc;have L4:u[1].toNat=c.toNat:=by rw[hc]
  go_enter func124,ntmps124;go_wp2_with (go_at_call 155;refine (utf8_ValidRune x _).mono ?_;rw[HV.o];rintro e w' ⟨rfl,rfl⟩)
  go_step3
  go_wp2_with fail;have hA:Hid (pmD.size=4):=rfl;have b1:(((pmD[1]'(by decide)).toNat:Int) != (c.toNat:Int))=true:=by
   have:(pmD[1]'(by decide)).toNat=45:=rfl;rw[this];simp;omega
  go_loopw [9] (λ v wr=>v = .int .i64 1/\wr=w') (λ _ _=>0)
  case atStart=>exact⟨rfl,rfl⟩
  case round =>
   exact J128
 ·clear hv;simp only[hu]at hz hc;have L4:u[2].toNat=c.toNat:=by rw[hc]
  go_enter func124,ntmps124;go_wp2_with (go_at_call 155;refine (utf8_ValidRune x _).mono ?_;rw[HV.o];rintro e w' ⟨rfl,rfl⟩)
  go_step3
  go_wp2_with fail;have hA:Hid (pmD.size=4):=rfl;have b1:(((pmD[2]'(by decide)).toNat:Int) != (c.toNat:Int))=true:=by
   have:(pmD[2]'(by decide)).toNat=95:=rfl;rw[this];simp;omega
  go_loopw [9] (λ v wr=>v = .int .i64 2/\wr=w') (λ _ _=>0)
  case atStart=>exact⟨rfl,rfl⟩
  case round =>
   exact J128
 clear hv;simp only[hu]at hz hc;have L4:u[3].toNat=c.toNat:=by rw[hc]
 go_enter func124,ntmps124;go_wp2_with (go_at_call 155;refine (utf8_ValidRune x _).mono ?_;rw[HV.o];rintro e w' ⟨rfl,rfl⟩)
 go_step3
 go_wp2_with fail;have hA:Hid (pmD.size=4):=rfl;have b1:(((pmD[3]'(by decide)).toNat:Int) != (c.toNat:Int))=true:=by
  have:(pmD[3]'(by decide)).toNat=46:=rfl;rw[this];simp;omega
 go_loopw [9] (λ v wr=>v = .int .i64 3/\wr=w') (λ _ _=>0)
 case atStart=>exact⟨rfl,rfl⟩
 case round =>
  obtain⟨rfl,rfl⟩:=hrel;go_wp2_with fail
  go_step3
  go_wp2_with fail
  go_quiet (fail)
  go_wp2_with fail
  go_quiet ((go_at_call 85;exact O32 (Ojb c _) ⟨_,rfl⟩))
  exact J202
theorem Obi(x:Int)(h:128<=x)(hm:x<=1114111)(w:World) :
    Calls prog 124 #[.string pmD,.int .i32 x] w λ e w'=>e = .returned (.int .i64 (-1))/\Gr w w':=by
 by_cases h1:x=65533;subst h1;exact Oan w
 have h2:(x==65533)=false:=by simp[h1]
 cases hv:Lib.validRune x with
 |false=>exact Ode x h h2 hv w
 |true=>exact Oao x h h2 hv hm w
theorem Oap(x:Int)(h:128<=x)(hm:x<=1114111)(w:World) :
    Calls prog 96 #[.string pmD,.int .i32 x] w λ e w'=>e = .returned (.bool false)/\Gr w w':=by
 go_enter func96,ntmps96;go_wp2_with (go_at_call 124;refine (Obi x h hm _).mono ?_;rintro e w1 ⟨rfl,g1⟩)
 go_ret
 exact⟨rfl,g1⟩
