/- The proof's part 09. -/
import Derived.Test.YtnkgknbdaiakgaaGreatDoorQ05
import Derived.Shelf.RegionOpen
import Derived.Lib.SmallJoins
import Derived.Stop.Asserts
set_option maxHeartbeats 16000000
set_option linter.all false
set_option maxRecDepth 100000
namespace Go.Proofs.YtnkgknbdaiakgaaGreatDoor
section
open Pl Go.Proofs.Tryz Go.RowKit
theorem Ol(c b:UInt8)(l:List UInt8)(h:(c==b)=false)(k:Int)(hk:Lib.indexByte l b=k):Lib.indexByte (c::l) b=if k = -1 then -1 else k+1:=by
 unfold Lib.indexByte;rw[h,hk];simp only[U23,U2f,U2z]
theorem Oz(l:List UInt8)(b:UInt8):Lib.indexByte l b = -1\/∃i:Nat,Lib.indexByte l b=i:=by
 induction l with
 |nil=>exact .inl rfl
 |cons c l ih =>
  cases hc:(c==b) with
  |true=>exact .inr ⟨0,by unfold Lib.indexByte;rw[hc];rfl⟩
  |false =>
   rcases ih with h|⟨i,h⟩
   rw[Ol c b l hc _ h];exact .inl rfl
   rw[Ol c b l hc _ h,U1c Ya];exact .inr ⟨i+1,Ya⟩
theorem Oa8(l:List UInt8)(c:UInt8):decide (0<=Lib.indexByte l c)=l.contains c:=by
 induction l with
 |nil=>rfl
 |cons b l ih =>
  rw[List.contains_cons];cases hc:(b==c) with
  |true =>
   have:b=c:=by simpa using hc
   subst this;unfold Lib.indexByte;simp
  |false =>
   have h2:(c==b)=false:=by
    have:¬b=c:=by simpa using hc
    simpa using λ e=>this e.symm
   rw[h2,U4p,<-ih];rcases Oz l c with h|⟨i,h⟩
   rw[Ol b c l hc _ h,h];rfl
   rw[Ol b c l hc _ h,h,U1c Ya];simp;omega
theorem O_s(set:ByteArray)(c:UInt8)(b:Bool)(h:(bs set).contains c=b)(w:World):Calls prog 85 #[.string set,.int .u8 c.toNat] w λ e w'=>(∃i:Int,e=.returned i/\decide (0<=i)=b)/\w=w':=by
 refine (strings_IndexByte _ _ w).mono ?_;refine Z48 ?_;refine⟨⟨Lib.indexByte (bs set) c,O2q (by congr 1;simp),?_⟩,rfl⟩;rw[Oa8,h]
end
section
open Pl Go.Proofs.Tryz Go.RowKit Go.Shelf Go.Joins
attribute [local go_sem] U22
abbrev V2y:ByteArray:=⟨#[48,49,50,51,52,53,54,55,56,57]⟩
abbrev O2g:Value := .agg #[.string ⟨#[]⟩,(10:Int),.string V2y]
theorem O8o(w:World):Calls prog 132 #[] w λ e w'=>e=.returned O2g/\Gr w w':=by
 go_enter func132,ntmps132;go_wp2_with fail;exact U11 (v:=O2g) (by simp[results,results132,go_sem]) rfl ⟨rfl,Gr.auto⟩
def V50:Array Value:=#[.string ⟨#[48,120]⟩,(16:Int),.string ⟨#[48,49,50,51,52,53,54,55,56,57,97,98,99,100,101,102,65,66,67,68,69,70]⟩,.string ⟨#[48,111]⟩,(8:Int),.string ⟨#[48,49,50,51,52,53,54,55]⟩,.string ⟨#[48,98]⟩,(2:Int),.string ⟨#[48,49]⟩]
def V8b(w:World):Prop:=∀j v,V50[j]?=some v->w.cell? ⟨6,j,none⟩=some v
def Op0(l:List UInt8):Prop:=Pl.pre l [48,120]=false/\Pl.pre l [48,111]=false/\Pl.pre l [48,98]=false
theorem Om(s p:ByteArray)(b:Bool)(h:Pl.pre (bs s) (bs p)=b)(w:World):Calls prog 56 #[.string s,.string p] w λ e w'=>e=.returned (.bool b)/\w=w':=by
 refine (strings_HasPrefix _ _ w).mono ?_;refine Z48 ?_;exact⟨by rw[O5c];exact O3l h,rfl⟩
theorem Op1(s:ByteArray)(hn:Op0 (bs s))(w:World)(hr:V8b w):Calls prog 131 #[.string s] w λ e w'=>e=.returned O2g/\Gr w w':=by
 have r0:w.cell? ⟨6,0,none⟩=some (.string ⟨#[48,120]⟩):=hr 0 _ rfl;have r1:w.cell? ⟨6,1,none⟩=some (.int .i64 16):=hr 1 _ rfl;have r2:w.cell? ⟨6,2,none⟩=some (.string ⟨#[48,49,50,51,52,53,54,55,56,57,97,98,99,100,101,102,65,66,67,68,69,70]⟩):=hr 2 _ rfl;have r3:w.cell? ⟨6,3,none⟩=some (.string ⟨#[48,111]⟩):=hr 3 _ rfl;have r4:w.cell? ⟨6,4,none⟩=some (.int .i64 8):=hr 4 _ rfl;have r5:w.cell? ⟨6,5,none⟩=some (.string ⟨#[48,49,50,51,52,53,54,55]⟩):=hr 5 _ rfl;have r6:w.cell? ⟨6,6,none⟩=some (.string ⟨#[48,98]⟩):=hr 6 _ rfl;have r7:w.cell? ⟨6,7,none⟩=some (.int .i64 2):=hr 7 _ rfl;have r8:w.cell? ⟨6,8,none⟩=some (.string ⟨#[48,49]⟩):=hr 8 _ rfl;have a9:6<w.heap.size:=Lib.lt_of_cell r0;have H1:=U10 hn.1;have H2:=U10 hn.2.1;have H3:=U10 hn.2.2;have i0:∀W,(Instr.index 229 (.agg V50) (0:Int)).run prog W=.ok (.agg #[.string ⟨#[48,120]⟩,(16:Int),.string ⟨#[48,49,50,51,52,53,54,55,56,57,97,98,99,100,101,102,65,66,67,68,69,70]⟩]) W:=λ _=>by kernel_rfl
 have i1:∀W,(Instr.index 229 (.agg V50) (1:Int)).run prog W=.ok (.agg #[.string ⟨#[48,111]⟩,(8:Int),.string ⟨#[48,49,50,51,52,53,54,55]⟩]) W:=λ _=>by kernel_rfl
 have i2:∀W,(Instr.index 229 (.agg V50) (2:Int)).run prog W=.ok (.agg #[.string ⟨#[48,98]⟩,(2:Int),.string ⟨#[48,49]⟩]) W:=λ _=>by kernel_rfl
 unfold V50 at i0 i1 i2;clear hn hr;go_enter func131,ntmps131;go_wp2_with fail
 go_loopw [6] (λ v wr=>∃k:Nat,v=.int .i64 k/\(k=0\/k=1\/k=2\/k=3)/\Gr (w.alloc (.cells #[.string ⟨#[]⟩,(0:Int),.string ⟨#[]⟩] 205)) wr) (λ v _=>3-(intOf v).toNat)
 case atStart=>exact⟨0,rfl,.inl rfl,Gr.refl _⟩
 case round =>
  obtain⟨k,rfl,hk,hg⟩:=hrel;obtain⟨hc,hf,hz⟩:=hg.use;rcases hk with rfl|rfl|rfl|rfl
  ·clear hc hf;go_wp2_with (go_at_call 56;refine (Om s ⟨#[48,120]⟩ false H1.o _).mono ?_;rintro e w1 ⟨rfl,rfl⟩);exact J6
  ·clear hc hf;go_wp2_with (go_at_call 56;refine (Om s ⟨#[48,111]⟩ false H2.o _).mono ?_;rintro e w1 ⟨rfl,rfl⟩)
   go_roundw
   case rel=>exact⟨2,rfl,.inr (.inr (.inl rfl)),hg.alloc _⟩
   case measure=>simp[intOf]
  ·clear hc hf;go_wp2_with (go_at_call 56;refine (Om s ⟨#[48,98]⟩ false H3.o _).mono ?_;rintro e w1 ⟨rfl,rfl⟩)
   go_roundw
   case rel=>exact⟨3,rfl,.inr (.inr (.inr rfl)),hg.alloc _⟩
   case measure=>simp[intOf]
  have p0:wr.cell? w=some (.string ⟨#[]⟩):=(hc _ _ Yb).trans Yb;have p1:wr.cell? ⟨w,1,none⟩=some (.int .i64 0):=(hc _ _ Yb).trans Yb;have p2:wr.cell? ⟨w,2,none⟩=some (.string ⟨#[]⟩):=(hc _ _ Yb).trans Yb;have pf:∀o,wr.frozen? ⟨w,o,none⟩=false:=λ o=>(hf _ _ Yb).trans Yh
  simp only[U1s]at hz;go_wp2_with (go_at_call 132;refine (O8o _).mono ?_;rintro e w2 ⟨rfl,g2⟩;obtain⟨aF,d5,aM⟩:=g2.use;have q0:w2.cell? w=some (.string ⟨#[]⟩):=(aF _ _ Ya).trans p0;have q1:w2.cell? ⟨w,1,none⟩=some (.int .i64 0):=(aF _ _ Ya).trans p1;have q2:w2.cell? ⟨w,2,none⟩=some (.string ⟨#[]⟩):=(aF _ _ Ya).trans p2;have qf:∀o,w2.frozen? ⟨w,o,none⟩=false:=λ o=>(d5 _ _ Ya).trans (pf o);have eN:w.heap.size<w2.heap.size:=by omega);have cb:Gr w w2:=(((Gr.refl w).alloc _).trans hg).trans g2;exact U11 (v:=O2g) (by simp[results,results131,go_sem,q0,q1,q2,qf,eN]) rfl ⟨rfl,by (repeat refine Gr.setCell ?_ (U12 _) _);exact cb⟩
theorem Ods(s:ByteArray)(w:World):Calls prog 166 #[.string s,.string ⟨#[95]⟩] w λ e w'=>e=.returned (.func (.func 206) #[] #[.pointer (some ⟨w+1,0,none⟩),.pointer (some ⟨w,0,none⟩),.pointer (some ⟨w+1+1,0,none⟩)]) /\w'=((w.alloc (.cells #[.string s] 9)).alloc (.cells #[.string ⟨#[95]⟩] 9)).alloc (.cells #[(0:Int)] 3):=by
 go_enter func166,ntmps166;exact J8
theorem KeepsOthers.of_gr{W W':World}(g:Gr W W'):KeepsOthers W W':=⟨g.size,λ k o hk _=>(g.block (U18.1 hk).1).trans hk⟩
def O2(c:UInt8):Bool:=decide (48<=c.toNat)&&decide (c.toNat<=57)
theorem O6n(t:TypeId)(v:Value)(w:World):Calls prog 136 #[.nilIface,.iface t v] w λ e w'=>e=.returned (.bool false)/\Gr w w':=by
 have q:∀W,(Go.binOp .eql 115 .nilIface (.iface t v)).run prog W=.ok (.bool false) W:=λ W=>run_eql_iface_nil_left W t v underlying115
 go_enter func136,ntmps136;exact J4
structure V3y(w:World):Prop where
 rad:V8b w
 max:∃m:Int,w.cell? ⟨3,0,none⟩=some (.int .i64 m)
 err:∃p,w.cell? ⟨1,0,none⟩=some (.iface 288 (.pointer (some p)))
 pow:Lib.TabIs prog w "internal/strconv.uint64pow10" .u64 Lib.pow10Tab
theorem V3y.gr{w w':World}(h:V3y w)(g:Gr w w'):V3y w':=by
 have hc:=g.use.1;have hl:∀{b o:Nat} {v},w.cell? ⟨b,o,none⟩=some v->b<w.heap.size:=λ e=>Lib.lt_of_cell e
 obtain⟨m,hm⟩:=h.max;obtain⟨p,he⟩:=h.err;refine⟨λ j v hj=>(hc _ _ (hl (h.rad j v hj))).trans (h.rad j v hj),⟨m,(hc _ _ (hl hm)).trans hm⟩,⟨p,(hc _ _ (hl he)).trans he⟩,?_⟩;have hp:=h.pow;have ki:prog.globalNamed "internal/strconv.uint64pow10" = some 2:=Yc
 unfold Lib.TabIs World.var? at hp⊢;rw[ki]at hp⊢;simp only[Option.bind_some]at hp⊢;have a9:2<w.heap.size:=by
  exact J14
 rw[g.block a9];exact hp
theorem O1e(s:ByteArray)(hz:s.size<=20000000)(w:World)(hw:V3y w):Calls prog 135 #[.string s,.string ⟨#[95]⟩,.string ⟨#[]⟩] w λ e w'=>e=.returned (.string ⟨(Lib.replaceAll (bs s) [95] []).toArray⟩)/\Gr w w':=by
 obtain⟨m,hm⟩:=hw.max;refine (strings_ReplaceAll s ⟨#[95]⟩ ⟨#[]⟩ m w Ya hm Yd (by rw[show (⟨#[]⟩:ByteArray).size=0 from rfl];omega)).mono ?_;rintro e w' ⟨rfl,hb⟩;exact⟨rfl,hb⟩
theorem O4b(w:World)(k:Nat)(os):Gr w (Sort.grow (w.drewN k) os):=by
 refine⟨rfl,rfl,rfl,by simp[Sort.grow,World.drewN],λ j hj=>?_⟩;simp[Sort.grow,World.drewN,Array.getElem?_append_left hj]
theorem Oiw(s:ByteArray)(hs:s.size<=20000000)(v:Int)(h:Lib.parseIntB 64 s.data.toList=.ok v)(w:World):Calls prog 134 #[.string s,(10:Int),(64:Int)] w λ e w'=>e=.returned (.tuple #[v,.nilIface])/\Gr w w':=by
 refine (strconv_ParseInt_10_at64_ok s Ya v h w).mono ?_;rintro e w' ⟨rfl,h⟩;refine⟨rfl,?_⟩;rcases h with rfl|⟨t,rfl⟩
 exact Gr.refl _
 exact Lib.bytesWorld_below _ _ _
end
section
open Pl Go.Proofs.Tryz Go.RowKit Go.Extern.Stop Go.Stop Go.Extern
theorem Okp(v:Value)(w:World):(Extern.ReflectliteType.typeOf #[.iface 288 v]).run prog w=.ok (.iface 264 (.agg #[.pointer (some ⟨16,288,none⟩)])) w:=Yc
theorem Occ(w:World):((Extern.ReflectliteType.method λ t=>do Go.Extern.Rtype.noPackHeld "Comparable" t;pure (.bool (<-typeInfo t).comparable)) #[.agg #[.pointer (some ⟨16,288,none⟩)]]).run prog w=.ok (.bool true) w:=Yc
theorem O5y(v:Value)(w:World):(Go.method 433 264 v "Comparable").run prog w=.ok (260,v) w:=Yc
theorem Ooc:(prog.info? 288).map (·.comparable)=some true:=Yc
theorem Ood:(prog.info? 290).map (·.size)=some 1:=Yc
theorem Op7(v:Value)(xT:TypeId)(w:World):(Instr.typeAssert (.iface 260 v) xT 266 true).run prog w=.ok (.tuple #[.nilIface,.bool false]) w:=run_typeAssert_lacksB underlying266 Yc Yc v xT w
theorem Ofj(v:Value)(xT:TypeId)(w:World):(Instr.typeAssert (.iface 260 v) xT 269 true).run prog w=.ok (.tuple #[.iface 260 v,.bool true]) w:=run_typeAssert_hasB underlying269 Yc v xT w
theorem Ocd(v:Value)(w:World):(Go.method 433 260 v "Unwrap").run prog w=.ok (256,v) w:=Yc
theorem Oce(pb:Nat)(b:Addr)(w:World)(h1:w.cell? ⟨pb,2,none⟩=some (.iface 288 (.pointer (some b)))):Calls prog 136 #[.iface 260 (.pointer (some ⟨pb,0,none⟩)),.iface 288 (.pointer (some b))] w λ e w'=>e=.returned (.bool true)/\w'=w:=by
 obtain⟨i,hi,I3⟩:=Option.map_eq_some_iff.1 Ooc;obtain⟨j,hj,yq⟩:=Option.map_eq_some_iff.1 Ood;have h8 := @run_callFunc_extern prog 171 _ Extern.ReflectliteType.typeOf func171 Yc Yc Yc Yc;have yr := @run_callFunc_extern prog 260 _ (Extern.ReflectliteType.method λ t=>do Go.Extern.Rtype.noPackHeld "Comparable" t;pure (.bool (<-typeInfo t).comparable)) func260 Yc Yc Yc Yc;have tT:=Okp;have hC:∀w,(callFunc 260 #[.agg #[.pointer (some ⟨16,288,none⟩)]]).run prog w=.ok (.value (.bool true)) w:=λ w=>by rw[yr,Occ];rfl
 clear yr;have mR:=O5y;have nW:=Op7;have uW:=Ofj;have mU:=Ocd;have tR:=run_eql_iface_ptr_same (P:=prog) w b underlying115 underlying288 hi I3 hj;have U8:=run_eql_iface_types (P:=prog) 260 288 (.pointer (some ⟨pb,0,none⟩)) (.pointer (some b)) underlying115 Yd w;go_enter func136,ntmps136
 go_wp2
 refine wp_loop_rounds 2 ?_;rw[rounds_succ]
 go_wp2
 rw[rounds_succ];exact J8
end
section
open Pl Go.Proofs.Tryz Go.RowKit Go.Shelf Go.Joins
attribute [local go_sem] U22
abbrev pmD:ByteArray:=⟨#[43,45,95,46]⟩
def Ofg(w:World)(b:Nat):Nat:=match w.heap[b]? with
 |some (.stringIter _ p)=>p
 |_=>0
theorem O3e(w:World)(s:ByteArray)(k:Nat):Ofg (w.iter s k) w.heap.size=k:=by unfold Ofg;rw[World.iter_heap]
theorem Omy(w:World)(s:ByteArray)(k:Nat):Gr w (w.iter s k):=(Gr.refl w).alloc _
theorem Oag(w:World):Calls prog 124 #[.string pmD,.int .i32 65533] w λ e w'=>e=.returned (.int .i64 (-1))/\Gr w w':=by
 have n0:∀ty,(Instr.next (.pointer (some ⟨w,0,none⟩)) true ty).run prog (w.iter pmD 0)=.ok (.tuple #[.bool true,(0:Int),.int .i32 43]) (w.iter pmD 1):=λ ty=>U4k w pmD 0 ty Yd Yd
 have n1:∀ty,(Instr.next (.pointer (some ⟨w,0,none⟩)) true ty).run prog (w.iter pmD 1)=.ok (.tuple #[.bool true,(1:Int),.int .i32 45]) (w.iter pmD 2):=λ ty=>U4k w pmD 1 ty Yd Yd
 have n2:∀ty,(Instr.next (.pointer (some ⟨w,0,none⟩)) true ty).run prog (w.iter pmD 2)=.ok (.tuple #[.bool true,(2:Int),.int .i32 95]) (w.iter pmD 3):=λ ty=>U4k w pmD 2 ty Yd Yd
 have n3:∀ty,(Instr.next (.pointer (some ⟨w,0,none⟩)) true ty).run prog (w.iter pmD 3)=.ok (.tuple #[.bool true,(3:Int),.int .i32 46]) (w.iter pmD 4):=λ ty=>U4k w pmD 3 ty Yd Yd
 have n4:∀ty,(Instr.next (.pointer (some ⟨w,0,none⟩)) true ty).run prog (w.iter pmD 4)=.ok (.tuple #[.bool false]) (w.iter pmD 4):=λ ty=>run_next_end w pmD 4 ty Yd
 go_enter func124,ntmps124;go_wp2_with fail
 go_loopw [5] (λ _ wr=>∃k:Nat,wr=w.iter pmD k/\(k=0\/k=1\/k=2\/k=3\/k=4)) (λ _ wr=>4-Ofg wr w.heap.size)
 case atStart=>exact⟨0,rfl,.inl rfl⟩
 case round =>
  obtain⟨k,rfl,hk⟩:=hrel;rcases hk with rfl|rfl|rfl|rfl|rfl
  ·go_wp2_with fail
   go_roundw
   case rel=>exact⟨1,rfl,Yb⟩
   case measure=>simp only[O3e];omega
  ·go_wp2_with fail
   go_roundw
   case rel=>exact⟨2,rfl,Yb⟩
   case measure=>simp only[O3e];omega
  ·go_wp2_with fail
   go_roundw
   case rel=>exact⟨3,rfl,Yb⟩
   case measure=>simp only[O3e];omega
  ·go_wp2_with fail
   go_roundw
   case rel=>exact⟨4,rfl,Yb⟩
   case measure=>simp only[O3e];omega
  go_wp2_with fail
  go_ret
  exact⟨rfl,Omy _ _ _⟩
theorem Odi(x:Int)(h:128<=x)(hx:(x==65533)=false)(hv:Lib.validRune x=false)(w:World):Calls prog 124 #[.string pmD,.int .i32 x] w λ e w'=>e=.returned (.int .i64 (-1))/\Gr w w':=by
 have h1:decide (x<128)=false:=Ye;have h2:decide (0<=x)=true:=Ye;have HV:=U10 hv;clear hv;go_enter func124,ntmps124;go_wp2_with (go_at_call 155;refine (utf8_ValidRune x _).mono ?_;rw[HV.o];rintro e w' ⟨rfl,rfl⟩)
 go_ret
 exact⟨rfl,Gr.refl _⟩
theorem Oki(x:Int)(h:128<=x)(hx:x<=1114111):∃m:Nat,(m=1\/m=2\/m=3)/\∃hz:(Utf8.encode x).size=m+1,128<=((Utf8.encode x)[m]' Ya).toNat:=by
 have hb:∀n:Nat,128<=(UInt8.ofNat (128+n % 64)).toNat:=by intro n;simp;omega
 have key:∀c:Nat,¬c<128->∀u:ByteArray,u=(if c<0x80 then ⟨#[UInt8.ofNat c]⟩
     else if c<0x800 then ⟨#[UInt8.ofNat (0xC0+c / 64),UInt8.ofNat (0x80+c % 64)]⟩
     else if c<0x10000 then ⟨#[UInt8.ofNat (0xE0+c / 4096),UInt8.ofNat (0x80+c / 64 % 64),UInt8.ofNat (0x80+c % 64)]⟩
     else ⟨#[UInt8.ofNat (0xF0+c / 262144),UInt8.ofNat (0x80+c / 4096 % 64),UInt8.ofNat (0x80+c / 64 % 64),UInt8.ofNat (0x80+c % 64)]⟩) ->
     ∃m:Nat,(m=1\/m=2\/m=3)/\∃hz:u.size=m+1,128<=(u[m]' Ya).toNat:=by
  intro c Q0 u hu;rw[U1c Q0]at hu
  split at hu;subst hu;exact⟨1,Yb,rfl,hb _⟩
  split at hu;subst hu;exact⟨2,Yb,rfl,hb _⟩
  subst hu;exact⟨3,Yb,rfl,hb _⟩
 refine key (if Utf8.valid x=true then x.toNat else Utf8.runeError) ?_ (Utf8.encode x) rfl
 split;omega
 simp[Utf8.runeError]
theorem Oe9(k j:Nat)(c:UInt8)(h:128<=c.toNat)(W:World):Calls prog 85 #[.string (pmD.extract k j),.int .u8 (c.toNat:Int)] W λ e w'=>e=.returned (.int .i64 (-1))/\W=w':=by
 refine (strings_IndexByte _ _ W).mono ?_;refine Z48 ?_;refine⟨O2q ?_,rfl⟩;have hl:∀b∈(pmD.extract k j).data.toList,b.toNat<128:=by
  intro b hb;rw[ByteArray.data_extract,Array.toList_extract,List.extract_eq_take_drop]at hb;have h2:=List.mem_of_mem_drop (List.mem_of_mem_take hb);simp at h2;rcases h2 with rfl|rfl|rfl|rfl <;> decide
 generalize (pmD.extract k j).data.toList=l at hl;rw[Lib.byte_back]
 induction l with
 |nil=>rfl
 |cons b l ih =>
  unfold Lib.indexByte;have hb:=hl b Yb;have a8:(b==c)=false:=by
   cases Q1:b==c with
   |false=>rfl
   |true=>rw[U2z.1 Q1]at hb;omega
  rw[a8,ih (λ x hx=>hl x (U24 _ hx))];rfl
theorem Okj(c:UInt8)(W:World):Calls prog 85 #[.string ByteArray.empty,.int .u8 (c.toNat:Int)] W λ e w'=>e=.returned (.int .i64 (-1))/\W=w':=by
 refine (strings_IndexByte _ _ W).mono ?_;refine Z48 ?_;exact J7
theorem Oah(x:Int)(h:128<=x)(hx:(x==65533)=false)(hv:Lib.validRune x=true)(hm:x<=1114111)(w:World):Calls prog 124 #[.string pmD,.int .i32 x] w λ e w'=>e=.returned (.int .i64 (-1))/\Gr w w':=by
 have h1:decide (x<128)=false:=Ye;have h2:decide (0<=x)=true:=Ye;have HV:=U10 hv;obtain⟨m,tU,hz,hl⟩:=Oki x h hm;obtain⟨c,hc⟩:=ExZ ((Utf8.encode x)[m]' Ya)
 rw[hc]at hl;obtain⟨u,hu⟩:=ExZ (Utf8.encode x)
 have w2:IntKind.i64.wrap 2=2:=Yd;have w3:IntKind.i64.wrap 3=3:=Yd;have w4:IntKind.i64.wrap 4=4:=Yd
 rcases tU with rfl|rfl|rfl
 ·clear hv;simp only[hu]at hz hc;have AG:u[1].toNat=c.toNat:=by rw[hc]
  go_enter func124,ntmps124;go_wp2_with (go_at_call 155;refine (utf8_ValidRune x _).mono ?_;rw[HV.o];rintro e w' ⟨rfl,rfl⟩)
  go_step3
  go_wp2_with fail;have hA:Hid (pmD.size=4):=rfl;have b1:(((pmD[1]' Yd).toNat:Int) != (c.toNat:Int))=true:=by
   have:(pmD[1]' Yd).toNat=45:=rfl;rw[this];simp;omega
  go_loopw [9] (λ v wr=>v=.int .i64 1/\wr=w') (λ _ _=>0)
  case atStart=>exact⟨rfl,rfl⟩
  case round =>
   exact J129
 ·clear hv;simp only[hu]at hz hc;have AG:u[2].toNat=c.toNat:=by rw[hc]
  go_enter func124,ntmps124;go_wp2_with (go_at_call 155;refine (utf8_ValidRune x _).mono ?_;rw[HV.o];rintro e w' ⟨rfl,rfl⟩)
  go_step3
  go_wp2_with fail;have hA:Hid (pmD.size=4):=rfl;have b1:(((pmD[2]' Yd).toNat:Int) != (c.toNat:Int))=true:=by
   have:(pmD[2]' Yd).toNat=95:=rfl;rw[this];simp;omega
  go_loopw [9] (λ v wr=>v=.int .i64 2/\wr=w') (λ _ _=>0)
  case atStart=>exact⟨rfl,rfl⟩
  case round =>
   exact J129
 clear hv;simp only[hu]at hz hc;have AG:u[3].toNat=c.toNat:=by rw[hc]
 go_enter func124,ntmps124;go_wp2_with (go_at_call 155;refine (utf8_ValidRune x _).mono ?_;rw[HV.o];rintro e w' ⟨rfl,rfl⟩)
 go_step3
 go_wp2_with fail;have hA:Hid (pmD.size=4):=rfl;have b1:(((pmD[3]' Yd).toNat:Int) != (c.toNat:Int))=true:=by
  have:(pmD[3]' Yd).toNat=46:=rfl;rw[this];simp;omega
 go_loopw [9] (λ v wr=>v=.int .i64 3/\wr=w') (λ _ _=>0)
 case atStart=>exact⟨rfl,rfl⟩
 case round =>
  obtain⟨rfl,rfl⟩:=hrel;go_wp2_with fail
  go_step3
  go_wp2_with fail
  go_quiet (fail)
  go_wp2_with fail
  go_quiet ((go_at_call 85;exact O36 (Okj c _) ⟨_,rfl⟩))
  exact J207
theorem Oc6(x:Int)(h:128<=x)(hm:x<=1114111)(w:World):Calls prog 124 #[.string pmD,.int .i32 x] w λ e w'=>e=.returned (.int .i64 (-1))/\Gr w w':=by
 by_cases h1:x=65533;subst h1;exact Oag w
 have h2:(x==65533)=false:=by simp[h1]
 cases hv:Lib.validRune x with
 |false=>exact Odi x h h2 hv w
 |true=>exact Oah x h h2 hv hm w
theorem Oai(x:Int)(h:128<=x)(hm:x<=1114111)(w:World):Calls prog 96 #[.string pmD,.int .i32 x] w λ e w'=>e=.returned (.bool false)/\Gr w w':=by
 go_enter func96,ntmps96;go_wp2_with (go_at_call 124;refine (Oc6 x h hm _).mono ?_;rintro e w1 ⟨rfl,g1⟩)
 go_ret
 exact⟨rfl,g1⟩
end
