/- The proof's part 23. -/
import Derived.Test.YtnkgknbdaiakgaaGreatDoorY15
set_option maxHeartbeats 16000000
set_option linter.all false
namespace Go.Proofs.YtnkgknbdaiakgaaGreatDoor
open Pl Go.Proofs.Tryz Go.RowKit Go.Joins
theorem Oc2(l:List UInt8):Pl.long l=(Pl.pre l [34,34,34] || Pl.pre l [39,39,39]):=by
 match l with
 |[]=>rfl
 |[a]=>simp[Pl.long,Pl.pre]
 |[a,b]=>simp[Pl.long,Pl.pre]
 |a::b::c::l =>
  unfold Pl.long
  split;exact J35;exact J35
  rename_i h1 h2
  simp only[Pl.pre,Bool.and_true];symm;rw[Bool.eq_false_iff];intro h;simp only[U4h,U1g,U2w]at h;rcases h with⟨rfl,rfl,rfl⟩|⟨rfl,rfl,rfl⟩
  exact h1 _ rfl
  exact h2 _ rfl
theorem O2k(s:ByteArray)(i:Int)(n:Nat)(hi:i=n)(hn:n<=s.size)(hs:s.size<=20000000)(w:World):Calls prog 38 #[.string s,i] w λ e w'=>e=.returned (.bool (V3u (bs s) n))/\w=w':=by
 subst hi;unfold V3u;rw[Oc2];have kB:decide ((0:Int)<=(n:Int))=true:=Yb
 have dZ:decide ((n:Int)<=(s.size:Int))=true:=Ye
 cases h1:Pl.pre ((bs s).drop n) [34,34,34]
 ·cases h2:Pl.pre ((bs s).drop n) [39,39,39]
  all_goals
   have H1:=U10 h1;have H2:=U10 h2;clear h1 h2;go_enter func38,ntmps38;go_wp2_with (go_at_call 56;first|(with_reducible refine (O6 s ⟨#[34,34,34]⟩ n false H1.o _).mono ?_;rintro e w3 ⟨rfl,rfl⟩)|(with_reducible refine (O6 s ⟨#[39,39,39]⟩ n _ H2.o _).mono ?_;rintro e w3 ⟨rfl,rfl⟩))
   go_ret
   exact⟨rfl,rfl⟩
 have H1:=U10 h1;clear h1;go_enter func38,ntmps38;go_wp2_with (go_at_call 56;(with_reducible refine (O6 s ⟨#[34,34,34]⟩ n true H1.o _).mono ?_;rintro e w3 ⟨rfl,rfl⟩))
 go_ret
 exact⟨rfl,rfl⟩
namespace Pl
def V3q(T:Nat->UInt8×UInt8)(q:UInt8):List UInt8->Option SR
 |[]=>some (.bad 0)
 |c::r=>if c.toNat==q.toNat then some (.go 1 [] true) else if c.toNat==92 then some (V43 T (c::r)) else some (V32 (c::r))
end Pl
theorem Ob2(w:World)(R:Nat)(s:ByteArray)(a:Nat)(q:UInt8)(out:List UInt8)(ov:Value)(h:RdQ w R s a q out ov)(aa:a<s.size)(hs:s.size<=20000000)(ho:out.length<=a)(T:Nat->UInt8×UInt8)(hQ:QW T w)(sr:Pl.SR)(cK:V3q T q ((bs s).drop a)=some sr):Calls prog 242 #[.agg #[.pointer (some ⟨R,0,none⟩)]] w (O19 R s a q out ov w sr):=by
 rw[O9 s a aa]at cK;unfold V3q at cK;dsimp only at cK;have hR:=h.lt;cases hm:(s[a].toNat==q.toNat)
 ·rw[hm]at cK;cases he:(s[a].toNat==92)
  ·rw[he]at cK;simp only[U1v,U2c,U1f]at cK;rw[<-O9 s a aa]at cK;obtain⟨b1,b2⟩:=V1q _ 92 _ he;have HX:=U10 cK;have HS:=U10 h;have HM:=U10 hm;clear cK h hm he;go_enter func242,ntmps242;go_wp2_with fail;refine Z318 ?_;intro w1 g1 ah ap ax;have iE:Hid (RdQ w1 R s a q out ov):=by
    have h1:RdQ ((w.alloc (.cells #[.pointer (some ⟨R,0,none⟩)] 170)).alloc (.cells #[(0:Int),(0:Int)] 29)) R s a q out ov:=RdQ.auto HS.o;exact h1.gr g1
   have c0:w1.cell? R=some (.string s):=iE.o.cells.1;have c1:w1.cell? ⟨R,1,none⟩=some (.int .i64 a):=iE.o.cells.2.1;go_wp2_with fail
   go_quiet (fail)
   go_wp2_with fail;cases sr with
   |bad p =>
    refine Z236 ?_;rw[HX.o];rintro e w2 ⟨rfl,F',a9⟩;refine Z18 ?_;intro aE dj aL;have HT:=U10 a9;clear a9;go_wp2_with fail;refine U11 (v:=.tuple #[.bool false,fv 3 (a+p)]) (by simp[results,results242,go_sem,aE,ah]) rfl ⟨rfl,F',?_⟩;exact J31
   |go n t over =>
    refine Z236 ?_;rw[HX.o];rintro e w2 ⟨rfl,aG,hr,a9⟩;refine Z18 ?_;intro aE dj aL;refine Z161 ?_;intro HR HT;have eX:¬FQ R aG (w.heap.size+1):=λ hF=>by
     rcases HT.o.own _ hF with hF|hF
     have:=HS.o.own_lt hF;omega
     simp at hF;omega
    clear hr a9;go_wp2_with fail;refine U11 (v:=.tuple #[.bool over,f0]) (by simp[results,results242,go_sem,aE,ah]) rfl ⟨rfl,aG,RdQ.auto HR.o,?_⟩;exact J31
  rw[he]at cK;simp only[U1v,U2c,U2i,U1f]at cK;rw[<-O9 s a aa]at cK;rw[<-cK];exact Oc1 w R s a q out ov h hQ.es T hQ.sh aa hs ho hm he
 rw[hm]at cK;simp only[U2i,U1f]at cK;subst cK;have HS:=U10 h;have HM:=U10 hm;clear h hm;go_enter func242,ntmps242;go_wp2_with fail;refine (O8c _ R s a q out ov (RdQ.auto HS.o) aa hs HM.o).mono ?_;rintro e w2 ⟨rfl,hr,a9⟩;refine Z220 ?_;intro hu;have aL:=a9.size;simp at aL;obtain⟨aE,dj⟩:=hu;have HR:=U10 hr;have HT:=U10 a9;have eX:¬FQ R ov (w.heap.size+1):=λ hF=>by have:=HS.o.own_lt hF;omega
 clear hr a9;go_wp2_with fail;refine U11 (v:=.tuple #[.bool true,f0]) (by simp[results,results242,go_sem,aE]) rfl ⟨rfl,ov,by rw[U3k];exact RdQ.auto HR.o,?_⟩;exact J31
