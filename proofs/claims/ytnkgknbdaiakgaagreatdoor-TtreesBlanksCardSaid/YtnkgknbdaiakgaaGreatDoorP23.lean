/- The proof's part 23. -/
import Derived.Test.YtnkgknbdaiakgaaGreatDoorP14
set_option maxHeartbeats 16000000
set_option linter.all false
namespace Go.Proofs.YtnkgknbdaiakgaaGreatDoor
open Pl Go.Proofs.Tryz Go.RowKit Go.Joins
theorem Obc(l:List UInt8):Pl.long l=(Pl.pre l [34,34,34] || Pl.pre l [39,39,39]):=by
 match l with
 |[]=>rfl
 |[a]=>simp[Pl.long,Pl.pre]
 |[a,b]=>simp[Pl.long,Pl.pre]
 |a::b::c::l =>
  unfold Pl.long
  split;exact J27;exact J27
  rename_i h1 h2
  simp only[Pl.pre,Bool.and_true];symm;rw[Bool.eq_false_iff];intro h;simp only[Bool.or_eq_true,Uf,U1v]at h;rcases h with⟨rfl,rfl,rfl⟩|⟨rfl,rfl,rfl⟩
  exact h1 _ rfl
  exact h2 _ rfl
theorem O2b(s:ByteArray)(i:Int)(n:Nat)(hi:i=n)(hn:n<=s.size)(hs:s.size<=20000000)(w:World) :
    Calls prog 38 #[.string s,i] w λ e w'=>e = .returned (.bool (V3r (bs s) n))/\w=w':=by
 subst hi;unfold V3r;rw[Obc];have Be:decide ((0:Int)<=(n:Int))=true:=by simp
 have ky:decide ((n:Int)<=(s.size:Int))=true:=by simp;omega
 cases h1:Pl.pre ((bs s).drop n) [34,34,34]
 ·cases h2:Pl.pre ((bs s).drop n) [39,39,39]
  all_goals
   have H1:=U0 h1;have H2:=U0 h2;clear h1 h2;go_enter func38,ntmps38;go_wp2_with (go_at_call 56;first|(with_reducible refine (O6 s ⟨#[34,34,34]⟩ n false H1.o _).mono ?_;rintro e w3 ⟨rfl,rfl⟩)|(with_reducible refine (O6 s ⟨#[39,39,39]⟩ n _ H2.o _).mono ?_;rintro e w3 ⟨rfl,rfl⟩))
   go_ret
   exact J9
 have H1:=U0 h1;clear h1;go_enter func38,ntmps38;go_wp2_with (go_at_call 56;(with_reducible refine (O6 s ⟨#[34,34,34]⟩ n true H1.o _).mono ?_;rintro e w3 ⟨rfl,rfl⟩))
 go_ret
 exact J9
namespace Pl
def V4d(T:Nat->UInt8×UInt8)(q:UInt8):List UInt8->Option SR
 |[]=>some (.bad 0)
 |c::r=>if c.toNat==q.toNat then some (.go 1 [] true) else if c.toNat==92 then some (V3o T (c::r)) else some (V2v (c::r))
end Pl
theorem Oal(w:World)(R:Nat)(s:ByteArray)(a:Nat)(q:UInt8)(out:List UInt8)(ov:Value)(h:RdQ w R s a q out ov)
    (aa:a<s.size)(hs:s.size<=20000000)(ho:out.length<=a)(T:Nat->UInt8×UInt8)(hQ:QW T w)(sr:Pl.SR)(cQ:V4d T q ((bs s).drop a)=some sr) :
    Calls prog 242 #[.agg #[.pointer (some ⟨R,0,none⟩)]] w (O18 R s a q out ov w sr):=by
 rw[O8 s a aa]at cQ;unfold V4d at cQ;dsimp only at cQ;have hR:=h.lt;cases hm:(s[a].toNat==q.toNat)
 ·rw[hm]at cQ;cases he:(s[a].toNat==92)
  ·rw[he]at cQ;simp only[U11,U1d,Uc]at cQ;rw[<-O8 s a aa]at cQ;obtain⟨b1,b2⟩:=V1o _ 92 _ he;have HX:=U0 cQ;have HS:=U0 h;have HM:=U0 hm;clear cQ h hm he;go_enter func242,ntmps242;go_wp2_with fail;refine Z312 ?_;intro w1 g1 ah ar ay;have iC:Hid (RdQ w1 R s a q out ov):=by
    have h1:RdQ ((w.alloc (.cells #[.pointer (some ⟨R,0,none⟩)] 170)).alloc (.cells #[(0:Int),(0:Int)] 29)) R s a q out ov:=RdQ.auto HS.o;exact h1.gr g1
   have c0:w1.cell? ⟨R,0,none⟩=some (.string s):=iC.o.cells.1;have c1:w1.cell? ⟨R,1,none⟩=some (.int .i64 a):=iC.o.cells.2.1;go_wp2_with fail
   go_quiet (fail)
   go_wp2_with fail;cases sr with
   |bad p =>
    refine Z235 ?_;rw[HX.o];rintro e w2 ⟨rfl,F',a9⟩;refine Z18 ?_;intro aE dt aJ;have HT:=U0 a9;clear a9;go_wp2_with fail;refine U1 (v := .tuple #[.bool false,fv 3 (a+p)]) (by simp[results,results242,go_sem,aE,ah]) rfl ⟨rfl,F',?_⟩;exact J16
   |go n t over =>
    refine Z235 ?_;rw[HX.o];rintro e w2 ⟨rfl,aH,hr,a9⟩;refine Z18 ?_;intro aE dt aJ;refine Z161 ?_;intro HR HT;have eG:¬FQ R aH (w.heap.size+1):=λ hF=>by
     rcases HT.o.own _ hF with hF|hF
     have:=HS.o.own_lt hF;omega
     simp at hF;omega
    clear hr a9;go_wp2_with fail;refine U1 (v := .tuple #[.bool over,f0]) (by simp[results,results242,go_sem,aE,ah]) rfl ⟨rfl,aH,RdQ.auto HR.o,?_⟩;exact J16
  rw[he]at cQ;simp only[U11,U1d,U1j,Uc]at cQ;rw[<-O8 s a aa]at cQ;rw[<-cQ];exact Obb w R s a q out ov h hQ.es T hQ.sh aa hs ho hm he
 rw[hm]at cQ;simp only[U1j,Uc]at cQ;subst cQ;have HS:=U0 h;have HM:=U0 hm;clear h hm;go_enter func242,ntmps242;go_wp2_with fail;refine (O7q _ R s a q out ov (RdQ.auto HS.o) aa hs HM.o).mono ?_;rintro e w2 ⟨rfl,hr,a9⟩;refine Z219 ?_;intro hu;have aJ:=a9.size;simp at aJ;obtain⟨aE,dt⟩:=hu;have HR:=U0 hr;have HT:=U0 a9;have eG:¬FQ R ov (w.heap.size+1):=λ hF=>by have:=HS.o.own_lt hF;omega
 clear hr a9;go_wp2_with fail;refine U1 (v := .tuple #[.bool true,f0]) (by simp[results,results242,go_sem,aE]) rfl ⟨rfl,ov,by rw[U2g];exact RdQ.auto HR.o,?_⟩;exact J16
