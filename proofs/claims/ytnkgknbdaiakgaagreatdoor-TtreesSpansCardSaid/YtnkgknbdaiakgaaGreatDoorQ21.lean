/- The proof's part 21. -/
import Derived.Test.YtnkgknbdaiakgaaGreatDoorQ13
set_option maxHeartbeats 16000000
set_option linter.all false
namespace Go.Proofs.YtnkgknbdaiakgaaGreatDoor
open Pl Go.Proofs.Tryz Go.RowKit Go.Joins
theorem Obc(l:List UInt8):Pl.long l=(Pl.pre l [34,34,34] || Pl.pre l [39,39,39]):=by
 match l with
 |[]=>rfl
 |[a]=>simp[Pl.long,Pl.pre]
 |[a,b]=>simp[Pl.long,Pl.pre]
 |a::b::c::l =>
  unfold Pl.long
  split;exact J39;exact J39
  rename_i h1 h2
  simp only[Pl.pre,Bool.and_true];symm;rw[Bool.eq_false_iff];intro h;simp only[Bool.or_eq_true,U1h,U2z]at h;rcases h with⟨rfl,rfl,rfl⟩|⟨rfl,rfl,rfl⟩
  exact h1 _ rfl
  exact h2 _ rfl
theorem O2b(s:ByteArray)(i:Int)(n:Nat)(hi:i=n)(hn:n<=s.size)(hs:s.size<=20000000)(w:World):Calls prog 38 #[.string s,i] w λ e w'=>e=.returned (.bool (V35 (bs s) n))/\w=w':=by
 subst hi;unfold V35;rw[Obc];have C7:decide ((0:Int)<=(n:Int))=true:=Yb
 have mu:decide ((n:Int)<=(s.size:Int))=true:=Ye
 cases h1:Pl.pre ((bs s).drop n) [34,34,34]
 ·cases h2:Pl.pre ((bs s).drop n) [39,39,39]
  all_goals
   have H1:=U10 h1;have H2:=U10 h2;clear h1 h2;go_enter func38,ntmps38;go_wp2_with (go_at_call 56;first|(with_reducible refine (O7 s ⟨#[34,34,34]⟩ n false H1.o _).mono ?_;rintro e w3 ⟨rfl,rfl⟩)|(with_reducible refine (O7 s ⟨#[39,39,39]⟩ n _ H2.o _).mono ?_;rintro e w3 ⟨rfl,rfl⟩))
   go_ret
   exact J7
 have H1:=U10 h1;clear h1;go_enter func38,ntmps38;go_wp2_with (go_at_call 56;(with_reducible refine (O7 s ⟨#[34,34,34]⟩ n true H1.o _).mono ?_;rintro e w3 ⟨rfl,rfl⟩))
 go_ret
 exact J7
namespace Pl
def V49(T:Nat->UInt8×UInt8)(q:UInt8):List UInt8->Option SR
 |[]=>some (.bad 0)
 |c::r=>if c.toNat==q.toNat then some (.go 1 [] true) else if c.toNat==92 then some (V3m T (c::r)) else some (V33 (c::r))
end Pl
theorem Oad(w:World)(R:Nat)(s:ByteArray)(a:Nat)(q:UInt8)(out:List UInt8)(ov:Value)(h:RdQ w R s a q out ov)(a9:a<s.size)(hs:s.size<=20000000)(ho:out.length<=a)(T:Nat->UInt8×UInt8)(hQ:QW T w)(sr:Pl.SR)(cR:V49 T q ((bs s).drop a)=some sr):Calls prog 242 #[.agg #[.pointer (some ⟨R,0,none⟩)]] w (O19 R s a q out ov w sr):=by
 rw[O8 s a a9]at cR;unfold V49 at cR;dsimp only at cR;have hR:=h.lt;cases hm:(s[a].toNat==q.toNat)
 ·rw[hm]at cR;cases he:(s[a].toNat==92)
  ·rw[he]at cR;simp only[U23,U2f,U1f]at cR;rw[<-O8 s a a9]at cR;obtain⟨b1,b2⟩:=V1u _ 92 _ he;have HX:=U10 cR;have HS:=U10 h;have HM:=U10 hm;clear cR h hm he;go_enter func242,ntmps242;go_wp2_with fail;refine Z315 ?_;intro w1 g1 ag au az;have iT:Hid (RdQ w1 R s a q out ov):=by
    have h1:RdQ ((w.alloc (.cells #[.pointer (some ⟨R,0,none⟩)] 170)).alloc (.cells #[(0:Int),(0:Int)] 29)) R s a q out ov:=RdQ.auto HS.o;exact h1.gr g1
   have c0:w1.cell? R=some (.string s):=iT.o.cells.1;have c1:w1.cell? ⟨R,1,none⟩=some (.int .i64 a):=iT.o.cells.2.1;go_wp2_with fail
   go_quiet (fail)
   go_wp2_with fail;cases sr with
   |bad p =>
    refine Z236 ?_;rw[HX.o];rintro e w2 ⟨rfl,F',aa⟩;refine Z18 ?_;intro aF d5 aM;have HT:=U10 aa;clear aa;go_wp2_with fail;refine U11 (v:=.tuple #[.bool false,fv 3 (a+p)]) (by simp[results,results242,go_sem,aF,ag]) rfl ⟨rfl,F',?_⟩;exact J35
   |go n t over =>
    refine Z236 ?_;rw[HX.o];rintro e w2 ⟨rfl,aH,hr,aa⟩;refine Z18 ?_;intro aF d5 aM;refine Z163 ?_;intro HR HT;have fg:¬FQ R aH (w.heap.size+1):=λ hF=>by
     rcases HT.o.own _ hF with hF|hF
     have:=HS.o.own_lt hF;omega
     simp at hF;omega
    clear hr aa;go_wp2_with fail;refine U11 (v:=.tuple #[.bool over,f0]) (by simp[results,results242,go_sem,aF,ag]) rfl ⟨rfl,aH,RdQ.auto HR.o,?_⟩;exact J35
  rw[he]at cR;simp only[U23,U2f,U2o,U1f]at cR;rw[<-O8 s a a9]at cR;rw[<-cR];exact Obb w R s a q out ov h hQ.es T hQ.sh a9 hs ho hm he
 rw[hm]at cR;simp only[U2o,U1f]at cR;subst cR;have HS:=U10 h;have HM:=U10 hm;clear h hm;go_enter func242,ntmps242;go_wp2_with fail;refine (O7x _ R s a q out ov (RdQ.auto HS.o) a9 hs HM.o).mono ?_;rintro e w2 ⟨rfl,hr,aa⟩;refine Z219 ?_;intro hu;have aM:=aa.size;simp at aM;obtain⟨aF,d5⟩:=hu;have HR:=U10 hr;have HT:=U10 aa;have fg:¬FQ R ov (w.heap.size+1):=λ hF=>by have:=HS.o.own_lt hF;omega
 clear hr aa;go_wp2_with fail;refine U11 (v:=.tuple #[.bool true,f0]) (by simp[results,results242,go_sem,aF]) rfl ⟨rfl,ov,by rw[U3j];exact RdQ.auto HR.o,?_⟩;exact J35
