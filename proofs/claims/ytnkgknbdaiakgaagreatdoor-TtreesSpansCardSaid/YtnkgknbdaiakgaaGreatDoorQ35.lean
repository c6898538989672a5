/- The proof's part 35. -/
import Derived.Test.YtnkgknbdaiakgaaGreatDoorQ33
import Derived.Test.YtnkgknbdaiakgaaGreatDoorRows
import Derived.LaidMore
import Derived.Lib.LaidU8
import Derived.Stop.LaidErr
set_option maxHeartbeats 16000000
set_option linter.all false
namespace Go.Proofs.YtnkgknbdaiakgaaGreatDoor
open Pl Go.Proofs.Tryz Go.ChangeShapes Go.WideShapes Go.ChangeAt Go.RowKit
theorem Ofy{l:List Value}{a b:Nat}(hb:b<3){v:Value}(h:(((l.drop a).take 3).drop b).take 1=[v]):l[a+b]?=some v:=by
 have h2:=U2w (·[0]?) h;simp only[U2a]at h2;rw[List.getElem?_take,U1a Ya,U2y,List.getElem?_take,U1a Ya,U2y]at h2;exact h2
theorem O8l{s:ByteArray}{l:List UInt8}(h:(DataW.lit (.string s.data.toList):DataW Unit)=.lit (.string l)):Value.string s=.string ⟨l.toArray⟩:=by
 injection h with h;injection h with h;subst h;cases s;simp
theorem O47{W:World}{m a:Nat}{cs:List Value}{pf dg:List UInt8}{b:Int}{q:List MemPlace}(h:DataW.trod (λ _=>()) prog W 0 (λ _=>true) false m 205 ((cs.drop a).take 3)=some ((.agg [.lit (.string pf),.lit b,.lit (.string dg)]:DataW Unit),q)):cs[a+0]?=some (.string ⟨pf.toArray⟩)/\cs[a+1]?=some (.int .i64 b)/\cs[a+2]?=some (.string ⟨dg.toArray⟩):=by
 obtain⟨y0,y1,y2,n,hx,_,h0,h1,h2⟩:=Go.Deep.trod_struct3 underlying205 h;dsimp only at h0 h1 h2;rw[show prog.cellsOf 9=1 by kernel_rfl]at h0 h2;rw[show prog.cellsOf 3=1 by kernel_rfl]at h1;obtain⟨s0,e0,rfl,_⟩:=DataW.trod_string underlying9 h0;obtain⟨z1,e1,rfl,_⟩:=DataW.trod_int underlying3 h1;obtain⟨s2,e2,rfl,_⟩:=DataW.trod_string underlying9 h2;have Dm:=U2w Prod.fst hx;simp only[DataW.agg.injEq,U27,and_true]at Dm;obtain⟨x0,x1,x2⟩:=Dm;refine⟨?_,?_,?_⟩;rw[<-O8l x0.symm];exact Ofy Ya e0;injection x1 with x1;injection x1 with _ x1;rw[x1];exact Ofy Ya e1
 rw[<-O8l x2.symm];exact Ofy Ya e2
theorem Oot{W:World}{lst:List (String×DataW Unit)}(hL:laidMet prog lst W)(hm:("inarch/ints.radixes",Rows.laid_inarch_ints_radixes)∈lst):V8b W:=by
 obtain⟨g,t,cs,ix,p,hg,ht,hv,hd⟩:=Lib.laidMet.reads hL hm;obtain rfl:=U2m ((show prog.globalNamed "inarch/ints.radixes" = some 6 by kernel_rfl).symm.trans hg);obtain rfl:=U2m ((show (prog.globals[6]?).map (·.type)=some 229 by kernel_rfl).symm.trans ht);obtain⟨xs,m,_,hx,_,wD,aT⟩:=DataW.trod_array underlying229 hd;have c3:prog.cellsOf 205=3:=Yc;rw[c3]at aT;rcases xs with _|⟨a,_|⟨b,_|⟨c,_|⟨d,xs⟩⟩⟩⟩ <;> simp at wD;have h0:=aT 0 Yd;have h1:=aT 1 Yd;have h2:=aT 2 Yd;have Dm:=U2w Prod.fst hx;simp only[Rows.laid_inarch_ints_radixes,DataW.agg.injEq,U3q,List.map_nil,U27,and_true]at Dm;obtain⟨x0,x1,x2⟩:=Dm;obtain⟨a1,a2⟩:=a;obtain⟨b1,b2⟩:=b;obtain⟨d1,d2⟩:=c;simp only at x0 x1 x2;subst x0 x1 x2;obtain⟨k0,k1,k2⟩:=O47 h0;obtain⟨k3,k4,k5⟩:=O47 h1;obtain⟨k6,k7,k8⟩:=O47 h2;intro j v hj;rw[World.var?_cell hg hv j];rw[<-Array.getElem?_toList]
 match j,hj with
 |0,hj=>simp[V50]at hj;subst hj;exact k0
 |1,hj=>simp[V50]at hj;subst hj;exact k1
 |2,hj=>simp[V50]at hj;subst hj;exact k2
 |3,hj=>simp[V50]at hj;subst hj;exact k3
 |4,hj=>simp[V50]at hj;subst hj;exact k4
 |5,hj=>simp[V50]at hj;subst hj;exact k5
 |6,hj=>simp[V50]at hj;subst hj;exact k6
 |7,hj=>simp[V50]at hj;subst hj;exact k7
 |8,hj=>simp[V50]at hj;subst hj;exact k8
 |j+9,hj=>simp[V50]at hj
theorem Oou{W:World}{lst:List (String×DataW Unit)}(hL:laidMet prog lst W)(hm:("internal/strconv.uint64pow10",Rows.laid_internal_strconv_uint64pow10)∈lst):Lib.TabIs prog W "internal/strconv.uint64pow10" .u64 Lib.pow10Tab:=by
 obtain⟨g,t,cs,ix,p,hg,ht,hv,hd⟩:=Lib.laidMet.reads hL hm;obtain rfl:=U2m ((show prog.globalNamed "internal/strconv.uint64pow10" = some 2 by kernel_rfl).symm.trans hg);obtain rfl:=U2m ((show (prog.globals[2]?).map (·.type)=some 217 by kernel_rfl).symm.trans ht);rw[show (Rows.laid_internal_strconv_uint64pow10:DataW Unit)=Lib.tabData .u64 Lib.pow10Tab by rfl]at hd;have:=Lib.cells_of_tab underlying217 underlying161 Yc Yc hd;unfold Lib.TabIs;rw[hv,<-this]
theorem Ocy{W:World}{n:String}{g:Nat}{text:List UInt8}{r:List (String×DataW Unit)}(h:laidMet prog ((n,.iface "*errors.errorString" (.ptr (.agg [.lit (.string text)])))::r) W)(hg:prog.globalNamed n=some g)(ht:(prog.globals[g]?).map (·.type)=some 115):∃p,W.cell? g=some (.iface 288 (.pointer (some p))):=by
 obtain⟨a,s,hv,_⟩:=laid_sentinel h hg ht underlying115 (λ u hu=>typeName_ptr_named (nm:="errors.errorString") Yc Yc Yd u hu) underlying288 underlying290 rfl rfl underlying9 Yc Yc;refine⟨a,?_⟩;rw[World.var?_cell hg hv 0];rfl
