/- The proof's part 38. -/
import Derived.Test.YtnkgknbdaiakgaaGreatDoorP36
import Derived.Test.YtnkgknbdaiakgaaGreatDoorRows
import Derived.LaidMore
import Derived.Lib.LaidU8
import Derived.Stop.LaidErr
set_option maxHeartbeats 16000000
set_option linter.all false
namespace Go.Proofs.YtnkgknbdaiakgaaGreatDoor
open Pl Go.Proofs.Tryz Go.ChangeShapes Go.WideShapes Go.ChangeAt Go.RowKit
theorem Ogc{l:List Value}{a b:Nat}(hb:b<3){v:Value}(h:(((l.drop a).take 3).drop b).take 1=[v]):l[a+b]?=some v:=by
 have h2:=U1q (·[0]?) h;simp only[U1h]at h2;rw[List.getElem?_take,Ua (by omega),U1f,List.getElem?_take,Ua (by omega),U1f]at h2;exact h2
theorem O8s{s:ByteArray}{l:List UInt8}(h:(DataW.lit (.string s.data.toList):DataW Unit) = .lit (.string l)):Value.string s = .string ⟨l.toArray⟩:=by
 injection h with h;injection h with h;subst h;cases s;simp
theorem O45{W:World}{m a:Nat}{cs:List Value}{pf dg:List UInt8}{b:Int}{q:List MemPlace}(h:DataW.trod (λ _=>()) prog W 0 (λ _=>true) false m 205 ((cs.drop a).take 3)=some ((.agg [.lit (.string pf),.lit b,.lit (.string dg)]:DataW Unit),q)) :
    cs[a+0]?=some (.string ⟨pf.toArray⟩)/\cs[a+1]?=some (.int .i64 b)/\cs[a+2]?=some (.string ⟨dg.toArray⟩):=by
 obtain⟨y0,y1,y2,n,hx,_,h0,h1,h2⟩:=Go.Deep.trod_struct3 underlying205 h;dsimp only at h0 h1 h2;rw[show prog.cellsOf 9=1 by kernel_rfl]at h0 h2;rw[show prog.cellsOf 3=1 by kernel_rfl]at h1;obtain⟨s0,e0,rfl,_⟩:=DataW.trod_string underlying9 h0;obtain⟨z1,e1,rfl,_⟩:=DataW.trod_int underlying3 h1;obtain⟨s2,e2,rfl,_⟩:=DataW.trod_string underlying9 h2;have vc:=U1q Prod.fst hx;simp only[DataW.agg.injEq,U1a,and_true]at vc;obtain⟨x0,x1,x2⟩:=vc;refine⟨?_,?_,?_⟩;rw[<-O8s x0.symm];exact Ogc (by omega) e0;injection x1 with x1;injection x1 with _ x1;rw[x1];exact Ogc (by omega) e1
 rw[<-O8s x2.symm];exact Ogc (by omega) e2
theorem Ook{W:World}{lst:List (String×DataW Unit)}(hL:laidMet prog lst W)(hm:("inarch/ints.radixes",Rows.laid_inarch_ints_radixes)∈lst):V89 W:=by
 obtain⟨g,t,cs,ik,p,hg,ht,hv,hd⟩:=Lib.laidMet.reads hL hm;obtain rfl:=U1x ((show prog.globalNamed "inarch/ints.radixes" = some 6 by kernel_rfl).symm.trans hg);obtain rfl:=U1x ((show (prog.globals[6]?).map (·.type)=some 229 by kernel_rfl).symm.trans ht);obtain⟨xs,m,_,hx,_,BC,bz⟩:=DataW.trod_array underlying229 hd;have c3:prog.cellsOf 205=3:=by kernel_rfl
 rw[c3]at bz;rcases xs with _|⟨a,_|⟨b,_|⟨c,_|⟨d,xs⟩⟩⟩⟩ <;> simp at BC;have h0:=bz 0 (by decide);have h1:=bz 1 (by decide);have h2:=bz 2 (by decide);have vc:=U1q Prod.fst hx;simp only[Rows.laid_inarch_ints_radixes,DataW.agg.injEq,U2i,List.map_nil,U1a,and_true]at vc;obtain⟨x0,x1,x2⟩:=vc;obtain⟨a1,a2⟩:=a;obtain⟨b1,b2⟩:=b;obtain⟨d1,d2⟩:=c;simp only at x0 x1 x2;subst x0 x1 x2;obtain⟨k0,k1,k2⟩:=O45 h0;obtain⟨k3,k4,k5⟩:=O45 h1;obtain⟨k6,k7,k8⟩:=O45 h2;intro j v hj;rw[World.var?_cell hg hv j];rw[<-Array.getElem?_toList]
 match j,hj with
 |0,hj=>simp[V56]at hj;subst hj;exact k0
 |1,hj=>simp[V56]at hj;subst hj;exact k1
 |2,hj=>simp[V56]at hj;subst hj;exact k2
 |3,hj=>simp[V56]at hj;subst hj;exact k3
 |4,hj=>simp[V56]at hj;subst hj;exact k4
 |5,hj=>simp[V56]at hj;subst hj;exact k5
 |6,hj=>simp[V56]at hj;subst hj;exact k6
 |7,hj=>simp[V56]at hj;subst hj;exact k7
 |8,hj=>simp[V56]at hj;subst hj;exact k8
 |j+9,hj=>simp[V56]at hj
theorem Ool{W:World}{lst:List (String×DataW Unit)}(hL:laidMet prog lst W)(hm:("internal/strconv.uint64pow10",Rows.laid_internal_strconv_uint64pow10)∈lst):Lib.TabIs prog W "internal/strconv.uint64pow10" .u64 Lib.pow10Tab:=by
 obtain⟨g,t,cs,ik,p,hg,ht,hv,hd⟩:=Lib.laidMet.reads hL hm;obtain rfl:=U1x ((show prog.globalNamed "internal/strconv.uint64pow10" = some 2 by kernel_rfl).symm.trans hg);obtain rfl:=U1x ((show (prog.globals[2]?).map (·.type)=some 217 by kernel_rfl).symm.trans ht);rw[show (Rows.laid_internal_strconv_uint64pow10:DataW Unit)=Lib.tabData .u64 Lib.pow10Tab by rfl]at hd;have:=Lib.cells_of_tab underlying217 underlying161 (by kernel_rfl) (by kernel_rfl) hd;unfold Lib.TabIs;rw[hv,<-this]
theorem Od7{W:World}{n:String}{g:Nat}{text:List UInt8}{r:List (String×DataW Unit)}(h:laidMet prog ((n,.iface "*errors.errorString" (.ptr (.agg [.lit (.string text)])))::r) W)(hg:prog.globalNamed n=some g)(ht:(prog.globals[g]?).map (·.type)=some 115) :
    ∃p,W.cell? ⟨g,0,none⟩=some (.iface 288 (.pointer (some p))):=by
 obtain⟨a,s,hv,_⟩:=laid_sentinel h hg ht underlying115 (λ u hu=>typeName_ptr_named (nm := "errors.errorString") (by kernel_rfl) (by kernel_rfl) (by decide) u hu) underlying288 underlying290 rfl rfl underlying9 (by kernel_rfl) (by kernel_rfl);refine⟨a,?_⟩;rw[World.var?_cell hg hv 0];rfl
