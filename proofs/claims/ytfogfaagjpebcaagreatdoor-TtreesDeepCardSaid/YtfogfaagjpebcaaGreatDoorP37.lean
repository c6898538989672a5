/-
 The walks and plain laws that the claim rests on, part 37.
-/
import Derived.Test.YtfogfaagjpebcaaGreatDoorP00
import Derived.Test.YtfogfaagjpebcaaGreatDoorP25
import Derived.Test.YtfogfaagjpebcaaGreatDoorP34
import Derived.Test.YtfogfaagjpebcaaGreatDoorRows
import Derived.ProofKit
import Derived.OpenShut
import Derived.LaidMore
import Derived.Lib.LaidTab
import Derived.Lib.LaidU8
import Derived.Shelf.Vars
import Derived.Deep.Strs
import Derived.Stop.LaidErr
set_option maxHeartbeats 16000000
set_option linter.all false
set_option linter.unusedVariables false
set_option linter.unusedSimpArgs false
namespace Go.Proofs.YtfogfaagjpebcaaGreatDoor
open Go.ChangeShapes Go.WideShapes Go.ChangeAt Go.RowKit
theorem piece {l:List Value} {a b:Nat} (hb:b<3) {v:Value} (h:(((l.drop a).take 3).drop b).take 1=[v]):l[a+b]?=some v:=by
 have h2:=congrArg (·[0]?) h;simp only[List.getElem?_cons_zero]at h2;rw[List.getElem?_take,if_pos (by omega),List.getElem?_drop,List.getElem?_take,if_pos (by omega),List.getElem?_drop]at h2;exact h2
theorem str_of_lit {s:ByteArray} {l:List UInt8} (h:(DataW.lit (.string s.data.toList):DataW Unit) = .lit (.string l)):Value.string s = .string ⟨l.toArray⟩:=by
 injection h with h;injection h with h;subst h;cases s;simp
theorem radix_cells {W:World} {m a:Nat} {cs:List Value} {pf dg:List UInt8} {b:Int} {q:List MemPlace} (h:DataW.trod (fun _=>()) Tryz.prog W 0 (fun _=>true) false m 215 ((cs.drop a).take 3)=some ((.agg [.lit (.string pf),.lit (.int .i64 b),.lit (.string dg)]:DataW Unit),q)) :
    cs[a+0]?=some (.string ⟨pf.toArray⟩)∧cs[a+1]?=some (.int .i64 b)∧cs[a+2]?=some (.string ⟨dg.toArray⟩):=by
 obtain⟨y0,y1,y2,n,hx,_,h0,h1,h2⟩:=Go.Deep.trod_struct3 Tryz.underlying215 h;dsimp only at h0 h1 h2;rw[show Tryz.prog.cellsOf 9=1 by kernel_rfl]at h0 h2;rw[show Tryz.prog.cellsOf 3=1 by kernel_rfl]at h1;obtain⟨s0,e0,rfl,_⟩:=DataW.trod_string Tryz.underlying9 h0;obtain⟨z1,e1,rfl,_⟩:=DataW.trod_int Tryz.underlying3 h1;obtain⟨s2,e2,rfl,_⟩:=DataW.trod_string Tryz.underlying9 h2;have hx1:=congrArg Prod.fst hx;simp only[DataW.agg.injEq,List.cons.injEq,and_true]at hx1;obtain⟨x0,x1,x2⟩:=hx1;refine⟨?_,?_,?_⟩
 · rw[←str_of_lit x0.symm];exact piece (by omega) e0
 · injection x1 with x1;injection x1 with _ x1;rw[x1];exact piece (by omega) e1
 rw[←str_of_lit x2.symm];exact piece (by omega) e2
theorem rad_of {W:World} {lst:List (String × DataW Unit)} (hL:laidMet Tryz.prog lst W) (hm:("inarch/ints.radixes",Rows.laid_inarch_ints_radixes)∈lst):RadW W:=by
 obtain⟨g,t,cs,fuel,p,hg,ht,hv,hd⟩:=Lib.laidMet.reads hL hm;obtain rfl:=Option.some.inj ((show Tryz.prog.globalNamed "inarch/ints.radixes" = some 12 by kernel_rfl).symm.trans hg);obtain rfl:=Option.some.inj ((show (Tryz.prog.globals[12]?).map (·.type)=some 228 by kernel_rfl).symm.trans ht);obtain⟨xs,m,_,hx,_,hxl,hall⟩:=DataW.trod_array Tryz.underlying228 hd;have c3:Tryz.prog.cellsOf 215=3:=by kernel_rfl
 rw[c3]at hall;rcases xs with _|⟨a,_|⟨b,_|⟨c,_|⟨d,xs⟩⟩⟩⟩ <;> simp at hxl;have h0:=hall 0 (by decide);have h1:=hall 1 (by decide);have h2:=hall 2 (by decide);have hx1:=congrArg Prod.fst hx;simp only[Rows.laid_inarch_ints_radixes,DataW.agg.injEq,List.map_cons,List.map_nil,List.cons.injEq,and_true]at hx1;obtain⟨x0,x1,x2⟩:=hx1;obtain⟨a1,a2⟩:=a;obtain⟨b1,b2⟩:=b;obtain⟨d1,d2⟩:=c;simp only at x0 x1 x2;subst x0 x1 x2;obtain⟨k0,k1,k2⟩:=radix_cells h0;obtain⟨k3,k4,k5⟩:=radix_cells h1;obtain⟨k6,k7,k8⟩:=radix_cells h2;intro j v hj;rw[World.var?_cell hg hv j];rw[←Array.getElem?_toList]
 match j,hj with
 | 0,hj=>simp[radC]at hj;subst hj;exact k0
 | 1,hj=>simp[radC]at hj;subst hj;exact k1
 | 2,hj=>simp[radC]at hj;subst hj;exact k2
 | 3,hj=>simp[radC]at hj;subst hj;exact k3
 | 4,hj=>simp[radC]at hj;subst hj;exact k4
 | 5,hj=>simp[radC]at hj;subst hj;exact k5
 | 6,hj=>simp[radC]at hj;subst hj;exact k6
 | 7,hj=>simp[radC]at hj;subst hj;exact k7
 | 8,hj=>simp[radC]at hj;subst hj;exact k8
 | j+9,hj=>simp[radC]at hj
theorem pow_of {W:World} {lst:List (String × DataW Unit)} (hL:laidMet Tryz.prog lst W) (hm:("internal/strconv.uint64pow10",Rows.laid_internal_strconv_uint64pow10)∈lst):Lib.TabIs Tryz.prog W "internal/strconv.uint64pow10" .u64 Lib.pow10Tab:=by
 obtain⟨g,t,cs,fuel,p,hg,ht,hv,hd⟩:=Lib.laidMet.reads hL hm;obtain rfl:=Option.some.inj ((show Tryz.prog.globalNamed "internal/strconv.uint64pow10" = some 1 by kernel_rfl).symm.trans hg);obtain rfl:=Option.some.inj ((show (Tryz.prog.globals[1]?).map (·.type)=some 164 by kernel_rfl).symm.trans ht);rw[show (Rows.laid_internal_strconv_uint64pow10:DataW Unit)=Lib.tabData .u64 Lib.pow10Tab by rfl]at hd;have:=Lib.cells_of_tab Tryz.underlying164 Tryz.underlying66 (by kernel_rfl) (by kernel_rfl) hd;unfold Lib.TabIs;rw[hv,←this]
theorem err_head {W:World} {n:String} {g:Nat} {text:List UInt8} {r:List (String × DataW Unit)} (h:laidMet Tryz.prog ((n,.iface "*errors.errorString" (.ptr (.agg [.lit (.string text)])))::r) W) (hg:Tryz.prog.globalNamed n=some g) (ht:(Tryz.prog.globals[g]?).map (·.type)=some 45) :
    ∃p,W.cell? ⟨g,0,none⟩=some (.iface 280 (.pointer (some p))):=by
 obtain⟨a,s,hv,_⟩:=laid_sentinel h hg ht Tryz.underlying45 (fun u hu=>typeName_ptr_named (nm := "errors.errorString") (by kernel_rfl) (by kernel_rfl) (by decide) u hu) Tryz.underlying280 Tryz.underlying282 rfl rfl Tryz.underlying9 (by kernel_rfl) (by kernel_rfl);refine⟨a,?_⟩;rw[World.var?_cell hg hv 0];rfl
end Go.Proofs.YtfogfaagjpebcaaGreatDoor
