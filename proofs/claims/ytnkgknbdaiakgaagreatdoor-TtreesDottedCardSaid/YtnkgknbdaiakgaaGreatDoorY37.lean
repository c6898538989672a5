/- The proof's part 37. -/
import Derived.Test.YtnkgknbdaiakgaaGreatDoorY27
import Derived.Test.YtnkgknbdaiakgaaGreatDoorY35
import Derived.Test.YtnkgknbdaiakgaaGreatDoorRows
import Derived.LaidMore
import Derived.Lib.LaidU8
import Derived.Stop.LaidErr
set_option maxHeartbeats 16000000
set_option linter.all false
namespace Go.Proofs.YtnkgknbdaiakgaaGreatDoor
open Pl Go.Proofs.Tryz Go.ChangeShapes Go.WideShapes Go.ChangeAt Go.RowKit
theorem Ogz{l:List Value}{a b:Nat}(hb:b<3){v:Value}(h:(((l.drop a).take 3).drop b).take 1=[v]):l[a+b]?=some v:=by
 have h2:=U2b (·[0]?) h;simp only[U2e]at h2;rw[U3o,U18 Ya,U2l,U3o,U18 Ya,U2l]at h2;exact h2
theorem O97{s:ByteArray}{l:List UInt8}(h:(DataW.lit (.string s.data.toList):DataW Unit)=.lit (.string l)):Value.string s=.string ⟨l.toArray⟩:=by
 injection h with h;injection h with h;subst h;cases s;simp
theorem O4i{W:World}{m a:Nat}{cs:List Value}{pf dg:List UInt8}{b:Int}{q:List MemPlace}(h:DataW.trod (λ _=>()) prog W 0 (λ _=>true) false m 205 ((cs.drop a).take 3)=some ((.agg [.lit (.string pf),.lit b,.lit (.string dg)]:DataW Unit),q)):cs[a+0]?=some (.string ⟨pf.toArray⟩)/\cs[a+1]?=some (.int .i64 b)/\cs[a+2]?=some (.string ⟨dg.toArray⟩):=by
 obtain⟨y0,y1,y2,n,hx,_,h0,h1,h2⟩:=Go.Deep.trod_struct3 underlying205 h;dsimp only at h0 h1 h2;rw[show prog.cellsOf 9=1 by kernel_rfl]at h0 h2;rw[show prog.cellsOf 3=1 by kernel_rfl]at h1;obtain⟨s0,e0,rfl,_⟩:=DataW.trod_string underlying9 h0;obtain⟨z1,e1,rfl,_⟩:=DataW.trod_int underlying3 h1;obtain⟨s2,e2,rfl,_⟩:=DataW.trod_string underlying9 h2;have qU:=U2b Prod.fst hx;simp only[DataW.agg.injEq,U24,and_true]at qU;obtain⟨x0,x1,x2⟩:=qU;refine⟨?_,?_,?_⟩;rw[<-O97 x0.symm];exact Ogz Ya e0;injection x1 with x1;injection x1 with _ x1;rw[x1];exact Ogz Ya e1
 rw[<-O97 x2.symm];exact Ogz Ya e2
theorem Ops{W:World}{lst:List (String×DataW Unit)}(hL:laidMet prog lst W)(hm:("inarch/ints.radixes",Rows.laid_inarch_ints_radixes)∈lst):V93 W:=by
 obtain⟨g,t,cs,eS,p,hg,ht,hv,hd⟩:=Lib.laidMet.reads hL hm;obtain rfl:=U2u ((show prog.globalNamed "inarch/ints.radixes" = some 6 by kernel_rfl).symm.trans hg);obtain rfl:=U2u ((show (prog.globals[6]?).map (·.type)=some 229 by kernel_rfl).symm.trans ht);obtain⟨xs,m,_,hx,_,Aq,aH⟩:=DataW.trod_array underlying229 hd;have c3:prog.cellsOf 205=3:=Yc;rw[c3]at aH;rcases xs with _|⟨a,_|⟨b,_|⟨c,_|⟨d,xs⟩⟩⟩⟩ <;> simp at Aq;have h0:=aH 0 Yd;have h1:=aH 1 Yd;have h2:=aH 2 Yd;have qU:=U2b Prod.fst hx;simp only[Rows.laid_inarch_ints_radixes,DataW.agg.injEq,U35,List.map_nil,U24,and_true]at qU;obtain⟨x0,x1,x2⟩:=qU;obtain⟨a1,a2⟩:=a;obtain⟨b1,b2⟩:=b;obtain⟨d1,d2⟩:=c;simp only at x0 x1 x2;subst x0 x1 x2;obtain⟨k0,k1,k2⟩:=O4i h0;obtain⟨k3,k4,k5⟩:=O4i h1;obtain⟨k6,k7,k8⟩:=O4i h2;intro j v hj;rw[World.var?_cell hg hv j];rw[<-Array.getElem?_toList]
 match j,hj with
 |0,hj=>simp[V5g]at hj;subst hj;exact k0
 |1,hj=>simp[V5g]at hj;subst hj;exact k1
 |2,hj=>simp[V5g]at hj;subst hj;exact k2
 |3,hj=>simp[V5g]at hj;subst hj;exact k3
 |4,hj=>simp[V5g]at hj;subst hj;exact k4
 |5,hj=>simp[V5g]at hj;subst hj;exact k5
 |6,hj=>simp[V5g]at hj;subst hj;exact k6
 |7,hj=>simp[V5g]at hj;subst hj;exact k7
 |8,hj=>simp[V5g]at hj;subst hj;exact k8
 |j+9,hj=>simp[V5g]at hj
theorem Opt{W:World}{lst:List (String×DataW Unit)}(hL:laidMet prog lst W)(hm:("internal/strconv.uint64pow10",Rows.laid_internal_strconv_uint64pow10)∈lst):Lib.TabIs prog W "internal/strconv.uint64pow10" .u64 Lib.pow10Tab:=by
 obtain⟨g,t,cs,eS,p,hg,ht,hv,hd⟩:=Lib.laidMet.reads hL hm;obtain rfl:=U2u ((show prog.globalNamed "internal/strconv.uint64pow10" = some 2 by kernel_rfl).symm.trans hg);obtain rfl:=U2u ((show (prog.globals[2]?).map (·.type)=some 217 by kernel_rfl).symm.trans ht);rw[show (Rows.laid_internal_strconv_uint64pow10:DataW Unit)=Lib.tabData .u64 Lib.pow10Tab by rfl]at hd;have:=Lib.cells_of_tab underlying217 underlying161 Yc Yc hd;unfold Lib.TabIs;rw[hv,<-this]
theorem O1m{W:World}{m a:Nat}{cs:List Value}{x y:Int}{q:List MemPlace}(h:DataW.trod (λ _=>()) prog W 0 (λ _=>true) false m 107 ((cs.drop a).take 2)=some ((.agg [.lit (.int .u8 x),.lit (.int .u8 y)]:DataW Unit),q)):cs[a+0]?=some (.int .u8 x)/\cs[a+1]?=some (.int .u8 y):=by
 obtain⟨y0,y1,n,hx,_,h0,h1⟩:=trod_struct2 underlying107 h;dsimp only at h0 h1;rw[show prog.cellsOf 5=1 by kernel_rfl]at h0 h1;obtain⟨z0,e0,rfl,_⟩:=DataW.trod_int underlying5 h0;obtain⟨z1,e1,rfl,_⟩:=DataW.trod_int underlying5 h1;have qU:=U2b Prod.fst hx;simp only[DataW.agg.injEq,U24,and_true]at qU;obtain⟨x0,x1⟩:=qU;injection x0 with x0;injection x0 with _ x0;injection x1 with x1;injection x1 with _ x1;subst x0 x1;have pc:∀(b:Nat) v,b<2->(((cs.drop a).take 2).drop b).take 1=[v]->cs[a+b]?=some v:=λ b v hb h=>by
  have h2:=U2b (·[0]?) h;simp only[U2e]at h2;rw[U3o,U18 Ya,U2l,U3o,U18 Ya,U2l]at h2;exact h2
 exact⟨pc 0 _ Ya e0,pc 1 _ Ya e1⟩
theorem Oq5{W:World}{lst:List (String×DataW Unit)}(hL:laidMet prog lst W)(hm:("inarch/tquotes.shorts",Rows.laid_inarch_tquotes_shorts)∈lst):ShW Vd W:=by
 obtain⟨g,t,cs,eS,p,hg,ht,hv,hd⟩:=Lib.laidMet.reads hL hm;obtain rfl:=U2u ((show prog.globalNamed "inarch/tquotes.shorts" = some 0 by kernel_rfl).symm.trans hg);obtain rfl:=U2u ((show (prog.globals[0]?).map (·.type)=some 108 by kernel_rfl).symm.trans ht);obtain⟨xs,m,_,hx,_,Aq,aH⟩:=DataW.trod_array underlying108 hd;have c3:prog.cellsOf 107=2:=Yc;rw[c3]at aH;rcases xs with _|⟨a,_|⟨b,_|⟨c,_|⟨d,_|⟨e,_|⟨f,_|⟨k,_|⟨l,xs⟩⟩⟩⟩⟩⟩⟩⟩ <;> simp at Aq;have h0:=aH 0 Yd;have h1:=aH 1 Yd;have h2:=aH 2 Yd;have h3:=aH 3 Yd;have h4:=aH 4 Yd;have h5:=aH 5 Yd;have h6:=aH 6 Yd;have qU:=U2b Prod.fst hx;simp only[Rows.laid_inarch_tquotes_shorts,DataW.agg.injEq,U35,List.map_nil,U24,and_true]at qU;obtain⟨x0,x1,x2,x3,x4,x5,x6⟩:=qU;obtain⟨a1,a2⟩:=a;obtain⟨b1,b2⟩:=b;obtain⟨c1,c2⟩:=c;obtain⟨d1,d2⟩:=d;obtain⟨e1,e2⟩:=e;obtain⟨f1,f2⟩:=f;obtain⟨k1,k2⟩:=k;simp only at x0 x1 x2 x3 x4 x5 x6;subst x0 x1 x2 x3 x4 x5 x6;obtain⟨r0,r1⟩:=O1m h0;obtain⟨r2,r3⟩:=O1m h1;obtain⟨r4,r5⟩:=O1m h2;obtain⟨r6,r7⟩:=O1m h3;obtain⟨r8,r9⟩:=O1m h4;obtain⟨RQ,RR⟩:=O1m h5;obtain⟨RT,RU⟩:=O1m h6;intro j v hj;rw[World.var?_cell hg hv j];rw[<-Array.getElem?_toList]
 match j,hj with
 |0,hj=>simp[shC]at hj;subst hj;exact r0
 |1,hj=>simp[shC]at hj;subst hj;exact r1
 |2,hj=>simp[shC]at hj;subst hj;exact r2
 |3,hj=>simp[shC]at hj;subst hj;exact r3
 |4,hj=>simp[shC]at hj;subst hj;exact r4
 |5,hj=>simp[shC]at hj;subst hj;exact r5
 |6,hj=>simp[shC]at hj;subst hj;exact r6
 |7,hj=>simp[shC]at hj;subst hj;exact r7
 |8,hj=>simp[shC]at hj;subst hj;exact r8
 |9,hj=>simp[shC]at hj;subst hj;exact r9
 |10,hj=>simp[shC]at hj;subst hj;exact RQ
 |11,hj=>simp[shC]at hj;subst hj;exact RR
 |12,hj=>simp[shC]at hj;subst hj;exact RT
 |13,hj=>simp[shC]at hj;subst hj;exact RU
 |j+14,hj=>simp[shC]at hj
theorem Odt{W:World}{n:String}{g:Nat}{text:List UInt8}{r:List (String×DataW Unit)}(h:laidMet prog ((n,.iface "*errors.errorString" (.ptr (.agg [.lit (.string text)])))::r) W)(hg:prog.globalNamed n=some g)(ht:(prog.globals[g]?).map (·.type)=some 115):∃p,W.cell? g=some (.iface 288 (.pointer (some p))):=by
 obtain⟨a,s,hv,_⟩:=laid_sentinel h hg ht underlying115 (λ u hu=>typeName_ptr_named (nm:="errors.errorString") Yc Yc Yd u hu) underlying288 underlying290 rfl rfl underlying9 Yc Yc;refine⟨a,?_⟩;rw[World.var?_cell hg hv 0];rfl
