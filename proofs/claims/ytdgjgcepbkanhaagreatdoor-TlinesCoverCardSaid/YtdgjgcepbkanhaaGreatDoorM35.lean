/-
 The walks and plain laws that the claim rests on, part 35.
-/
import Derived.Test.YtdgjgcepbkanhaaGreatDoorM10
import Derived.Test.YtdgjgcepbkanhaaGreatDoorM50
import Derived.Test.YtdgjgcepbkanhaaGreatDoorRows
import Derived.ProofKit
import Derived.OpenShut
import Derived.LaidMore
import Derived.Lib.LaidTab
import Derived.Lib.LaidU8
import Derived.Shelf.Vars
import Derived.Deep.Strs
import Derived.Stop.LaidErr
set_option maxHeartbeats 16000000
set_option linter.all false
set_option linter.unusedVariables false
set_option linter.unusedSimpArgs false
namespace Go.Proofs.YtdgjgcepbkanhaaGreatDoor
open Go.RowKit Go.Joins
namespace Pl
def tab0 (k:Nat):UInt8 × UInt8:=match k with
 | 0=>(98,8)|1=>(116,9)|2=>(110,10)|3=>(102,12)|4=>(114,13)|5=>(34,34)|_=>(92,92)
def hexU (n:Nat):UInt8:=if n<10 then (48+n).toUInt8 else (55+n).toUInt8
def wrB (c:UInt8):List UInt8 :=
 if c=8 then [92,98] else if c=9 then [92,116] else if c=10 then [92,110] else if c=12 then [92,102] else if c=13 then [92,114] else if c=34 then [92,34] else if c=92 then [92,92]
 else if isPlain c then [c] else [92,117,48,48,hexU (c.toNat / 16),hexU (c.toNat % 16)]
def wrS (t:List UInt8):List UInt8:=34::(t.flatMap wrB++[34])
theorem not_plain (c:UInt8) (h:isPlain c=false):c≠9∧(c=0∨c=1∨c=2∨c=3∨c=4∨c=5∨c=6∨c=7∨c=8∨c=9∨c=10∨c=11∨c=12∨c=13∨c=14∨c=15∨c=16∨c=17∨c=18∨c=19∨c=20∨c=21∨c=22∨c=23∨c=24∨c=25∨c=26∨c=27∨c=28∨c=29∨c=30∨c=31∨c=127):=by
 simp[isPlain]at h;refine⟨fun e=>by subst e;simp at h,?_⟩;simp only[←UInt8.toNat_inj];have:((0:UInt8).toNat=0)∧((1:UInt8).toNat=1)∧((2:UInt8).toNat=2)∧((3:UInt8).toNat=3)∧((4:UInt8).toNat=4)∧((5:UInt8).toNat=5)∧((6:UInt8).toNat=6)∧((7:UInt8).toNat=7)∧((8:UInt8).toNat=8)∧((9:UInt8).toNat=9)∧((10:UInt8).toNat=10)∧((11:UInt8).toNat=11)∧((12:UInt8).toNat=12)∧((13:UInt8).toNat=13)∧((14:UInt8).toNat=14)∧((15:UInt8).toNat=15)∧((16:UInt8).toNat=16)∧((17:UInt8).toNat=17)∧((18:UInt8).toNat=18)∧((19:UInt8).toNat=19)∧((20:UInt8).toNat=20)∧((21:UInt8).toNat=21)∧((22:UInt8).toNat=22)∧((23:UInt8).toNat=23)∧((24:UInt8).toNat=24)∧((25:UInt8).toNat=25)∧((26:UInt8).toNat=26)∧((27:UInt8).toNat=27)∧((28:UInt8).toNat=28)∧((29:UInt8).toNat=29)∧((30:UInt8).toNat=30)∧((31:UInt8).toNat=31)∧((127:UInt8).toNat=127):=by decide
 have h9:=h.1;have hc:c.toNat<32∨c.toNat=127:=by
  rcases Nat.lt_or_ge c.toNat 32 with h'|h'
  · exact .inl h'
  exact .inr (h.2 h')
 omega
set_option maxRecDepth 100000 in
theorem step_wrB (c:UInt8) (r:List UInt8):stepBas tab0 34 (wrB c++r)=some (.go (wrB c).length [c] false):=by
 cases hp:isPlain c with
 | false =>
  obtain⟨_,hc⟩:=not_plain c hp;rcases hc with rfl|rfl|rfl|rfl|rfl|rfl|rfl|rfl|rfl|rfl|rfl|rfl|rfl|rfl|rfl|rfl|rfl|rfl|rfl|rfl|rfl|rfl|rfl|rfl|rfl|rfl|rfl|rfl|rfl|rfl|rfl|rfl|rfl
  all_goals first|kernel_rfl|rfl
 | true =>
  by_cases h9:c=9
  · subst h9;first|kernel_rfl|rfl
  by_cases h34:c=34
  · subst h34;first|kernel_rfl|rfl
  by_cases h92:c=92
  · subst h92;first|kernel_rfl|rfl
  have hn:∀k:UInt8,isPlain k=false→c≠k:=fun k hk e=>by rw[e,hk]at hp;cases hp
  have hw:wrB c=[c]:=by
   unfold wrB;rw[if_neg (hn 8 (by decide)),if_neg h9,if_neg (hn 10 (by decide)),if_neg (hn 12 (by decide)),if_neg (hn 13 (by decide)),if_neg h34,if_neg h92,if_pos hp]
  rw[hw];have e1:(c.toNat==(34:UInt8).toNat)=false:=by simp;intro e;exact h34 (UInt8.toNat_inj.1 (by rw[e];rfl))
  have e2:(c.toNat==92)=false:=by simp;intro e;exact h92 (UInt8.toNat_inj.1 (by rw[e];rfl))
  simp only[List.cons_append,List.nil_append,stepBas,e1,e2,Bool.false_eq_true,if_false];simp[itself,hp]
theorem wrB_ne (c:UInt8):wrB c≠[]:=by
 unfold wrB;repeat' split
 all_goals simp
theorem kind_short (l:List UInt8):kindStep tab0 false 34 l=stepBas tab0 34 l:=by
 unfold kindStep;rw[if_neg (by simp),if_neg (by decide)]
theorem readF_wr (t:List UInt8):∀(l r:List UInt8) (n:Nat) (out:List UInt8) (f:Nat),l.drop n=t.flatMap wrB++34::r→t.length<f →
    readF (kindStep tab0 false 34) l f n out = .ok (out++t,n+(t.flatMap wrB).length+1):=by
 induction t with
 | nil =>
  intro l r n out f h hf;obtain⟨f,rfl⟩:∃k,f=k+1:=⟨f-1,by omega⟩
  unfold readF;rw[h];simp only[List.flatMap_nil,List.nil_append,kind_short];simp[stepBas]
 | cons c t ih =>
  intro l r n out f h hf;obtain⟨f,rfl⟩:∃k,f=k+1:=⟨f-1,by simp at hf;omega⟩
  have hs:=step_wrB c (t.flatMap wrB++34::r);rw[List.flatMap_cons,List.append_assoc]at h;unfold readF;rw[h];cases hw:wrB c++(t.flatMap wrB++34::r) with
  | nil=>rw[List.append_eq_nil_iff]at hw;exact absurd hw.1 (wrB_ne c)
  | cons x y =>
   rw[hw]at hs;simp only[kind_short,hs];have hd:l.drop (n+(wrB c).length)=t.flatMap wrB++34::r:=by
    rw[←List.drop_drop,h,List.drop_left]
   have:=ih l r (n+(wrB c).length) (out++[c]) f hd (by simp at hf;omega);rw[if_neg (by simp),this];simp[List.flatMap_cons];omega
theorem strS_wr (t r:List UInt8) (ht:long (wrS t++r)=false):strS tab0 (wrS t++r) = .ok (t,(wrS t).length):=by
 unfold strS wrS;rw[wrS]at ht;simp only[List.cons_append,List.append_assoc,List.nil_append]at ht ⊢;rw[if_pos (by decide),ht,if_neg (by simp),readF_wr t _ r 1 [] _ rfl ?_]
 · simp;omega
 have hl:t.length≤(t.flatMap wrB).length:=by
  induction t with
  | nil=>simp
  | cons c t ih =>
   have h1:=List.length_pos_iff.2 (wrB_ne c);rw[List.flatMap_cons,List.length_append,List.length_cons];have h2:t.length≤(t.flatMap wrB).length:=by
    clear ih ht
    induction t with
    | nil=>simp
    | cons d t ih2 =>
     have h3:=List.length_pos_iff.2 (wrB_ne d);rw[List.flatMap_cons,List.length_append,List.length_cons];omega
   omega
 simp only[List.length_cons,List.length_append];omega
end Pl
end Go.Proofs.YtdgjgcepbkanhaaGreatDoor
namespace Go.Proofs.YtdgjgcepbkanhaaGreatDoor
open Go.ChangeShapes Go.WideShapes Go.ChangeAt Go.RowKit
theorem piece {l:List Value} {a b:Nat} (hb:b<3) {v:Value} (h:(((l.drop a).take 3).drop b).take 1=[v]):l[a+b]?=some v:=by
 have h2:=congrArg (·[0]?) h;simp only[List.getElem?_cons_zero]at h2;rw[List.getElem?_take,if_pos (by omega),List.getElem?_drop,List.getElem?_take,if_pos (by omega),List.getElem?_drop]at h2;exact h2
theorem str_of_lit {s:ByteArray} {l:List UInt8} (h:(DataW.lit (.string s.data.toList):DataW Unit) = .lit (.string l)):Value.string s = .string ⟨l.toArray⟩:=by
 injection h with h;injection h with h;subst h;cases s;simp
theorem radix_cells {W:World} {m a:Nat} {cs:List Value} {pf dg:List UInt8} {b:Int} {q:List MemPlace} (h:DataW.trod (fun _=>()) Tryz.prog W 0 (fun _=>true) false m 189 ((cs.drop a).take 3)=some ((.agg [.lit (.string pf),.lit (.int .i64 b),.lit (.string dg)]:DataW Unit),q)) :
    cs[a+0]?=some (.string ⟨pf.toArray⟩)∧cs[a+1]?=some (.int .i64 b)∧cs[a+2]?=some (.string ⟨dg.toArray⟩):=by
 obtain⟨y0,y1,y2,n,hx,_,h0,h1,h2⟩:=Go.Deep.trod_struct3 Tryz.underlying189 h;dsimp only at h0 h1 h2;rw[show Tryz.prog.cellsOf 9=1 by kernel_rfl]at h0 h2;rw[show Tryz.prog.cellsOf 3=1 by kernel_rfl]at h1;obtain⟨s0,e0,rfl,_⟩:=DataW.trod_string Tryz.underlying9 h0;obtain⟨z1,e1,rfl,_⟩:=DataW.trod_int Tryz.underlying3 h1;obtain⟨s2,e2,rfl,_⟩:=DataW.trod_string Tryz.underlying9 h2;have hx1:=congrArg Prod.fst hx;simp only[DataW.agg.injEq,List.cons.injEq,and_true]at hx1;obtain⟨x0,x1,x2⟩:=hx1;refine⟨?_,?_,?_⟩
 · rw[←str_of_lit x0.symm];exact piece (by omega) e0
 · injection x1 with x1;injection x1 with _ x1;rw[x1];exact piece (by omega) e1
 rw[←str_of_lit x2.symm];exact piece (by omega) e2
theorem rad_of {W:World} {lst:List (String × DataW Unit)} (hL:laidMet Tryz.prog lst W) (hm:("inarch/ints.radixes",Rows.laid_inarch_ints_radixes)∈lst):RadW W:=by
 obtain⟨g,t,cs,fuel,p,hg,ht,hv,hd⟩:=Lib.laidMet.reads hL hm;obtain rfl:=Option.some.inj ((show Tryz.prog.globalNamed "inarch/ints.radixes" = some 6 by kernel_rfl).symm.trans hg);obtain rfl:=Option.some.inj ((show (Tryz.prog.globals[6]?).map (·.type)=some 208 by kernel_rfl).symm.trans ht);obtain⟨xs,m,_,hx,_,hxl,hall⟩:=DataW.trod_array Tryz.underlying208 hd;have c3:Tryz.prog.cellsOf 189=3:=by kernel_rfl
 rw[c3]at hall;rcases xs with _|⟨a,_|⟨b,_|⟨c,_|⟨d,xs⟩⟩⟩⟩ <;> simp at hxl;have h0:=hall 0 (by decide);have h1:=hall 1 (by decide);have h2:=hall 2 (by decide);have hx1:=congrArg Prod.fst hx;simp only[Rows.laid_inarch_ints_radixes,DataW.agg.injEq,List.map_cons,List.map_nil,List.cons.injEq,and_true]at hx1;obtain⟨x0,x1,x2⟩:=hx1;obtain⟨a1,a2⟩:=a;obtain⟨b1,b2⟩:=b;obtain⟨d1,d2⟩:=c;simp only at x0 x1 x2;subst x0 x1 x2;obtain⟨k0,k1,k2⟩:=radix_cells h0;obtain⟨k3,k4,k5⟩:=radix_cells h1;obtain⟨k6,k7,k8⟩:=radix_cells h2;intro j v hj;rw[World.var?_cell hg hv j];rw[←Array.getElem?_toList]
 match j,hj with
 | 0,hj=>simp[radC]at hj;subst hj;exact k0
 | 1,hj=>simp[radC]at hj;subst hj;exact k1
 | 2,hj=>simp[radC]at hj;subst hj;exact k2
 | 3,hj=>simp[radC]at hj;subst hj;exact k3
 | 4,hj=>simp[radC]at hj;subst hj;exact k4
 | 5,hj=>simp[radC]at hj;subst hj;exact k5
 | 6,hj=>simp[radC]at hj;subst hj;exact k6
 | 7,hj=>simp[radC]at hj;subst hj;exact k7
 | 8,hj=>simp[radC]at hj;subst hj;exact k8
 | j+9,hj=>simp[radC]at hj
theorem pow_of {W:World} {lst:List (String × DataW Unit)} (hL:laidMet Tryz.prog lst W) (hm:("internal/strconv.uint64pow10",Rows.laid_internal_strconv_uint64pow10)∈lst):Lib.TabIs Tryz.prog W "internal/strconv.uint64pow10" .u64 Lib.pow10Tab:=by
 obtain⟨g,t,cs,fuel,p,hg,ht,hv,hd⟩:=Lib.laidMet.reads hL hm;obtain rfl:=Option.some.inj ((show Tryz.prog.globalNamed "internal/strconv.uint64pow10" = some 1 by kernel_rfl).symm.trans hg);obtain rfl:=Option.some.inj ((show (Tryz.prog.globals[1]?).map (·.type)=some 157 by kernel_rfl).symm.trans ht);rw[show (Rows.laid_internal_strconv_uint64pow10:DataW Unit)=Lib.tabData .u64 Lib.pow10Tab by rfl]at hd;have:=Lib.cells_of_tab Tryz.underlying157 Tryz.underlying124 (by kernel_rfl) (by kernel_rfl) hd;unfold Lib.TabIs;rw[hv,←this]
theorem short_cells {W:World} {m a:Nat} {cs:List Value} {x y:Int} {q:List MemPlace} (h:DataW.trod (fun _=>()) Tryz.prog W 0 (fun _=>true) false m 108 ((cs.drop a).take 2)=some ((.agg [.lit (.int .u8 x),.lit (.int .u8 y)]:DataW Unit),q)) :
    cs[a+0]?=some (.int .u8 x)∧cs[a+1]?=some (.int .u8 y):=by
 obtain⟨y0,y1,n,hx,_,h0,h1⟩:=trod_struct2 Tryz.underlying108 h;dsimp only at h0 h1;rw[show Tryz.prog.cellsOf 5=1 by kernel_rfl]at h0 h1;obtain⟨z0,e0,rfl,_⟩:=DataW.trod_int Tryz.underlying5 h0;obtain⟨z1,e1,rfl,_⟩:=DataW.trod_int Tryz.underlying5 h1;have hx1:=congrArg Prod.fst hx;simp only[DataW.agg.injEq,List.cons.injEq,and_true]at hx1;obtain⟨x0,x1⟩:=hx1;injection x0 with x0;injection x0 with _ x0;injection x1 with x1;injection x1 with _ x1;subst x0 x1;have pc:∀(b:Nat) v,b<2→(((cs.drop a).take 2).drop b).take 1=[v]→cs[a+b]?=some v:=fun b v hb h=>by
  have h2:=congrArg (·[0]?) h;simp only[List.getElem?_cons_zero]at h2;rw[List.getElem?_take,if_pos (by omega),List.getElem?_drop,List.getElem?_take,if_pos (by omega),List.getElem?_drop]at h2;exact h2
 exact⟨pc 0 _ (by omega) e0,pc 1 _ (by omega) e1⟩
theorem sh_of {W:World} {lst:List (String × DataW Unit)} (hL:laidMet Tryz.prog lst W) (hm:("inarch/tquotes.shorts",Rows.laid_inarch_tquotes_shorts)∈lst):ShW Pl.tab0 W:=by
 obtain⟨g,t,cs,fuel,p,hg,ht,hv,hd⟩:=Lib.laidMet.reads hL hm;obtain rfl:=Option.some.inj ((show Tryz.prog.globalNamed "inarch/tquotes.shorts" = some 0 by kernel_rfl).symm.trans hg);obtain rfl:=Option.some.inj ((show (Tryz.prog.globals[0]?).map (·.type)=some 109 by kernel_rfl).symm.trans ht);obtain⟨xs,m,_,hx,_,hxl,hall⟩:=DataW.trod_array Tryz.underlying109 hd;have c3:Tryz.prog.cellsOf 108=2:=by kernel_rfl
 rw[c3]at hall;rcases xs with _|⟨a,_|⟨b,_|⟨c,_|⟨d,_|⟨e,_|⟨f,_|⟨k,_|⟨l,xs⟩⟩⟩⟩⟩⟩⟩⟩ <;> simp at hxl;have h0:=hall 0 (by decide);have h1:=hall 1 (by decide);have h2:=hall 2 (by decide);have h3:=hall 3 (by decide);have h4:=hall 4 (by decide);have h5:=hall 5 (by decide);have h6:=hall 6 (by decide);have hx1:=congrArg Prod.fst hx;simp only[Rows.laid_inarch_tquotes_shorts,DataW.agg.injEq,List.map_cons,List.map_nil,List.cons.injEq,and_true]at hx1;obtain⟨x0,x1,x2,x3,x4,x5,x6⟩:=hx1;obtain⟨a1,a2⟩:=a;obtain⟨b1,b2⟩:=b;obtain⟨c1,c2⟩:=c;obtain⟨d1,d2⟩:=d;obtain⟨e1,e2⟩:=e;obtain⟨f1,f2⟩:=f;obtain⟨k1,k2⟩:=k;simp only at x0 x1 x2 x3 x4 x5 x6;subst x0 x1 x2 x3 x4 x5 x6;obtain⟨r0,r1⟩:=short_cells h0;obtain⟨r2,r3⟩:=short_cells h1;obtain⟨r4,r5⟩:=short_cells h2;obtain⟨r6,r7⟩:=short_cells h3;obtain⟨r8,r9⟩:=short_cells h4;obtain⟨r10,r11⟩:=short_cells h5;obtain⟨r12,r13⟩:=short_cells h6;intro j v hj;rw[World.var?_cell hg hv j];rw[←Array.getElem?_toList]
 match j,hj with
 | 0,hj=>simp[shC]at hj;subst hj;exact r0
 | 1,hj=>simp[shC]at hj;subst hj;exact r1
 | 2,hj=>simp[shC]at hj;subst hj;exact r2
 | 3,hj=>simp[shC]at hj;subst hj;exact r3
 | 4,hj=>simp[shC]at hj;subst hj;exact r4
 | 5,hj=>simp[shC]at hj;subst hj;exact r5
 | 6,hj=>simp[shC]at hj;subst hj;exact r6
 | 7,hj=>simp[shC]at hj;subst hj;exact r7
 | 8,hj=>simp[shC]at hj;subst hj;exact r8
 | 9,hj=>simp[shC]at hj;subst hj;exact r9
 | 10,hj=>simp[shC]at hj;subst hj;exact r10
 | 11,hj=>simp[shC]at hj;subst hj;exact r11
 | 12,hj=>simp[shC]at hj;subst hj;exact r12
 | 13,hj=>simp[shC]at hj;subst hj;exact r13
 | j+14,hj=>simp[shC]at hj
theorem err_head {W:World} {n:String} {g:Nat} {text:List UInt8} {r:List (String × DataW Unit)} (h:laidMet Tryz.prog ((n,.iface "*errors.errorString" (.ptr (.agg [.lit (.string text)])))::r) W) (hg:Tryz.prog.globalNamed n=some g) (ht:(Tryz.prog.globals[g]?).map (·.type)=some 102) :
    ∃p,W.cell? ⟨g,0,none⟩=some (.iface 264 (.pointer (some p))):=by
 obtain⟨a,s,hv,_⟩:=laid_sentinel h hg ht Tryz.underlying102 (fun u hu=>typeName_ptr_named (nm := "errors.errorString") (by kernel_rfl) (by kernel_rfl) (by decide) u hu) Tryz.underlying264 Tryz.underlying266 rfl rfl Tryz.underlying9 (by kernel_rfl) (by kernel_rfl);refine⟨a,?_⟩;rw[World.var?_cell hg hv 0];rfl
end Go.Proofs.YtdgjgcepbkanhaaGreatDoor
