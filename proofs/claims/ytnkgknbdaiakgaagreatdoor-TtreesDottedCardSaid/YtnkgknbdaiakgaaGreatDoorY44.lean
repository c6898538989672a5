/-
  TtreesDotted answers true at every list of words and every text; proved for every start at which the listed package variables hold what the program's text lays in them (the tied card).
-/
import Derived.Test.YtnkgknbdaiakgaaGreatDoorY43
import Derived.Test.YtnkgknbdaiakgaaGreatDoorY30
import Derived.Test.YtnkgknbdaiakgaaGreatDoorY32
import Derived.Test.YtnkgknbdaiakgaaGreatDoorY37
import Derived.Test.YtnkgknbdaiakgaaGreatDoorY42
import Derived.Test.YtnkgknbdaiakgaaGreatDoorCards
import Derived.Test.YtnkgknbdaiakgaaGreatDoorTie
import Derived.Lib.LaidPrint
import Derived.Lib.LaidU8T
import Derived.Lay
import Derived.Deep.DeepHandedRow
set_option maxHeartbeats 16000000
set_option linter.all false
set_option maxRecDepth 100000
namespace Go.Proofs.YtnkgknbdaiakgaaGreatDoor
section
open Pl Go.Proofs.Tryz Go.ChangeShapes Go.WideShapes Go.ChangeAt Go.RowKit Go.Shelf Go.Lib
set_option maxRecDepth 100000
theorem Ojk:ownKnob prog.godebug=none:=Yc
theorem Oaw:laidOutB prog=true:=Yc
theorem Oos{W:World}(hL:laidMet prog Rows.ttreesDottedRow.laid W)(hS:W.ShapedOpen prog):RW Vd W:=by
 have e4:=Odt hL.tail.tail.tail.tail (show prog.globalNamed "strconv.ErrRange" = some 1 by kernel_rfl) Yc;obtain⟨p,e5⟩:=Odt hL.tail.tail.tail.tail.tail (show prog.globalNamed "strconv.ErrSyntax" = some 14 by kernel_rfl) Yc;exact⟨⟨Ops hL Yn,
     Go.Proofs.cell_of_shapedOpen_int (zero:=#[(0:Int)]) (t:=3) hS Yi Yc rfl Yc Yc underlying3,e4,
     Opt hL Yn⟩,
  ⟨⟨_,e5,.inr ⟨_,_,rfl⟩⟩,Oq5 hL Yn⟩⟩
theorem Oot{W:World}(hL:laidMet prog Rows.ttreesDottedRow.laid W):Lib.PrintTabsAt 7 8 9 10 goPrintTabs W:=by
 have Pd:=Lib.laidMet.reads hL (show ("strconv.isPrint16",Rows.laid_strconv_isPrint16)∈Rows.ttreesDottedRow.laid by simp[Rows.ttreesDottedRow]);have Pe:=Lib.laidMet.reads hL (show ("strconv.isNotPrint16",Rows.laid_strconv_isNotPrint16)∈Rows.ttreesDottedRow.laid by simp[Rows.ttreesDottedRow]);have Pf:=Lib.laidMet.reads hL (show ("strconv.isPrint32",Rows.laid_strconv_isPrint32)∈Rows.ttreesDottedRow.laid by simp[Rows.ttreesDottedRow]);have Pg:=Lib.laidMet.reads hL (show ("strconv.isNotPrint32",Rows.laid_strconv_isNotPrint32)∈Rows.ttreesDottedRow.laid by simp[Rows.ttreesDottedRow]);rw[show Rows.laid_strconv_isPrint16=sliceData .u16 goPrintTabs.p16 by kernel_rfl]at Pd;rw[show Rows.laid_strconv_isNotPrint16=sliceData .u16 goPrintTabs.n16 by kernel_rfl]at Pe;rw[show Rows.laid_strconv_isPrint32=sliceData .u32 goPrintTabs.p32 by kernel_rfl]at Pf;rw[show Rows.laid_strconv_isNotPrint32=sliceData .u16 goPrintTabs.n32 by kernel_rfl]at Pg;exact⟨tabSlice_of_reads Yc (show _=some 249 by kernel_rfl) underlying249 underlying248 Yc Yi Pd,
  tabSlice_of_reads Yc (show _=some 249 by kernel_rfl) underlying249 underlying248 Yc Yi Pe,
  tabSlice_of_reads Yc (show _=some 251 by kernel_rfl) underlying251 underlying158 Yc Yi Pf,
  tabSlice_of_reads Yc (show _=some 249 by kernel_rfl) underlying249 underlying248 Yc Yi Pg,
  by decide +kernel,Yi,Yi⟩
def Oou:Go.Shelf.Ren:=⟨λ x=>x,λ|5=>5|119=>223|138=>225|139=>226|n=>n,λ|3=>4|4=>5|n=>n⟩
theorem Oov{W:World}(hL:laidMet prog Rows.ttreesDottedRow.laid W):Lib.Utf8Tabs 4 5 W:=by
 have h3:=Lib.laidMet.reads hL (show ("unicode/utf8.first",Rows.laid_unicode_utf8_first)∈Rows.ttreesDottedRow.laid by simp[Rows.ttreesDottedRow]);have h4:=Lib.laidMet.reads hL (show ("unicode/utf8.acceptRanges",Rows.laid_unicode_utf8_acceptRanges)∈Rows.ttreesDottedRow.laid by simp[Rows.ttreesDottedRow]);rw[show Rows.laid_unicode_utf8_first=Lib.firstData by kernel_rfl]at h3;rw[show Rows.laid_unicode_utf8_acceptRanges=Lib.acceptData by kernel_rfl]at h4;exact utf8Tabs_of_readsT (P:=prog) (ρ:=Oou) ⟨underlying5,Yc,Yc,Yc⟩ ⟨Yc,Yc,Yc,Yc,Yc,Yc,Yc⟩ h3 h4
theorem Ojl{w:World}{a:Addr}{v:Value}(h:w.cell? a=some v):a.block<w.heap.size:=by
 rcases U50 a.block w.heap.size with h'|h'
 exact h'
 simp[World.cell?,U4d h']at h
theorem Odu{H:Type}{kO:TypeId×Value->H}{W:World}{eS:Nat}{cs:List Value}{d:DataW H}{ps:List MemPlace}(hf:DataW.trod kO prog W 0 (λ _=>true) true eS 34 cs=some (d,ps)):∃(a:Option Addr)(Xs:List ByteArray)(c:Nat),cs=[.slice a Xs.length c]/\V98 W a Xs/\Xs.length<=c:=by
 rcases open_strings underlying34 underlying9 Yc hf with⟨il,hx⟩|⟨a,len,cap,ss,il,_,hl,hm,hz,hx,bP,_⟩
 exact⟨none,[],0,il,⟨λ j z h=>by simp at h⟩,Yb⟩
 simp only[U19]at hx;obtain⟨rfl,_⟩:=hx;simp only[U2i]at hz;obtain⟨b,off,Lr⟩:=a;refine⟨_,ss.take len,cap,by rw[U2d,Nat.min_eq_left Ya];exact il,⟨λ j X hX=>?_⟩,by rw[U2d];omega⟩;have hj:j<len:=by
  have:=(U16.1 hX).1;simp at this;omega
 have Eb:Lr=none:=by simpa [Addr.add]using World.cell?_spot (bP 0 Ya)
 subst Eb;have iy:ss.getD j ByteArray.empty=X:=by
  rw[List.getElem?_take_of_lt hj]at hX;simp[List.getD,hX]
 refine⟨b,off,rfl,Ojl (bP 0 Ya),?_⟩;rw[show (⟨b,off+j,none⟩:Addr)=(⟨b,off,none⟩:Addr).add j by by_cases Ab:j=0 <;> simp[Addr.add,Ab],<-iy];exact bP j Ya
theorem Oeq{H:Type}{kO:TypeId×Value->H}{W:World}{b0:Nat}{v:Value}{d:DataW H}{ps:List MemPlace}(co:Value.okWide prog W .any b0 34 v)(h:DataW.Trod kO prog W 0 (λ _=>true) true 34 v d ps):∃(a:Option Addr)(Xs:List ByteArray)(c:Nat),v=.slice a Xs.length c/\V98 W a Xs/\Xs.length<=c:=by
 obtain⟨a0,len,cap,rfl⟩:=okWide_slice underlying34 co;obtain⟨eS,hf⟩:=h;obtain⟨a,Xs,c,il,h1,h3⟩:=Odu hf;have hv:Value.slice a0 len cap=.slice a Xs.length c:=by simpa [Value.cells]using il
 exact⟨a,Xs,c,hv,h1,h3⟩
theorem Oa0(H:Type)(kO:TypeId×Value->H)(W:World)(base:Nat)(args:Array Value)(ds gs:List (DataW H))(lO:List MemPlace)(co:∀(j:Nat) t v,Tryz.f5.params[j]?=some t->args[j]?=some v->Value.okWide prog W .any base t v)(hW:DataW.Whole kO prog Tryz.f5.params.toList Rows.ttreesDottedSpec.vars false W args.toList ds gs lO)(hL:laidMetH prog Rows.ttreesDottedRow.laid W)(hS:W.ShapedOpen prog):Calls prog 5 args W λ e W'=>∃v,e=.returned v/\Rows.ttreesDottedSpec.post kO prog Tryz.f5 false true false false W args v W':=by
 have Ls:=hW;rw[MakeChecks.laidMetH_plain _ _ _ Yc]at hL;obtain⟨p,q,Do,hV,rfl,EC,bT⟩:=hW;have hA:DataW.TrodAll kO prog W 0 (λ _=>true) true Tryz.f5.params.toList args.toList ds p:=Do;rw[params5]at hA co;obtain⟨v0,v1,d0,d1,p0,p1,rfl,rfl,rfl,h0,h1⟩:=trodAll_two hA;obtain⟨rfl,rfl⟩:=trodVars_none hV;have TS:=h0;have TT:=h1;obtain⟨a0,ws,c0,rfl,mh,Lf⟩:=Oeq (co 0 34 v0 Yb Yb) h0;obtain⟨v,rfl,rfl,rfl,hs⟩:=Go.ChangeMaps.open_string underlying9 (co 1 9 v1 Yb Yb) h1;clear Do h0 h1;simp only[U3k]at Ls;have aa:∀x∈p0++[],x.block<W.heap.size:=λ x hx=>by simpa using Ls.lt x (by simpa using hx)
 have hT:=Oos hL hS;refine (Ogy goPrintTabs W hT ⟨hT.int,Oot hL,Oov hL⟩ a0 ws c0 mh Lf v).mono λ e W' ⟨he,hg⟩=>?_
 subst he;have Lt:Below W W W':=hg;refine⟨_,rfl,_,_,_,[],p0++[],[],Ls,trodAll_mk1 (shut_bool underlying4 _),trodAll_mk2 (Below.trod Oaw Yc (of_decide_eq_true Yc) TS Lt (λ x hx=>aa x (by simp[hx]))) (Below.trod Oaw Yc (of_decide_eq_true Yc) TT Lt (λ x hx=>by cases hx)),rfl,Lt.frame _,λ h=>by cases h⟩
theorem Oer(os:Os){H:Type}(kO:TypeId×Value->H):∃rx,DataW.whole kO prog ((World.laidAll prog os Rows.ttreesDottedRow.laid).forCall (λ _ _=>0) ⟨#[],#[.slice none 0 0,.string ⟨#[]⟩],[]⟩).memory Tryz.f5.params.toList Rows.ttreesDottedSpec.vars false #[Value.slice none 0 0,.string ⟨#[]⟩].toList 8=some ([.nil,.lit (.string [])],[],rx) :=
 ⟨[],Yc⟩
theorem Oh0(os:Os):laidMetH prog Rows.ttreesDottedRow.laid ((World.laidAll prog os Rows.ttreesDottedRow.laid).forCall (λ _ _=>0) ⟨#[],#[.slice none 0 0,.string ⟨#[]⟩],[]⟩).memory:=by
 rw[MakeChecks.laidMetH_plain _ _ _ Yc];exact laidMet_laidAll _ Yc Yc
theorem Odv(os:Os)(jr:os.Started)(H:Type)(kO:TypeId×Value->H)(F:Stop.Interp):ReturnsInHanded {} Tryz.checked os 5 .any ((OpenSpec.ofChange Rows.ttreesDottedSpec).preRow kO prog Tryz.f5 Rows.ttreesDottedRow.domain false Rows.ttreesDottedRow.laid) (((OpenSpec.ofChange Rows.ttreesDottedSpec).at F).post kO prog Tryz.f5 false true false false):=by
 obtain⟨rx,hx⟩:=Oer os kO;have lC:Input.okWideB Tryz.checked.prog ((World.laidAll prog os Rows.ttreesDottedRow.laid).forCall (λ _ _=>0) ⟨#[],#[.slice none 0 0,.string ⟨#[]⟩],[]⟩) 5 ⟨#[],#[.slice none 0 0,.string ⟨#[]⟩],[]⟩=true:=Yc;refine returnsInHanded_of_row (C:=Tryz.checked) (s:=OpenSpec.ofChange Rows.ttreesDottedSpec) Ojk jr Yc func5
  ⟨World.laidAll prog os Rows.ttreesDottedRow.laid,λ _ _=>0,⟨#[],#[.slice none 0 0,.string ⟨#[]⟩],[]⟩,World.laidAll_os _ _ _,World.shaped_of_ZipB Yc Yc,(Input.okWide_of_okWideB (base:=0) lC).1,(Input.okWide_of_okWideB lC).2,
   OpenSpec.preRow_of_cond 8 hx Yc (λ k hk=>by cases hk) Yc (Oh0 os),by
    simp only[Assume.holds];exact⟨Yb,Yb,λ _=>Modest.zero,Yb,Yb⟩⟩ ?_
 intro W base args ds gs lO co hW _ _ _ hL hS _;exact Oa0 H kO W base args ds gs lO co hW hL hS
theorem Oh1:Rows.TtreesDottedSaid :=
 OpenClaim.holds_of_cond 5 Tryz.f5 rfl rfl rfl rfl rfl rfl rfl ⟨rfl,rfl,rfl,rfl,rfl⟩ rfl rfl rfl rfl rfl Yc func5 Yc
  (of_decide_eq_true Yc) (by unfold Func.isWrapper;first|(rw[U18 Yi];kernel_rfl)|(rw[U1b Yi];exact⟨rfl,rfl⟩))
  (λ os jr H kO _ F=>by rw[OpenClaim.pre_eq_preRow];exact Odv os jr H kO F)
theorem Oes(f:FuncId)(fn:Func)(hf:Tryz.pinned.checked.prog.funcNamed "inarch/inarchlaw13.TtreesDotted" = some f)(GX:Tryz.pinned.checked.prog.funcs[f]?=some fn):true=Tryz.pinned.checked.prog.looks []/\∀(j:Nat) t,fn.params[j]?=some t->Tryz.pinned.checked.prog.wantsStandIn t=false:=by
 obtain rfl:f=5:=U2u ((show prog.funcNamed "inarch/inarchlaw13.TtreesDotted" = some 5 by kernel_rfl).symm.trans hf) |>.symm;obtain rfl:fn=Tryz.f5:=(U2u (func5.symm.trans GX)).symm;refine⟨Yc,λ j t ht=>?_⟩;rw[params5]at ht;have hm:t∈[34,9]:=by simpa using Array.mem_of_getElem? ht
 have aH:([34,9].all λ u => !prog.wantsStandIn u)=true:=Yc;have:=U2h.1 aH t hm;show prog.wantsStandIn t=false;exact J4
theorem dottedCard:Rows.TtreesDottedCardSaid :=
 Claim7.holds_tied_plain_at .later [] _ _ _ _ Oh1 (λ _ h=>by cases h) Yc (λ _ h=>by cases h) ttreesDotted_row_tie rfl ⟨rfl,rfl⟩ Yc rfl Oes Yc
end
