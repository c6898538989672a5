/-
  TtreesSpans answers true at every text; proved for every start at which the listed package variables hold what the program's text lays in them (the tied card).
-/
import Derived.Test.YtnkgknbdaiakgaaGreatDoorQ44
import Derived.Test.YtnkgknbdaiakgaaGreatDoorQ38
import Derived.Test.YtnkgknbdaiakgaaGreatDoorQ43
import Derived.Test.YtnkgknbdaiakgaaGreatDoorCards
import Derived.Test.YtnkgknbdaiakgaaGreatDoorTie
import Derived.Lib.LaidPrint
import Derived.Lib.LaidU8T
import Derived.Lay
import Derived.Deep.DeepHandedRow
set_option maxHeartbeats 16000000
set_option linter.all false
set_option maxRecDepth 100000
namespace Go.Proofs.YtnkgknbdaiakgaaGreatDoor
section
open Pl Go.Proofs.Tryz Go.ChangeShapes Go.WideShapes Go.ChangeAt Go.RowKit Go.Shelf Go.Lib
set_option maxRecDepth 100000
theorem Olf:ownKnob prog.godebug=none:=Yc
theorem Oir:laidOutB prog=true:=Yc
theorem Oow{W:World}(hL:laidMet prog Rows.ttreesSpansRow.laid W)(hS:W.ShapedOpen prog):∃T,RW T W:=by
 have e4:=Ocy hL.tail.tail.tail.tail (show prog.globalNamed "strconv.ErrRange" = some 1 by kernel_rfl) Yc;obtain⟨p,e5⟩:=Ocy hL.tail.tail.tail.tail.tail (show prog.globalNamed "strconv.ErrSyntax" = some 14 by kernel_rfl) Yc;obtain⟨T,hT⟩:=Oov hS;exact⟨T,⟨Oot hL (by simp[Rows.ttreesSpansRow]),
     Go.Proofs.cell_of_shapedOpen_int (zero:=#[(0:Int)]) (t:=3) hS Yg Yc rfl Yc Yc underlying3,e4,
     Oou hL (by simp[Rows.ttreesSpansRow])⟩,
  ⟨⟨_,e5,.inr ⟨_,_,rfl⟩⟩,hT⟩⟩
theorem Oox{W:World}(hL:laidMet prog Rows.ttreesSpansRow.laid W):Lib.PrintTabsAt 7 8 9 10 goPrintTabs W:=by
 have PC:=Lib.laidMet.reads hL (show ("strconv.isPrint16",Rows.laid_strconv_isPrint16)∈Rows.ttreesSpansRow.laid by simp[Rows.ttreesSpansRow]);have PD:=Lib.laidMet.reads hL (show ("strconv.isNotPrint16",Rows.laid_strconv_isNotPrint16)∈Rows.ttreesSpansRow.laid by simp[Rows.ttreesSpansRow]);have PE:=Lib.laidMet.reads hL (show ("strconv.isPrint32",Rows.laid_strconv_isPrint32)∈Rows.ttreesSpansRow.laid by simp[Rows.ttreesSpansRow]);have PF:=Lib.laidMet.reads hL (show ("strconv.isNotPrint32",Rows.laid_strconv_isNotPrint32)∈Rows.ttreesSpansRow.laid by simp[Rows.ttreesSpansRow]);rw[show Rows.laid_strconv_isPrint16=sliceData .u16 goPrintTabs.p16 by kernel_rfl]at PC;rw[show Rows.laid_strconv_isNotPrint16=sliceData .u16 goPrintTabs.n16 by kernel_rfl]at PD;rw[show Rows.laid_strconv_isPrint32=sliceData .u32 goPrintTabs.p32 by kernel_rfl]at PE;rw[show Rows.laid_strconv_isNotPrint32=sliceData .u16 goPrintTabs.n32 by kernel_rfl]at PF;exact⟨tabSlice_of_reads Yc (show _=some 249 by kernel_rfl) underlying249 underlying248 Yc Yg PC,
  tabSlice_of_reads Yc (show _=some 249 by kernel_rfl) underlying249 underlying248 Yc Yg PD,
  tabSlice_of_reads Yc (show _=some 251 by kernel_rfl) underlying251 underlying158 Yc Yg PE,
  tabSlice_of_reads Yc (show _=some 249 by kernel_rfl) underlying249 underlying248 Yc Yg PF,
  by decide +kernel,Yg,Yg⟩
def Ooy:Go.Shelf.Ren:=⟨λ x=>x,λ|5=>5|119=>223|138=>225|139=>226|n=>n,λ|3=>4|4=>5|n=>n⟩
theorem Ooz{W:World}(hL:laidMet prog Rows.ttreesSpansRow.laid W):Lib.Utf8Tabs 4 5 W:=by
 have h3:=Lib.laidMet.reads hL (show ("unicode/utf8.first",Rows.laid_unicode_utf8_first)∈Rows.ttreesSpansRow.laid by simp[Rows.ttreesSpansRow]);have h4:=Lib.laidMet.reads hL (show ("unicode/utf8.acceptRanges",Rows.laid_unicode_utf8_acceptRanges)∈Rows.ttreesSpansRow.laid by simp[Rows.ttreesSpansRow]);rw[show Rows.laid_unicode_utf8_first=Lib.firstData by kernel_rfl]at h3;rw[show Rows.laid_unicode_utf8_acceptRanges=Lib.acceptData by kernel_rfl]at h4;exact utf8Tabs_of_readsT (P:=prog) (ρ:=Ooy) ⟨underlying5,Yc,Yc,Yc⟩ ⟨Yc,Yc,Yc,Yc,Yc,Yc,Yc⟩ h3 h4
theorem Olg{w:World}{a:Addr}{v:Value}(h:w.cell? a=some v):a.block<w.heap.size:=by
 rcases Nat.lt_or_ge a.block w.heap.size with h'|h'
 exact h'
 simp[World.cell?,U46 h']at h
theorem Ofz{H:Type}{mT:TypeId×Value->H}{W:World}{b0:Nat}{v:Value}{d:DataW H}{ps:List MemPlace}(du:Value.okWide prog W .any b0 22 v)(h:DataW.Trod mT prog W 0 (λ _=>true) true 22 v d ps):∃(a:Option Addr)(gs:List UInt8)(c:Nat),v=.slice a gs.length c/\V95 W a gs/\gs.length<=c:=by
 obtain⟨a0,len,cap,rfl⟩:=okWide_slice underlying22 du;obtain⟨ix,hf⟩:=h;rcases open_ints underlying22 underlying5 Yc hf with⟨jr,hx⟩|⟨a,M0,nL,zs,jr,_,hl,hm,hz,hx,aQ,Jd⟩
 have hv:Value.slice a0 len cap=.slice none 0 0:=by simpa [Value.cells]using jr
 exact⟨none,[],0,hv,⟨λ j z h=>by simp at h⟩,U12 _⟩
 have hv:Value.slice a0 len cap=.slice (some a) M0 nL:=by simpa [Value.cells]using jr
 simp only[U3h]at hv;obtain⟨rfl,rfl,rfl⟩:=hv;simp only[U2o]at hz;obtain⟨b,off,spot⟩:=a;have ap:((zs.take len).map λ n=>UInt8.ofNat n.toNat).length=len:=by rw[U1j,U26,Nat.min_eq_left Ya]
 refine⟨_,(zs.take len).map λ n=>UInt8.ofNat n.toNat,cap,by rw[ap],⟨λ j X hX=>?_⟩,by rw[ap];exact hl⟩;have hj:j<len:=by
  have:=(U14.1 hX).1;simp at this;omega
 have kT:spot=none:=by simpa [Addr.add]using World.cell?_spot (aQ 0 Ya)
 subst kT;obtain⟨n,hn⟩:∃n,zs[j]?=some n:=⟨_,U1e Ya⟩
 rw[U1m,List.getElem?_take_of_lt hj,hn]at hX;simp only[U25,U1f]at hX;have hd:zs.getD j 0=n:=by simp[List.getD,hn]
 have hw:=Jd n (U2p hn);have hr:0<=n/\n<=255:=by simpa [Lit.wf,IntKind.min,IntKind.max,IntKind.signed,IntKind.bits]using hw
 refine⟨b,off,rfl,Olg (aQ 0 Ya),?_⟩;have hc:=aQ j Ya;rw[show ((⟨b,off,none⟩:Addr).add j)=⟨b,off+j,none⟩ by by_cases qo:j=0 <;> simp[Addr.add,qo],hd]at hc;rw[hc,<-hX];have:(UInt8.ofNat n.toNat).toNat=n.toNat:=by
  rw[UInt8.toNat_ofNat'];exact Nat.mod_eq_of_lt Ya
 simp only[this];congr 2;omega
theorem Oan(H:Type)(mT:TypeId×Value->H)(W:World)(base:Nat)(args:Array Value)(ds gs:List (DataW H))(mc:List MemPlace)(du:∀(j:Nat) t v,Tryz.f3.params[j]?=some t->args[j]?=some v->Value.okWide prog W .any base t v)(hW:DataW.Whole mT prog Tryz.f3.params.toList Rows.ttreesSpansSpec.vars false W args.toList ds gs mc)(hL:laidMetH prog Rows.ttreesSpansRow.laid W)(hS:W.ShapedOpen prog):Calls prog 3 args W λ e W'=>∃v,e=.returned v/\Rows.ttreesSpansSpec.post mT prog Tryz.f3 false true false false W args v W':=by
 have M1:=hW;rw[MakeChecks.laidMetH_plain _ _ _ Yc]at hL;obtain⟨p,q,DV,hV,rfl,BZ,aL⟩:=hW;have hA:DataW.TrodAll mT prog W 0 (λ _=>true) true Tryz.f3.params.toList args.toList ds p:=DV;rw[params3]at hA du;obtain⟨v0,d0,rfl,rfl,h0⟩:=trodAll_one hA;obtain⟨rfl,rfl⟩:=trodVars_none hV;have U0:=h0;obtain⟨a0,l,c0,rfl,hl,mB⟩:=Ofz (du 0 22 v0 Yb Yb) h0;clear DV h0;simp only[U3j]at M1;have a9:∀x∈p,x.block<W.heap.size:=λ x hx=>by simpa using M1.lt x (by simpa using hx)
 obtain⟨T,hT⟩:=Oow hL hS;refine (Oiq T goPrintTabs W hT ⟨hT.int,Oox hL,Ooz hL⟩ a0 l c0 hl mB).mono λ e W' ⟨he,hg⟩=>?_
 subst he;have PG:Below W W W':=hg;exact⟨_,rfl,_,_,_,[],p,[],M1,trodAll_mk1 (shut_bool underlying4 _),trodAll_mk1 (Below.trod Oir Yc (of_decide_eq_true Yc) U0 PG a9),rfl,PG.frame _,λ h=>by cases h⟩
theorem Og0(os:Os){H:Type}(mT:TypeId×Value->H):∃si,DataW.whole mT prog ((World.laidAll prog os Rows.ttreesSpansRow.laid).forCall (λ _ _=>0) ⟨#[],#[.slice none 0 0],[]⟩).memory Tryz.f3.params.toList Rows.ttreesSpansSpec.vars false #[Value.slice none 0 0].toList 8=some ([.nil],[],si) :=
 ⟨[],Yc⟩
theorem Ois(os:Os):laidMetH prog Rows.ttreesSpansRow.laid ((World.laidAll prog os Rows.ttreesSpansRow.laid).forCall (λ _ _=>0) ⟨#[],#[.slice none 0 0],[]⟩).memory:=by
 rw[MakeChecks.laidMetH_plain _ _ _ Yc];exact laidMet_laidAll _ Yc Yc
theorem Odr(os:Os)(jI:os.Started)(H:Type)(mT:TypeId×Value->H)(F:Stop.Interp):ReturnsInHanded {} Tryz.checked os 3 .any ((OpenSpec.ofChange Rows.ttreesSpansSpec).preRow mT prog Tryz.f3 Rows.ttreesSpansRow.domain false Rows.ttreesSpansRow.laid) (((OpenSpec.ofChange Rows.ttreesSpansSpec).at F).post mT prog Tryz.f3 false true false false):=by
 obtain⟨si,hx⟩:=Og0 os mT;have kR:Input.okWideB Tryz.checked.prog ((World.laidAll prog os Rows.ttreesSpansRow.laid).forCall (λ _ _=>0) ⟨#[],#[.slice none 0 0],[]⟩) 3 ⟨#[],#[.slice none 0 0],[]⟩=true:=Yc;refine returnsInHanded_of_row (C:=Tryz.checked) (s:=OpenSpec.ofChange Rows.ttreesSpansSpec) Olf jI Yc func3
  ⟨World.laidAll prog os Rows.ttreesSpansRow.laid,λ _ _=>0,⟨#[],#[.slice none 0 0],[]⟩,World.laidAll_os _ _ _,World.shaped_of_ZipB Yc Yc,(Input.okWide_of_okWideB (base:=0) kR).1,(Input.okWide_of_okWideB kR).2,
   OpenSpec.preRow_of_cond 8 hx Yc (λ k hk=>by cases hk) Yc (Ois os),by
    simp only[Assume.holds];exact⟨Yb,Yb,λ _=>Modest.zero,Yb,Yb⟩⟩ ?_
 intro W base args ds gs mc du hW _ _ _ hL hS _;exact Oan H mT W base args ds gs mc du hW hL hS
theorem Oit:Rows.TtreesSpansSaid :=
 OpenClaim.holds_of_cond 3 Tryz.f3 rfl rfl rfl rfl rfl rfl rfl ⟨rfl,rfl,rfl,rfl,rfl⟩ rfl rfl rfl rfl rfl Yc func3 Yc
  (of_decide_eq_true Yc) (by unfold Func.isWrapper;first|(rw[U1a Yg];kernel_rfl)|(rw[U1c Yg];exact⟨rfl,rfl⟩))
  (λ os jI H mT _ F=>by rw[OpenClaim.pre_eq_preRow];exact Odr os jI H mT F)
theorem Og1(f:FuncId)(fn:Func)(hf:Tryz.pinned.checked.prog.funcNamed "inarch/inarchlaw13.TtreesSpans" = some f)(HJ:Tryz.pinned.checked.prog.funcs[f]?=some fn):true=Tryz.pinned.checked.prog.looks []/\∀(j:Nat) t,fn.params[j]?=some t->Tryz.pinned.checked.prog.wantsStandIn t=false:=by
 obtain rfl:f=3:=U2m ((show prog.funcNamed "inarch/inarchlaw13.TtreesSpans" = some 3 by kernel_rfl).symm.trans hf) |>.symm;obtain rfl:fn=Tryz.f3:=(U2m (func3.symm.trans HJ)).symm;refine⟨Yc,λ j t ht=>?_⟩;rw[params3]at ht;have hm:t∈[22]:=by simpa using Array.mem_of_getElem? ht
 have aT:([22].all λ u => !prog.wantsStandIn u)=true:=Yc;have:=U2k.1 aT t hm;show prog.wantsStandIn t=false;exact J5
theorem spansCard:Rows.TtreesSpansCardSaid :=
 Claim7.holds_tied_plain_at .later [] _ _ _ _ Oit (λ _ h=>by cases h) Yc (λ _ h=>by cases h) ttreesSpans_row_tie rfl ⟨rfl,rfl⟩ Yc rfl Og1 Yc
end
