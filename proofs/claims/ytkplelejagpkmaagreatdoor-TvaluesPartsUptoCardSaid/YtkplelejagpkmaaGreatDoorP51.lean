/-
  TvaluesParts answers true, where what it reads is of bulk at most 1048576, at every list of values' texts, words and gaps; proved for every start at which the listed package variables hold what the program's text lays in them (the tied card of the second form).
-/
import Derived.Test.YtkplelejagpkmaaGreatDoorP35
import Derived.Test.YtkplelejagpkmaaGreatDoorP50
import Derived.Test.YtkplelejagpkmaaGreatDoorCards
import Derived.Test.YtkplelejagpkmaaGreatDoorTie
import Derived.WalkKit
import Derived.ChangeMaps5
import Derived.ProofKit
import Derived.OpenShut
import Derived.LaidMore
import Derived.Lay
import Derived.Carry
import Derived.SliceStrings
import Derived.Deep.DeepHandedRow
import Derived.SevenTiedAt
import Derived.Stop.Joined
set_option maxHeartbeats 16000000
set_option linter.all false
set_option linter.unusedVariables false
set_option linter.unusedSimpArgs false
namespace Go.Proofs.YtkplelejagpkmaaGreatDoor
open Go.ChangeShapes Go.WideShapes Go.ChangeAt Go.RowKit
set_option maxRecDepth 100000
theorem ownNoneP:ownKnob Tryz.prog.godebug=none:=by kernel_rfl
theorem laidOutP:laidOutB Tryz.prog=true:=by kernel_rfl
theorem rw_ofQ {W:World} (hL:laidMet Tryz.prog Rows.tvaluesPartsUptoRow.laid W) (hS:W.ShapedOpen Tryz.prog):RW Pl.tab0 W:=by
 have e4:=err_head hL.tail.tail.tail.tail (show Tryz.prog.globalNamed "strconv.ErrRange" = some 2 by kernel_rfl) (by kernel_rfl);obtain⟨p,e5⟩:=err_head hL.tail.tail.tail.tail.tail (show Tryz.prog.globalNamed "strconv.ErrSyntax" = some 4 by kernel_rfl) (by kernel_rfl);exact⟨⟨rad_of hL (List.mem_cons_of_mem _ (List.mem_cons_of_mem _ (List.mem_cons_of_mem _ (List.mem_cons_of_mem _ (List.mem_cons_of_mem _ (List.mem_cons_of_mem _ List.mem_cons_self)))))),
     Go.Proofs.cell_of_shapedOpen_int (zero:=#[.int .i64 0]) (t:=3) hS (by decide +kernel) (by kernel_rfl) rfl (by kernel_rfl) (by kernel_rfl) Tryz.underlying3,e4,
     pow_of hL (List.mem_cons_of_mem _ (List.mem_cons_of_mem _ List.mem_cons_self))⟩,
  ⟨⟨_,e5,.inr ⟨_,_,rfl⟩⟩,sh_of hL (List.mem_cons_of_mem _ (List.mem_cons_of_mem _ (List.mem_cons_of_mem _ (List.mem_cons_of_mem _ (List.mem_cons_of_mem _ (List.mem_cons_of_mem _ (List.mem_cons_of_mem _ List.mem_cons_self)))))))⟩⟩
theorem cell_ltP {w:World} {a:Addr} {v:Value} (h:w.cell? a=some v):a.block<w.heap.size:=by
 rcases Nat.lt_or_ge a.block w.heap.size with h'|h'
 · exact h'
 simp[World.cell?,Array.getElem?_eq_none h']at h
theorem bulk_strs {H:Type} (Xs:List ByteArray):Rows.uptoBulkAll (strs (H:=H) Xs)=(Xs.map (·.size)).sum+Xs.length:=by
 induction Xs with
 | nil=>rfl
 | cons x xs ih =>
  have h1:strs (H:=H) (x::xs) = .lit (.string x.data.toList)::strs xs:=rfl;have h2:x.data.toList.length=x.size:=bs_length x;rw[h1];simp only[Rows.uptoBulkAll,Rows.uptoBulk,List.map_cons,List.sum_cons,List.length_cons,ih,h2];omega
theorem mem_sum:∀(l:List ByteArray) (z:ByteArray),z∈l→z.size≤(l.map (·.size)).sum
 | [],z,h=>by cases h
 | x::xs,z,h=>by
  rw[List.map_cons,List.sum_cons];rcases List.mem_cons.1 h with rfl|h
  · omega
  have:=mem_sum xs z h;omega
theorem open_strs0 {H:Type} {enc:TypeId × Value→H} {W:World} {fuel:Nat} {cs:List Value} {d:DataW H} {ps:List MemPlace} (hf:DataW.trod enc Tryz.prog W 0 (fun _=>true) true fuel 22 cs=some (d,ps)) :
    ∃(a:Option Addr) (Xs:List ByteArray) (c:Nat),cs=[.slice a Xs.length c]∧StrsV W a Xs∧Xs.length≤c∧(Xs.map (·.size)).sum≤Rows.uptoBulk d:=by
 rcases open_strings Tryz.underlying22 Tryz.underlying9 (by kernel_rfl) hf with⟨hcs,hx⟩|⟨a,len,cap,ss,hcs,_,hl,hm,hz,hx,hcell,_⟩
 · exact⟨none,[],0,hcs,⟨fun j z h=>by simp at h⟩,by simp,by simp⟩
 simp only[Prod.mk.injEq]at hx;obtain⟨rfl,_⟩:=hx;simp only[if_true]at hz;obtain⟨b,off,spot⟩:=a;refine⟨_,ss.take len,cap,by rw[List.length_take,Nat.min_eq_left (by omega)];exact hcs,⟨fun j X hX=>?_⟩,by rw[List.length_take];omega,?_⟩
 · have hj:j<len:=by
    have:=(List.getElem?_eq_some_iff.1 hX).1;simp at this;omega
   have hspot:spot=none:=by simpa [Addr.add]using World.cell?_spot (hcell 0 (by omega))
   subst hspot;have hX':ss.getD j ByteArray.empty=X:=by
    rw[List.getElem?_take_of_lt hj]at hX;simp[List.getD,hX]
   refine⟨b,off,rfl,cell_ltP (hcell 0 (by omega)),?_⟩;rw[←add_plain,←hX'];exact hcell j (by omega)
 have:=bulk_strs (H:=H) (ss.take len);simp only[Rows.uptoBulk];omega
theorem open_strsP {H:Type} {enc:TypeId × Value→H} {W:World} {b0:Nat} {v:Value} {d:DataW H} {ps:List MemPlace} (hval:Value.okWide Tryz.prog W .any b0 22 v) (h:DataW.Trod enc Tryz.prog W 0 (fun _=>true) true 22 v d ps) :
    ∃(a:Option Addr) (Xs:List ByteArray) (c:Nat),v = .slice a Xs.length c∧StrsV W a Xs∧Xs.length≤c∧(Xs.map (·.size)).sum≤Rows.uptoBulk d:=by
 obtain⟨a0,len,cap,rfl⟩:=okWide_slice Tryz.underlying22 hval;obtain⟨fuel,hf⟩:=h;obtain⟨a,Xs,c,hcs,h1,h3,h2⟩:=open_strs0 hf;have hv:Value.slice a0 len cap = .slice a Xs.length c:=by simpa [Value.cells]using hcs
 exact⟨a,Xs,c,hv,h1,h3,h2⟩
theorem open_bytsP {H:Type} {enc:TypeId × Value→H} {W:World} {b0:Nat} {v:Value} {d:DataW H} {ps:List MemPlace} (hval:Value.okWide Tryz.prog W .any b0 23 v) (h:DataW.Trod enc Tryz.prog W 0 (fun _=>true) true 23 v d ps) :
    ∃(a:Option Addr) (gs:List UInt8) (c:Nat),v = .slice a gs.length c∧BytsV W a gs:=by
 obtain⟨a0,len,cap,rfl⟩:=okWide_slice Tryz.underlying23 hval;obtain⟨fuel,hf⟩:=h;rcases open_ints Tryz.underlying23 Tryz.underlying5 (by kernel_rfl) hf with⟨hcs,hx⟩|⟨a,len',cap',zs,hcs,_,hl,hm,hz,hx,hcell,hwf⟩
 · have hv:Value.slice a0 len cap = .slice none 0 0:=by simpa [Value.cells]using hcs
   exact⟨none,[],0,hv,⟨fun j z h=>by simp at h⟩⟩
 have hv:Value.slice a0 len cap = .slice (some a) len' cap':=by simpa [Value.cells]using hcs
 simp only[Value.slice.injEq]at hv;obtain⟨rfl,rfl,rfl⟩:=hv;simp only[if_true]at hz;obtain⟨b,off,spot⟩:=a;refine⟨_,(zs.take len).map fun n=>UInt8.ofNat n.toNat,cap,by rw[List.length_map,List.length_take,Nat.min_eq_left (by omega)],⟨fun j X hX=>?_⟩⟩;have hj:j<len:=by
  have:=(List.getElem?_eq_some_iff.1 hX).1;simp at this;omega
 have hspot:spot=none:=by simpa [Addr.add]using World.cell?_spot (hcell 0 (by omega))
 subst hspot;obtain⟨n,hn⟩:∃n,zs[j]?=some n:=⟨_,List.getElem?_eq_getElem (by omega)⟩
 rw[List.getElem?_map,List.getElem?_take_of_lt hj,hn]at hX;simp only[Option.map_some,Option.some.injEq]at hX;have hd:zs.getD j 0=n:=by simp[List.getD,hn]
 have hw:=hwf n (List.mem_of_getElem? hn);have hr:0≤n∧n≤255:=by simpa [Lit.wf,IntKind.min,IntKind.max,IntKind.signed,IntKind.bits]using hw
 refine⟨b,off,rfl,cell_ltP (hcell 0 (by omega)),?_⟩;have hc:=hcell j (by omega);rw[add_plain,hd]at hc;rw[hc,←hX];have:(UInt8.ofNat n.toNat).toNat=n.toNat:=by
  rw[UInt8.toNat_ofNat'];exact Nat.mod_eq_of_lt (by omega)
 simp only[byteV,this];congr 2;omega
set_option maxRecDepth 100000 in
theorem partsContract (H:Type) (enc:TypeId × Value→H) (W:World) (base:Nat) (args:Array Value) (ds gs:List (DataW H)) (before:List MemPlace)
    (hval:∀(j:Nat) t v,Tryz.f3.params[j]?=some t→args[j]?=some v→Value.okWide Tryz.prog W .any base t v)
    (hW:DataW.Whole enc Tryz.prog Tryz.f3.params.toList Rows.tvaluesPartsSpec.vars false W args.toList ds gs before) (hk:Rows.uptoSmall H (ds++gs)=true) (hL:laidMetH Tryz.prog Rows.tvaluesPartsUptoRow.laid W) (hS:W.ShapedOpen Tryz.prog) :
    Calls Tryz.prog 3 args W fun e W'=>∃v,e = .returned v∧Rows.tvaluesPartsSpec.post enc Tryz.prog Tryz.f3 false true false false W args v W':=by
 have hW':=hW;rw[MakeChecks.laidMetH_plain _ _ _ (by kernel_rfl)]at hL;obtain⟨p,q,hA0,hV,rfl,hfz,hnd⟩:=hW;have hA:DataW.TrodAll enc Tryz.prog W 0 (fun _=>true) true Tryz.f3.params.toList args.toList ds p:=hA0;rw[Tryz.params3]at hA hval;obtain⟨v0,v1,v2,d0,d1,d2,p0,p1,p2,rfl,rfl,rfl,h0,h1,h2⟩:=trodAll_three hA;obtain⟨rfl,rfl⟩:=trodVars_none hV;have h0k:=h0;have h1k:=h1;have h2k:=h2;obtain⟨a0,l,c0,rfl,hl,_,hlb⟩:=open_strsP (hval 0 22 v0 (by simp) (by simp)) h0;obtain⟨a1,ws,c1,rfl,hws,hwc,hwb⟩:=open_strsP (hval 1 22 v1 (by simp) (by simp)) h1;obtain⟨a2,gaps,c2,rfl,hgs⟩:=open_bytsP (hval 2 23 v2 (by simp) (by simp)) h2;clear hA0 h0 h1 h2;simp only[List.append_nil]at hW' hk;have hlt:∀x∈p0++p1++p2,x.block<W.heap.size:=fun x hx=>by simpa using hW'.lt x (by simpa using hx)
 have hb:Rows.uptoBulkAll [d0,d1,d2]≤1048576:=of_decide_eq_true hk;simp only[Rows.uptoBulkAll]at hb;refine (law_parts W (rw_ofQ hL hS) a0 a1 a2 c0 c1 c2 l ws gaps hl hws hgs (fun z hz=>by have:=mem_sum l z hz;omega) (fun z hz=>by have:=mem_sum ws z hz;omega) (by omega) hwc).mono fun e W' ⟨he,hg⟩=>?_
 subst he;have bel:Below W.heap.size W W':=hg;refine⟨_,rfl,_,_,_,[],p0++(p1++p2),[],hW',trodAll_mk1 (shut_bool Tryz.underlying4 _),trodAll_mk3 (Below.trod laidOutP (by kernel_rfl) (of_decide_eq_true (by kernel_rfl)) h0k bel (fun x hx=>hlt x (by simp[hx]))) (Below.trod laidOutP (by kernel_rfl) (of_decide_eq_true (by kernel_rfl)) h1k bel (fun x hx=>hlt x (by simp[hx]))) (Below.trod laidOutP (by kernel_rfl) (of_decide_eq_true (by kernel_rfl)) h2k bel (fun x hx=>hlt x (by simp[hx]))),rfl,bel.frame _,fun h=>by cases h⟩
theorem partsReads (os:Os) {H:Type} (enc:TypeId × Value→H):∃places,DataW.whole enc Tryz.prog ((World.laidAll Tryz.prog os Rows.tvaluesPartsUptoRow.laid).forCall (fun _ _=>0) ⟨#[],#[.slice none 0 0,.slice none 0 0,.slice none 0 0],[]⟩).memory Tryz.f3.params.toList Rows.tvaluesPartsSpec.vars false #[Value.slice none 0 0,.slice none 0 0,.slice none 0 0].toList 8=some ([.nil,.nil,.nil],[],places) :=
 ⟨[],by kernel_rfl⟩
theorem partsLaid (os:Os):laidMetH Tryz.prog Rows.tvaluesPartsUptoRow.laid ((World.laidAll Tryz.prog os Rows.tvaluesPartsUptoRow.laid).forCall (fun _ _=>0) ⟨#[],#[.slice none 0 0,.slice none 0 0,.slice none 0 0],[]⟩).memory:=by
 rw[MakeChecks.laidMetH_plain _ _ _ (by kernel_rfl)];exact laidMet_laidAll _ (by kernel_rfl) (by kernel_rfl)
set_option maxRecDepth 100000 in
theorem partsLifted (os:Os) (started:os.Started) (H:Type) (enc:TypeId × Value→H) (F:Stop.Interp) :
    ReturnsInHanded {} Tryz.checked os 3 .any ((Rows.OpenSpec.upto Rows.tvaluesPartsSpec).preRow enc Tryz.prog Tryz.f3 Rows.tvaluesPartsUptoRow.domain false Rows.tvaluesPartsUptoRow.laid) (((Rows.OpenSpec.upto Rows.tvaluesPartsSpec).at F).post enc Tryz.prog Tryz.f3 false true false false):=by
 obtain⟨places,hx⟩:=partsReads os enc;have hok:Input.okWideB Tryz.checked.prog ((World.laidAll Tryz.prog os Rows.tvaluesPartsUptoRow.laid).forCall (fun _ _=>0) ⟨#[],#[.slice none 0 0,.slice none 0 0,.slice none 0 0],[]⟩) 3 ⟨#[],#[.slice none 0 0,.slice none 0 0,.slice none 0 0],[]⟩=true:=by kernel_rfl
 refine returnsInHanded_of_row (C:=Tryz.checked) (s:=Rows.OpenSpec.upto Rows.tvaluesPartsSpec) ownNoneP started (by kernel_rfl) Tryz.func3
  ⟨World.laidAll Tryz.prog os Rows.tvaluesPartsUptoRow.laid,fun _ _=>0,⟨#[],#[.slice none 0 0,.slice none 0 0,.slice none 0 0],[]⟩,World.laidAll_os _ _ _,World.shaped_of_ZipB (by kernel_rfl) (by kernel_rfl),(Input.okWide_of_okWideB (base:=0) hok).1,(Input.okWide_of_okWideB hok).2,
   OpenSpec.preRow_of_cond 8 hx (by kernel_rfl) (fun k hk=>by cases hk;kernel_rfl) (by kernel_rfl) (partsLaid os),by
    simp only[Assume.holds];exact⟨by simp,by simp,fun _=>Modest.zero,by simp,by simp⟩⟩ ?_
 intro W base args ds gs before hval hW _ hcond _ hL hS _;exact partsContract H enc W base args ds gs before hval hW (hcond _ rfl) hL hS
theorem partsSaid:Rows.TvaluesPartsUptoSaid :=
 OpenClaim.holds_of_cond 3 Tryz.f3 rfl rfl rfl rfl rfl rfl rfl ⟨rfl,rfl,rfl,rfl,rfl⟩ rfl rfl rfl rfl rfl (by kernel_rfl) Tryz.func3 (by kernel_rfl)
  (of_decide_eq_true (by kernel_rfl)) (by unfold Func.isWrapper;first|(rw[if_pos (by decide +kernel)];kernel_rfl)|(rw[if_neg (by decide +kernel)];exact⟨rfl,rfl⟩))
  (fun os started H enc _ F=>by rw[OpenClaim.pre_eq_preRow];exact partsLifted os started H enc F)
theorem partsPlain (f:FuncId) (fn:Func) (hf:Tryz.pinned.checked.prog.funcNamed "inarch/inarchlaw11.TvaluesParts" = some f) (hfn:Tryz.pinned.checked.prog.funcs[f]?=some fn) :
    true=Tryz.pinned.checked.prog.looks []∧∀(j:Nat) t,fn.params[j]?=some t→Tryz.pinned.checked.prog.wantsStandIn t=false:=by
 obtain rfl:f=3:=Option.some.inj ((show Tryz.prog.funcNamed "inarch/inarchlaw11.TvaluesParts" = some 3 by kernel_rfl).symm.trans hf) |>.symm;obtain rfl:fn=Tryz.f3:=(Option.some.inj (Tryz.func3.symm.trans hfn)).symm;refine⟨by kernel_rfl,fun j t ht=>?_⟩;rw[Tryz.params3]at ht;have hm:t∈[22,22,23]:=by simpa using Array.mem_of_getElem? ht
 have hall:([22,22,23].all fun u => !Tryz.prog.wantsStandIn u)=true:=by kernel_rfl
 have:=List.all_eq_true.1 hall t hm;show Tryz.prog.wantsStandIn t=false
 simpa using this
theorem partsCard:Rows.TvaluesPartsUptoCardSaid :=
 Claim7.holds_tied_plain_at .later [] _ _ _ _ partsSaid (fun _ h=>by cases h) (by kernel_rfl) (fun _ h=>by cases h) tvaluesPartsUpto_row_tie rfl ⟨rfl,rfl⟩ (by kernel_rfl) rfl partsPlain (by kernel_rfl)
end Go.Proofs.YtkplelejagpkmaaGreatDoor
