/-
  TvaluesPlain answers true at every number of 64 bits, every text and every two bytes; proved for every start at which the listed package variables hold what the program's text lays in them (the tied card).
-/
import Derived.Test.YtdgjgcepbkanhaaGreatDoorM35
import Derived.Test.YtdgjgcepbkanhaaGreatDoorM36
import Derived.Test.YtdgjgcepbkanhaaGreatDoorCards
import Derived.Test.YtdgjgcepbkanhaaGreatDoorTie
import Derived.WalkKit
import Derived.ChangeMaps5
import Derived.ProofKit
import Derived.OpenShut
import Derived.LaidMore
import Derived.Lay
import Derived.Deep.DeepHandedRow
import Derived.SevenTiedAt
import Derived.Stop.Joined
set_option maxHeartbeats 16000000
set_option linter.all false
set_option linter.unusedVariables false
set_option linter.unusedSimpArgs false
namespace Go.Proofs.YtdgjgcepbkanhaaGreatDoor
open Go.ChangeShapes Go.WideShapes Go.ChangeAt Go.RowKit
theorem ownNoneD:ownKnob Tryz.prog.godebug=none:=by kernel_rfl
theorem post_plainD {H:Type} {enc:TypeId × Value→H} {P:Program} {f:Func} {s:ChangeSpec} {apart fresh handsOn again:Bool} {W W':World} {args:Array Value} {v:Value} {ds gs:List (DataW H)}
    (hW:DataW.Whole enc P f.params.toList s.vars apart W args.toList ds gs [])
    (hres:∀(b:Nat) (sp:Nat→Bool) (hd:Bool),DataW.TrodAll enc P W' b sp hd f.resultTypes.toList (v.resultList f.resultTypes.size) (s.fn H (ds++gs)).results [])
    (hargs:∀sp:Nat→Bool,DataW.TrodAll enc P W' 0 sp true f.params.toList args.toList (s.fn H (ds++gs)).args [])
    (hvars:∀sp:Nat→Bool,DataW.TrodVars enc P W' sp s.vars (s.fn H (ds++gs)).vars [])
    (hb:Below W.heap.size W W')
    (hok:∀(j:Nat) (t:TypeId) (r:Value),f.resultTypes[j]?=some t→(v.resultList f.resultTypes.size)[j]?=some r→Value.okWide P W' .any 0 t r) :
    s.post enc P f apart fresh handsOn again W args v W':=by
 refine⟨ds,gs,[],[],[],[],hW,hres _ _ _,hargs _,hvars _,hb.frame _,fun _=>?_⟩;refine⟨hok,_,_,[],⟨[],[],trodAll_append (hargs _) (hres _ _ _),hvars _,rfl,fun b off hp=>by (simp at hp),fun _=>List.nodup_nil⟩,fun p hp _=>by (simp at hp)⟩
theorem rw_ofP {W:World} (hL:laidMet Tryz.prog Rows.tvaluesPlainRow.laid W) (hS:W.ShapedOpen Tryz.prog):RW Pl.tab0 W:=by
 have e4:=err_head hL.tail.tail.tail.tail (show Tryz.prog.globalNamed "strconv.ErrRange" = some 3 by kernel_rfl) (by kernel_rfl);obtain⟨p,e5⟩:=err_head hL.tail.tail.tail.tail.tail (show Tryz.prog.globalNamed "strconv.ErrSyntax" = some 9 by kernel_rfl) (by kernel_rfl);exact⟨⟨rad_of hL (List.mem_cons_of_mem _ (List.mem_cons_of_mem _ (List.mem_cons_of_mem _ (List.mem_cons_of_mem _ (List.mem_cons_of_mem _ (List.mem_cons_of_mem _ List.mem_cons_self)))))),
     Go.Proofs.cell_of_shapedOpen_int (zero:=#[.int .i64 0]) (t:=3) hS (by decide +kernel) (by kernel_rfl) rfl (by kernel_rfl) (by kernel_rfl) Tryz.underlying3,e4,
     pow_of hL (List.mem_cons_of_mem _ (List.mem_cons_of_mem _ List.mem_cons_self))⟩,
  ⟨⟨_,e5,.inr ⟨_,_,rfl⟩⟩,sh_of hL (List.mem_cons_of_mem _ (List.mem_cons_of_mem _ (List.mem_cons_of_mem _ (List.mem_cons_of_mem _ (List.mem_cons_of_mem _ (List.mem_cons_of_mem _ (List.mem_cons_of_mem _ List.mem_cons_self)))))))⟩⟩
set_option maxRecDepth 100000 in
theorem arr_two {H:Type} {enc:TypeId × Value→H} {W:World} {b0 base:Nat} {sp:Nat→Bool} {hd:Bool} {v:Value} {d:DataW H} {p:List MemPlace} (hval:Value.okWide Tryz.prog W .any b0 59 v) (h:DataW.Trod enc Tryz.prog W base sp hd 59 v d p) :
    ∃x y:Int,v = .agg #[.int .u8 x,.int .u8 y]∧d = .agg [.lit (.int .u8 x),.lit (.int .u8 y)]∧p=[]∧(Lit.int .u8 x).wf=true∧(Lit.int .u8 y).wf=true:=by
 unfold Value.okWide at hval;rw[Tryz.underlying59]at hval;obtain⟨cs,rfl,hsz,_⟩:=hval;obtain⟨fuel,hf⟩:=h;obtain⟨xs,m,_,hx,hl,hxl,hall⟩:=DataW.trod_array Tryz.underlying59 hf;rw[show Tryz.prog.cellsOf 5=1 by kernel_rfl]at hall;rw[show Tryz.prog.cellsOf 59=2 by kernel_rfl]at hl;obtain⟨c⟩:=cs;have hl2:c.length=2:=hl;rcases c with _|⟨c0,_|⟨c1,_|⟨c2,c⟩⟩⟩ <;> simp at hl2;rcases xs with _|⟨a,_|⟨b,_|⟨k,xs⟩⟩⟩ <;> simp at hxl;have h0:=hall 0 (by decide);have h1:=hall 1 (by decide);obtain⟨z0,e0,r0,w0⟩:=DataW.trod_int Tryz.underlying5 h0;obtain⟨z1,e1,r1,w1⟩:=DataW.trod_int Tryz.underlying5 h1;have f0:c0 = .int .u8 z0:=by simpa [Value.cells]using e0
 have f1:c1 = .int .u8 z1:=by simpa [Value.cells]using e1
 subst f0 f1
 try simp only at r0 r1
 subst r0 r1;simp only[Prod.mk.injEq]at hx;exact⟨z0,z1,rfl,hx.1,hx.2,w0,w1⟩
set_option maxRecDepth 100000 in
theorem arr_shut {H:Type} {enc:TypeId × Value→H} {W:World} {base:Nat} {sp:Nat→Bool} {hd:Bool} {x y:Int} (hx:(Lit.int .u8 x).wf=true) (hy:(Lit.int .u8 y).wf=true) :
    DataW.Trod enc Tryz.prog W base sp hd 59 (.agg #[.int .u8 x,.int .u8 y]) (.agg [.lit (.int .u8 x),.lit (.int .u8 y)]) []:=by
 refine⟨2,?_⟩;have u1:=Tryz.underlying59;have u2:=Tryz.underlying5;have c1:Tryz.prog.cellsOf 5=1:=by kernel_rfl
 have c2:Tryz.prog.cellsOf 59=2:=by kernel_rfl
 have r2:List.range 2=[0,1]:=rfl;simp[DataW.trod,u1,u2,c1,c2,r2,hx,hy,Value.cells]
set_option maxRecDepth 100000 in
theorem plainContract (H:Type) (enc:TypeId × Value→H) (W:World) (base:Nat) (args:Array Value) (ds gs:List (DataW H)) (before:List MemPlace)
    (hval:∀(j:Nat) t v,Tryz.f6.params[j]?=some t→args[j]?=some v→Value.okWide Tryz.prog W .any base t v)
    (hW:DataW.Whole enc Tryz.prog Tryz.f6.params.toList Rows.tvaluesPlainSpec.vars false W args.toList ds gs before) (hL:laidMetH Tryz.prog Rows.tvaluesPlainRow.laid W) (hS:W.ShapedOpen Tryz.prog) :
    Calls Tryz.prog 6 args W fun e W'=>∃v,e = .returned v∧Rows.tvaluesPlainSpec.post enc Tryz.prog Tryz.f6 false true false false W args v W':=by
 have hW':=hW;rw[MakeChecks.laidMetH_plain _ _ _ (by kernel_rfl)]at hL;obtain⟨p,q,hA0,hV,rfl,hfz,hnd⟩:=hW;have hA:DataW.TrodAll enc Tryz.prog W 0 (fun _=>true) true Tryz.f6.params.toList args.toList ds p:=hA0;rw[Tryz.params6]at hA hval;obtain⟨v0,v1,v2,d0,d1,d2,p0,p1,p2,rfl,rfl,rfl,h0,h1,h2⟩:=trodAll_three hA;obtain⟨rfl,rfl⟩:=trodVars_none hV;obtain⟨n,rfl,rfl,rfl,hn⟩:=open_int Tryz.underlying2 (hval 0 2 v0 (by simp) (by simp)) h0;obtain⟨s,rfl,rfl,rfl,hs⟩:=Go.ChangeMaps.open_string Tryz.underlying9 (hval 1 9 v1 (by simp) (by simp)) h1;obtain⟨x,y,rfl,rfl,rfl,hx,hy⟩:=arr_two (hval 2 59 v2 (by simp) (by simp)) h2;have bn : -9223372036854775808≤n∧n≤9223372036854775807:=by
  simp[Lit.wf,IntKind.min,IntKind.max,IntKind.signed,IntKind.bits]at hn;omega
 have bx:0≤x∧x≤255:=by
  simp[Lit.wf,IntKind.min,IntKind.max,IntKind.signed,IntKind.bits]at hx;omega
 have by':0≤y∧y≤255:=by
  simp[Lit.wf,IntKind.min,IntKind.max,IntKind.signed,IntKind.bits]at hy;omega
 clear hA0;simp only[List.append_nil]at hW';obtain⟨a,rfl⟩:∃a:Nat,x=a:=⟨x.toNat,by omega⟩
 obtain⟨b,rfl⟩:∃b:Nat,y=b:=⟨y.toNat,by omega⟩
 refine (law_plain W (rw_ofP hL hS) n bn.1 bn.2 s a b (by omega) (by omega)).mono fun e W' ⟨he,hg⟩=>?_
 subst he;exact⟨_,rfl,post_plainD hW' (fun _ _ _=>trodAll_mk1 (shut_bool Tryz.underlying4 _)) (fun _=>trodAll_mk3 (shut_int Tryz.underlying2 hn) (Go.ChangeMaps.shut_string Tryz.underlying9 hs) (arr_shut hx hy)) (fun _=>rfl) hg (ok_one (by kernel_rfl) rfl (okWide_bool_mk Tryz.underlying4 _))⟩
theorem plainReads (os:Os) {H:Type} (enc:TypeId × Value→H):∃places,DataW.whole enc Tryz.prog ((World.laidAll Tryz.prog os Rows.tvaluesPlainRow.laid).forCall (fun _ _=>0) ⟨#[],#[.int .i64 0,.string ⟨#[]⟩,.agg #[.int .u8 0,.int .u8 0]],[]⟩).memory Tryz.f6.params.toList Rows.tvaluesPlainSpec.vars false #[Value.int .i64 0,.string ⟨#[]⟩,.agg #[.int .u8 0,.int .u8 0]].toList 8=some ([.lit (.int .i64 0),.lit (.string []),.agg [.lit (.int .u8 0),.lit (.int .u8 0)]],[],places) :=
 ⟨[],by kernel_rfl⟩
theorem plainLaid (os:Os):laidMetH Tryz.prog Rows.tvaluesPlainRow.laid ((World.laidAll Tryz.prog os Rows.tvaluesPlainRow.laid).forCall (fun _ _=>0) ⟨#[],#[.int .i64 0,.string ⟨#[]⟩,.agg #[.int .u8 0,.int .u8 0]],[]⟩).memory:=by
 rw[MakeChecks.laidMetH_plain _ _ _ (by kernel_rfl)];exact laidMet_laidAll _ (by kernel_rfl) (by kernel_rfl)
set_option maxRecDepth 100000 in
theorem plainLifted (os:Os) (started:os.Started) (H:Type) (enc:TypeId × Value→H) (F:Stop.Interp) :
    ReturnsInHanded {} Tryz.checked os 6 .any ((OpenSpec.ofChange Rows.tvaluesPlainSpec).preRow enc Tryz.prog Tryz.f6 Rows.tvaluesPlainRow.domain false Rows.tvaluesPlainRow.laid) (((OpenSpec.ofChange Rows.tvaluesPlainSpec).at F).post enc Tryz.prog Tryz.f6 false true false false):=by
 obtain⟨places,hx⟩:=plainReads os enc;have hok:Input.okWideB Tryz.checked.prog ((World.laidAll Tryz.prog os Rows.tvaluesPlainRow.laid).forCall (fun _ _=>0) ⟨#[],#[.int .i64 0,.string ⟨#[]⟩,.agg #[.int .u8 0,.int .u8 0]],[]⟩) 6 ⟨#[],#[.int .i64 0,.string ⟨#[]⟩,.agg #[.int .u8 0,.int .u8 0]],[]⟩=true:=by kernel_rfl
 refine returnsInHanded_of_row (C:=Tryz.checked) (s:=OpenSpec.ofChange Rows.tvaluesPlainSpec) ownNoneD started (by kernel_rfl) Tryz.func6
  ⟨World.laidAll Tryz.prog os Rows.tvaluesPlainRow.laid,fun _ _=>0,⟨#[],#[.int .i64 0,.string ⟨#[]⟩,.agg #[.int .u8 0,.int .u8 0]],[]⟩,World.laidAll_os _ _ _,World.shaped_of_ZipB (by kernel_rfl) (by kernel_rfl),(Input.okWide_of_okWideB (base:=0) hok).1,(Input.okWide_of_okWideB hok).2,
   OpenSpec.preRow_of_cond 8 hx (by kernel_rfl) (fun k hk=>by cases hk) (by kernel_rfl) (plainLaid os),by
    simp only[Assume.holds];exact⟨by simp,by simp,fun _=>Modest.zero,by simp,by simp⟩⟩ ?_
 intro W base args ds gs before hval hW _ _ _ hL hS _;exact plainContract H enc W base args ds gs before hval hW hL hS
theorem plainSaid:Rows.TvaluesPlainSaid :=
 OpenClaim.holds_of_cond 6 Tryz.f6 rfl rfl rfl rfl rfl rfl rfl ⟨rfl,rfl,rfl,rfl,rfl⟩ rfl rfl rfl rfl rfl (by kernel_rfl) Tryz.func6 (by kernel_rfl)
  (of_decide_eq_true (by kernel_rfl)) (by unfold Func.isWrapper;first|(rw[if_pos (by decide +kernel)];kernel_rfl)|(rw[if_neg (by decide +kernel)];exact⟨rfl,rfl⟩))
  (fun os started H enc _ F=>by rw[OpenClaim.pre_eq_preRow];exact plainLifted os started H enc F)
theorem plainPlain (f:FuncId) (fn:Func) (hf:Tryz.pinned.checked.prog.funcNamed "inarch/inarchlaw11.TvaluesPlain" = some f) (hfn:Tryz.pinned.checked.prog.funcs[f]?=some fn) :
    true=Tryz.pinned.checked.prog.looks []∧∀(j:Nat) t,fn.params[j]?=some t→Tryz.pinned.checked.prog.wantsStandIn t=false:=by
 obtain rfl:f=6:=Option.some.inj ((show Tryz.prog.funcNamed "inarch/inarchlaw11.TvaluesPlain" = some 6 by kernel_rfl).symm.trans hf) |>.symm;obtain rfl:fn=Tryz.f6:=(Option.some.inj (Tryz.func6.symm.trans hfn)).symm;refine⟨by kernel_rfl,fun j t ht=>?_⟩;rw[Tryz.params6]at ht;have hm:t∈[2,9,59]:=by simpa using Array.mem_of_getElem? ht
 have hall:([2,9,59].all fun u => !Tryz.prog.wantsStandIn u)=true:=by kernel_rfl
 have:=List.all_eq_true.1 hall t hm;show Tryz.prog.wantsStandIn t=false
 simpa using this
theorem plainCard:Rows.TvaluesPlainCardSaid :=
 Claim7.holds_tied_plain_at .later [] _ _ _ _ plainSaid (fun _ h=>by cases h) (by kernel_rfl) (fun _ h=>by cases h) tvaluesPlain_row_tie rfl ⟨rfl,rfl⟩ (by kernel_rfl) rfl plainPlain (by kernel_rfl)
end Go.Proofs.YtdgjgcepbkanhaaGreatDoor
