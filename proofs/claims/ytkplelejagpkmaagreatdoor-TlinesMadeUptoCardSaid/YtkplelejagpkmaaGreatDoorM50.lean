/-
  TlinesMade answers true, where what it reads is of bulk at most 1048576, at every list of lines that are put; proved for every start at which the listed package variables hold what the program's text lays in them (the tied card of the second form).
-/
import Derived.Test.YtkplelejagpkmaaGreatDoorM34
import Derived.Test.YtkplelejagpkmaaGreatDoorM47
import Derived.Test.YtkplelejagpkmaaGreatDoorCards
import Derived.Test.YtkplelejagpkmaaGreatDoorTie
import Derived.WalkKit
import Derived.ChangeMaps5
import Derived.ProofKit
import Derived.OpenShut
import Derived.LaidMore
import Derived.Lay
import Derived.Carry
import Derived.SliceStrings
import Derived.Deep.Slices
import Derived.Lib.SmallJoins
import Derived.Deep.DeepHandedRow
import Derived.SevenTiedAt
import Derived.Stop.Joined
set_option maxHeartbeats 16000000
set_option linter.all false
set_option linter.unusedVariables false
set_option linter.unusedSimpArgs false
namespace Go.Proofs.YtkplelejagpkmaaGreatDoor
open Go.ChangeShapes Go.WideShapes Go.ChangeAt Go.RowKit
set_option maxRecDepth 100000
theorem ownNoneM:ownKnob Tryz.prog.godebug=none:=by kernel_rfl
theorem laidOutM:laidOutB Tryz.prog=true:=by kernel_rfl
theorem rw_ofM {W:World} (hL:laidMet Tryz.prog Rows.tlinesMadeUptoRow.laid W) (hS:W.ShapedOpen Tryz.prog):RW Pl.tab0 W:=by
 have e4:=err_head hL.tail.tail.tail.tail (show Tryz.prog.globalNamed "strconv.ErrRange" = some 2 by kernel_rfl) (by kernel_rfl);obtain⟨p,e5⟩:=err_head hL.tail.tail.tail.tail.tail (show Tryz.prog.globalNamed "strconv.ErrSyntax" = some 4 by kernel_rfl) (by kernel_rfl);exact⟨⟨rad_of hL (List.mem_cons_of_mem _ (List.mem_cons_of_mem _ (List.mem_cons_of_mem _ (List.mem_cons_of_mem _ (List.mem_cons_of_mem _ (List.mem_cons_of_mem _ List.mem_cons_self)))))),
     Go.Proofs.cell_of_shapedOpen_int (zero:=#[.int .i64 0]) (t:=3) hS (by decide +kernel) (by kernel_rfl) rfl (by kernel_rfl) (by kernel_rfl) Tryz.underlying3,e4,
     pow_of hL (List.mem_cons_of_mem _ (List.mem_cons_of_mem _ List.mem_cons_self))⟩,
  ⟨⟨_,e5,.inr ⟨_,_,rfl⟩⟩,sh_of hL (List.mem_cons_of_mem _ (List.mem_cons_of_mem _ (List.mem_cons_of_mem _ (List.mem_cons_of_mem _ (List.mem_cons_of_mem _ (List.mem_cons_of_mem _ (List.mem_cons_of_mem _ List.mem_cons_self)))))))⟩⟩
theorem cell_ltM {w:World} {a:Addr} {v:Value} (h:w.cell? a=some v):a.block<w.heap.size:=by
 rcases Nat.lt_or_ge a.block w.heap.size with h'|h'
 · exact h'
 simp[World.cell?,Array.getElem?_eq_none h']at h
theorem bulk_strsM {H:Type} (Xs:List ByteArray):Rows.uptoBulkAll (strs (H:=H) Xs)=(Xs.map (·.size)).sum+Xs.length:=by
 induction Xs with
 | nil=>rfl
 | cons x xs ih =>
  have h1:strs (H:=H) (x::xs) = .lit (.string x.data.toList)::strs xs:=rfl;have h2:x.data.toList.length=x.size:=bs_length x;rw[h1];simp only[Rows.uptoBulkAll,Rows.uptoBulk,List.map_cons,List.sum_cons,List.length_cons,ih,h2];omega
theorem open_strsM {H:Type} {enc:TypeId × Value→H} {W:World} {fuel:Nat} {cs:List Value} {d:DataW H} {ps:List MemPlace} (hf:DataW.trod enc Tryz.prog W 0 (fun _=>true) true fuel 22 cs=some (d,ps)) :
    ∃(a:Option Addr) (Xs:List ByteArray) (c:Nat),cs=[.slice a Xs.length c]∧StrsV W a Xs∧(Xs.map (·.size)).sum≤Rows.uptoBulk d:=by
 rcases open_strings Tryz.underlying22 Tryz.underlying9 (by kernel_rfl) hf with⟨hcs,hx⟩|⟨a,len,cap,ss,hcs,_,hl,hm,hz,hx,hcell,_⟩
 · exact⟨none,[],0,hcs,⟨fun j z h=>by simp at h⟩,by simp⟩
 simp only[Prod.mk.injEq]at hx;obtain⟨rfl,_⟩:=hx;simp only[if_true]at hz;obtain⟨b,off,spot⟩:=a;refine⟨_,ss.take len,cap,by rw[List.length_take,Nat.min_eq_left (by omega)];exact hcs,⟨fun j X hX=>?_⟩,?_⟩
 · have hj:j<len:=by
    have:=(List.getElem?_eq_some_iff.1 hX).1;simp at this;omega
   have hspot:spot=none:=by simpa [Addr.add]using World.cell?_spot (hcell 0 (by omega))
   subst hspot;have hX':ss.getD j ByteArray.empty=X:=by
    rw[List.getElem?_take_of_lt hj]at hX;simp[List.getD,hX]
   refine⟨b,off,rfl,cell_ltM (hcell 0 (by omega)),?_⟩;rw[←add_plain,←hX'];exact hcell j (by omega)
 have:=bulk_strsM (H:=H) (ss.take len);simp only[Rows.uptoBulk];omega
theorem bulk_sum {H:Type} (D:Nat→DataW H) (f:Nat→Nat):∀l:List Nat,(∀i∈l,f i≤Rows.uptoBulk (D i))→(l.map f).sum≤Rows.uptoBulkAll (l.map D)
 | [],_=>Nat.le_refl _
 | i::l,h=>by
  have h1:=h i (by simp);have h2:=bulk_sum D f l (fun j hj=>h j (by simp[hj]));simp only[List.map_cons,List.sum_cons,Rows.uptoBulkAll];omega
theorem open_made {H:Type} {enc:TypeId × Value→H} {W:World} {n:Nat} {b o:Nat} {cs':List Value} {d:DataW H} {pl:List MemPlace} (h1:W.cells? 0 ⟨b,o,none⟩ 4=some cs') (h2:DataW.trod enc Tryz.prog W 0 (fun _=>true) true n 51 cs'=some (d,pl)) :
    ∃x:MadeR,MadeAt W b o x∧x.k<256∧x.bl<256∧StrsV W x.aw x.ws∧wsum x≤Rows.uptoBulk d:=by
 obtain⟨_,hlen,hcell⟩:=World.cells?_some h1;obtain⟨y0,y1,y2,y3,m,hx,_,g0,g1,g2,g3⟩:=Go.Joins.trod_struct4 Tryz.underlying51 h2
 match cs',hlen with
 | [v0,v1,v2,v3],_ =>
  dsimp only at g0 g1 g2 g3;rw[show Tryz.prog.cellsOf 49=1 by kernel_rfl]at g0;rw[show Tryz.prog.cellsOf 22=1 by kernel_rfl]at g1;rw[show Tryz.prog.cellsOf 9=1 by kernel_rfl]at g2;rw[show Tryz.prog.cellsOf 5=1 by kernel_rfl]at g3;simp only[List.drop_zero,List.drop_succ_cons,List.take_succ_cons,List.take_zero]at g0 g1 g2 g3;obtain⟨n0,e0,_,w0⟩:=DataW.trod_int Tryz.underlying49 g0;obtain⟨a,Xs,c,e1,hs,hb⟩:=open_strsM g1;obtain⟨z,e2,_,_⟩:=DataW.trod_string Tryz.underlying9 g2;obtain⟨n3,e3,_,w3⟩:=DataW.trod_int Tryz.underlying5 g3;simp only[List.cons.injEq,and_true]at e0 e1 e2 e3;subst e0 e1 e2 e3;have r0:0≤n0∧n0≤255:=by simpa [Lit.wf,IntKind.min,IntKind.max,IntKind.signed,IntKind.bits]using w0
  have r3:0≤n3∧n3≤255:=by simpa [Lit.wf,IntKind.min,IntKind.max,IntKind.signed,IntKind.bits]using w3
  have c0:=hcell 0 (by decide);have c1:=hcell 1 (by decide);have c2:=hcell 2 (by decide);have c3:=hcell 3 (by decide);simp only[add_plain,Nat.add_zero,List.getElem?_cons_zero,List.getElem?_cons_succ]at c0 c1 c2 c3;refine⟨⟨n0.toNat,a,c,Xs,z,n3.toNat⟩,⟨?_,c1,c2,?_,cell_ltM c1⟩,by show n0.toNat<256;omega,by show n3.toNat<256;omega,hs,?_⟩
  · rw[c0];show some (Value.int .u8 n0)=some (Value.int .u8 ((n0.toNat:Nat):Int));rw[Int.toNat_of_nonneg r0.1]
  · rw[c3];show some (Value.int .u8 n3)=some (Value.int .u8 ((n3.toNat:Nat):Int));rw[Int.toNat_of_nonneg r3.1]
  have hd:d = .agg [y0.1,y1.1,y2.1,y3.1]:=congrArg Prod.fst hx;rw[hd];show (Xs.map (·.size)).sum≤_;simp only[Rows.uptoBulk,Rows.uptoBulkAll];omega
theorem open_mades {H:Type} {enc:TypeId × Value→H} {W:World} {b0:Nat} {v:Value} {d:DataW H} {ps:List MemPlace} (hval:Value.okWide Tryz.prog W .any b0 47 v) (h:DataW.Trod enc Tryz.prog W 0 (fun _=>true) true 47 v d ps) :
    ∃(a:Option Addr) (xs:List MadeR) (c:Nat),v = .slice a xs.length c∧MadesV W a xs∧(xs.map wsum).sum≤Rows.uptoBulk d:=by
 obtain⟨a0,len,cap,rfl⟩:=okWide_slice Tryz.underlying47 hval;obtain⟨fuel,hf⟩:=h;rcases Deep.open_slice Tryz.underlying47 hf with⟨hcs,hx⟩|⟨a,len',cap',m,n,D,Pl,hcs,_,hl,hm,hmm,hx,hel⟩
 · have hv:Value.slice a0 len cap = .slice none 0 0:=by simpa [Value.cells]using hcs
   exact⟨none,[],0,hv,⟨fun j z h=>by simp at h⟩,by simp⟩
 have hv:Value.slice a0 len cap = .slice (some a) len' cap':=by simpa [Value.cells]using hcs
 rw[hv];simp only[if_true]at hmm;obtain⟨b,off,spot⟩:=a;rw[show Tryz.prog.cellsOf 51=4 by kernel_rfl]at hel;simp only[Prod.mk.injEq]at hx;obtain⟨rfl,_⟩:=hx;by_cases h0:len'=0
 · subst h0;exact⟨_,[],cap',rfl,⟨fun j z h=>by simp at h⟩,by simp⟩
 have hspot:spot=none:=by
  obtain⟨cs',h1,_⟩:=hel 0 (by omega);obtain⟨_,hlen,hcell⟩:=World.cells?_some h1;have c0:=hcell 0 (by decide);obtain⟨v0,e0⟩:∃v0,cs'[0]?=some v0:=⟨_,List.getElem?_eq_getElem (by omega)⟩
  rw[e0]at c0
  simpa [Addr.add]using World.cell?_spot c0
 subst hspot;have key:∀i,∃x:MadeR,i<len'→MadeAt W b (off+i*4) x∧x.k<256∧x.bl<256∧StrsV W x.aw x.ws∧wsum x≤Rows.uptoBulk (D i):=fun i=>by
  by_cases hi:i<len'
  · obtain⟨cs',h1,h2⟩:=hel i (by omega);rw[add_plain]at h1;obtain⟨x,hx⟩:=open_made h1 h2;exact⟨x,fun _=>hx⟩
  exact⟨⟨0,none,0,[],ByteArray.empty,0⟩,fun h=>absurd h hi⟩
 obtain⟨X,hX⟩:=Classical.axiomOfChoice key;refine⟨_,(List.range len').map X,cap',by rw[List.length_map,List.length_range],⟨fun j x hx=>?_⟩,?_⟩
 · have hj:j<len':=by
    have:=(List.getElem?_eq_some_iff.1 hx).1
    simpa using this
   rw[List.getElem?_map,List.getElem?_range hj]at hx;simp only[Option.map_some,Option.some.injEq]at hx;subst hx;obtain⟨k1,k2,k3,k4,_⟩:=hX j hj;exact⟨b,off,rfl,k1,k2,k3,k4⟩
 rw[List.map_map];have:=bulk_sum D (wsum ∘ X) (List.range len') (fun i hi=>(hX i (List.mem_range.1 hi)).2.2.2.2);simp only[Rows.uptoBulk];omega
set_option maxRecDepth 100000 in
theorem madeContract (H:Type) (enc:TypeId × Value→H) (W:World) (base:Nat) (args:Array Value) (ds gs:List (DataW H)) (before:List MemPlace)
    (hval:∀(j:Nat) t v,Tryz.f4.params[j]?=some t→args[j]?=some v→Value.okWide Tryz.prog W .any base t v)
    (hW:DataW.Whole enc Tryz.prog Tryz.f4.params.toList Rows.tlinesMadeSpec.vars false W args.toList ds gs before) (hk:Rows.uptoSmall H (ds++gs)=true) (hL:laidMetH Tryz.prog Rows.tlinesMadeUptoRow.laid W) (hS:W.ShapedOpen Tryz.prog) :
    Calls Tryz.prog 4 args W fun e W'=>∃v,e = .returned v∧Rows.tlinesMadeSpec.post enc Tryz.prog Tryz.f4 false true false false W args v W':=by
 have hW':=hW;rw[MakeChecks.laidMetH_plain _ _ _ (by kernel_rfl)]at hL;obtain⟨p,q,hA0,hV,rfl,hfz,hnd⟩:=hW;have hA:DataW.TrodAll enc Tryz.prog W 0 (fun _=>true) true Tryz.f4.params.toList args.toList ds p:=hA0;rw[Tryz.params4]at hA hval;obtain⟨v0,d0,rfl,rfl,h0⟩:=trodAll_one hA;obtain⟨rfl,rfl⟩:=trodVars_none hV;have h0k:=h0;obtain⟨a0,xs,c0,rfl,hl,hlb⟩:=open_mades (hval 0 47 v0 (by simp) (by simp)) h0;clear hA0 h0;simp only[List.append_nil]at hW' hk;have hlt:∀x∈p,x.block<W.heap.size:=fun x hx=>by simpa using hW'.lt x (by simpa using hx)
 have hb:Rows.uptoBulkAll [d0]≤1048576:=of_decide_eq_true hk;simp only[Rows.uptoBulkAll]at hb;refine (law_made W (rw_ofM hL hS) a0 c0 xs hl (by omega)).mono fun e W' ⟨he,hg⟩=>?_
 subst he;have bel:Below W.heap.size W W':=hg;refine⟨_,rfl,_,_,_,[],p,[],hW',trodAll_mk1 (shut_bool Tryz.underlying4 _),trodAll_mk1 (Below.trod laidOutM (by kernel_rfl) (of_decide_eq_true (by kernel_rfl)) h0k bel hlt),rfl,bel.frame _,fun h=>by cases h⟩
theorem madeReads (os:Os) {H:Type} (enc:TypeId × Value→H):∃places,DataW.whole enc Tryz.prog ((World.laidAll Tryz.prog os Rows.tlinesMadeUptoRow.laid).forCall (fun _ _=>0) ⟨#[],#[.slice none 0 0],[]⟩).memory Tryz.f4.params.toList Rows.tlinesMadeSpec.vars false #[Value.slice none 0 0].toList 8=some ([.nil],[],places) :=
 ⟨[],by kernel_rfl⟩
theorem madeLaid (os:Os):laidMetH Tryz.prog Rows.tlinesMadeUptoRow.laid ((World.laidAll Tryz.prog os Rows.tlinesMadeUptoRow.laid).forCall (fun _ _=>0) ⟨#[],#[.slice none 0 0],[]⟩).memory:=by
 rw[MakeChecks.laidMetH_plain _ _ _ (by kernel_rfl)];exact laidMet_laidAll _ (by kernel_rfl) (by kernel_rfl)
set_option maxRecDepth 100000 in
theorem madeLifted (os:Os) (started:os.Started) (H:Type) (enc:TypeId × Value→H) (F:Stop.Interp) :
    ReturnsInHanded {} Tryz.checked os 4 .any ((Rows.OpenSpec.upto Rows.tlinesMadeSpec).preRow enc Tryz.prog Tryz.f4 Rows.tlinesMadeUptoRow.domain false Rows.tlinesMadeUptoRow.laid) (((Rows.OpenSpec.upto Rows.tlinesMadeSpec).at F).post enc Tryz.prog Tryz.f4 false true false false):=by
 obtain⟨places,hx⟩:=madeReads os enc;have hok:Input.okWideB Tryz.checked.prog ((World.laidAll Tryz.prog os Rows.tlinesMadeUptoRow.laid).forCall (fun _ _=>0) ⟨#[],#[.slice none 0 0],[]⟩) 4 ⟨#[],#[.slice none 0 0],[]⟩=true:=by kernel_rfl
 refine returnsInHanded_of_row (C:=Tryz.checked) (s:=Rows.OpenSpec.upto Rows.tlinesMadeSpec) ownNoneM started (by kernel_rfl) Tryz.func4
  ⟨World.laidAll Tryz.prog os Rows.tlinesMadeUptoRow.laid,fun _ _=>0,⟨#[],#[.slice none 0 0],[]⟩,World.laidAll_os _ _ _,World.shaped_of_ZipB (by kernel_rfl) (by kernel_rfl),(Input.okWide_of_okWideB (base:=0) hok).1,(Input.okWide_of_okWideB hok).2,
   OpenSpec.preRow_of_cond 8 hx (by kernel_rfl) (fun k hk=>by cases hk;kernel_rfl) (by kernel_rfl) (madeLaid os),by
    simp only[Assume.holds];exact⟨by simp,by simp,fun _=>Modest.zero,by simp,by simp⟩⟩ ?_
 intro W base args ds gs before hval hW _ hcond _ hL hS _;exact madeContract H enc W base args ds gs before hval hW (hcond _ rfl) hL hS
theorem madeSaid:Rows.TlinesMadeUptoSaid :=
 OpenClaim.holds_of_cond 4 Tryz.f4 rfl rfl rfl rfl rfl rfl rfl ⟨rfl,rfl,rfl,rfl,rfl⟩ rfl rfl rfl rfl rfl (by kernel_rfl) Tryz.func4 (by kernel_rfl)
  (of_decide_eq_true (by kernel_rfl)) (by unfold Func.isWrapper;first|(rw[if_pos (by decide +kernel)];kernel_rfl)|(rw[if_neg (by decide +kernel)];exact⟨rfl,rfl⟩))
  (fun os started H enc _ F=>by rw[OpenClaim.pre_eq_preRow];exact madeLifted os started H enc F)
theorem madePlain (f:FuncId) (fn:Func) (hf:Tryz.pinned.checked.prog.funcNamed "inarch/inarchlaw12.TlinesMade" = some f) (hfn:Tryz.pinned.checked.prog.funcs[f]?=some fn) :
    true=Tryz.pinned.checked.prog.looks []∧∀(j:Nat) t,fn.params[j]?=some t→Tryz.pinned.checked.prog.wantsStandIn t=false:=by
 obtain rfl:f=4:=Option.some.inj ((show Tryz.prog.funcNamed "inarch/inarchlaw12.TlinesMade" = some 4 by kernel_rfl).symm.trans hf) |>.symm;obtain rfl:fn=Tryz.f4:=(Option.some.inj (Tryz.func4.symm.trans hfn)).symm;refine⟨by kernel_rfl,fun j t ht=>?_⟩;rw[Tryz.params4]at ht;have hm:t∈[47]:=by simpa using Array.mem_of_getElem? ht
 have hall:([47].all fun u => !Tryz.prog.wantsStandIn u)=true:=by kernel_rfl
 have:=List.all_eq_true.1 hall t hm;show Tryz.prog.wantsStandIn t=false
 simpa using this
theorem madeCard:Rows.TlinesMadeUptoCardSaid :=
 Claim7.holds_tied_plain_at .later [] _ _ _ _ madeSaid (fun _ h=>by cases h) (by kernel_rfl) (fun _ h=>by cases h) tlinesMadeUpto_row_tie rfl ⟨rfl,rfl⟩ (by kernel_rfl) rfl madePlain (by kernel_rfl)
end Go.Proofs.YtkplelejagpkmaaGreatDoor
