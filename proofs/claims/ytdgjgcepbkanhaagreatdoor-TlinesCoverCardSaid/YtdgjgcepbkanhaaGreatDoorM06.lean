/-
 The walks and plain laws that the claim rests on, part 6.
-/
import Derived.Test.YtdgjgcepbkanhaaGreatDoorM01
import Derived.Test.YtdgjgcepbkanhaaGreatDoorM02
import Derived.Test.YtdgjgcepbkanhaaGreatDoorM04
import Derived.Test.YtdgjgcepbkanhaaGreatDoorM05
import Derived.Maps.AppendAt
import Derived.Deep.AppendLies
import Derived.Lib.SmallJoins
import Derived.Deep.QuietTactic
import Derived.BigQuiet
set_option maxHeartbeats 16000000
set_option linter.all false
set_option linter.unusedVariables false
set_option linter.unusedSimpArgs false
namespace Go.Proofs.YtdgjgcepbkanhaaGreatDoor
open Go.RowKit Go.Shelf Go.Joins
attribute [local go_sem] Oper.semAt_some
abbrev pmD:ByteArray:=⟨#[43,45,95,46]⟩
def itPos (w:World) (b:Nat):Nat:=match w.heap[b]? with
 | some (.stringIter _ p)=>p
 | _=>0
theorem itPos_iter (w:World) (s:ByteArray) (k:Nat):itPos (w.iter s k) w.heap.size=k:=by unfold itPos;rw[World.iter_heap]
theorem gr_iter (w:World) (s:ByteArray) (k:Nat):Gr w (w.iter s k):=(Gr.refl w).alloc _
set_option maxRecDepth 100000 in
theorem idxRune_error (w:World) :
    Calls Tryz.prog 119 #[.string pmD,.int .i32 65533] w fun e w'=>e = .returned (.int .i64 (-1))∧Gr w w':=by
 have n0:∀ty,(Instr.next (.pointer (some ⟨w.heap.size,0,none⟩)) true ty).run Tryz.prog (w.iter pmD 0) = .ok (.tuple #[.bool true,.int .i64 0,.int .i32 43]) (w.iter pmD 1):=fun ty=>run_next_ascii w pmD 0 ty (by decide) (by decide)
 have n1:∀ty,(Instr.next (.pointer (some ⟨w.heap.size,0,none⟩)) true ty).run Tryz.prog (w.iter pmD 1) = .ok (.tuple #[.bool true,.int .i64 1,.int .i32 45]) (w.iter pmD 2):=fun ty=>run_next_ascii w pmD 1 ty (by decide) (by decide)
 have n2:∀ty,(Instr.next (.pointer (some ⟨w.heap.size,0,none⟩)) true ty).run Tryz.prog (w.iter pmD 2) = .ok (.tuple #[.bool true,.int .i64 2,.int .i32 95]) (w.iter pmD 3):=fun ty=>run_next_ascii w pmD 2 ty (by decide) (by decide)
 have n3:∀ty,(Instr.next (.pointer (some ⟨w.heap.size,0,none⟩)) true ty).run Tryz.prog (w.iter pmD 3) = .ok (.tuple #[.bool true,.int .i64 3,.int .i32 46]) (w.iter pmD 4):=fun ty=>run_next_ascii w pmD 3 ty (by decide) (by decide)
 have n4:∀ty,(Instr.next (.pointer (some ⟨w.heap.size,0,none⟩)) true ty).run Tryz.prog (w.iter pmD 4) = .ok (.tuple #[.bool false]) (w.iter pmD 4):=fun ty=>run_next_end w pmD 4 ty (by decide)
 go_enter Tryz.func119,Tryz.ntmps119;go_wp2_with fail
 go_loopw [5] (fun _ wr=>∃k:Nat,wr=w.iter pmD k∧(k=0∨k=1∨k=2∨k=3∨k=4)) (fun _ wr=>4-itPos wr w.heap.size)
 case atStart=>exact⟨0,rfl,.inl rfl⟩
 case round =>
  obtain⟨k,rfl,hk⟩:=hrel;rcases hk with rfl|rfl|rfl|rfl|rfl
  · go_wp2_with fail
    go_roundw
    case rel=>exact⟨1,rfl,by simp⟩
    case measure=>simp only[itPos_iter];omega
  · go_wp2_with fail
    go_roundw
    case rel=>exact⟨2,rfl,by simp⟩
    case measure=>simp only[itPos_iter];omega
  · go_wp2_with fail
    go_roundw
    case rel=>exact⟨3,rfl,by simp⟩
    case measure=>simp only[itPos_iter];omega
  · go_wp2_with fail
    go_roundw
    case rel=>exact⟨4,rfl,by simp⟩
    case measure=>simp only[itPos_iter];omega
  go_wp2_with fail
  go_ret
  exact⟨rfl,gr_iter _ _ _⟩
set_option maxRecDepth 100000 in
theorem idxRune_bad (x:Int) (h:128≤x) (hx:(x==65533)=false) (hv:Lib.validRune x=false) (w:World) :
    Calls Tryz.prog 119 #[.string pmD,.int .i32 x] w fun e w'=>e = .returned (.int .i64 (-1))∧Gr w w':=by
 have h1:decide (x<128)=false:=by simp;omega
 have h2:decide (0≤x)=true:=by simp;omega
 have HV:=Lib.hid hv;clear hv;go_enter Tryz.func119,Tryz.ntmps119;go_wp2_with (go_at_call 139;refine (Tryz.utf8_ValidRune x _).mono ?_;rw[HV.out];rintro e w' ⟨rfl,rfl⟩)
 go_ret
 exact⟨rfl,Gr.refl _⟩
theorem enc_last (x:Int) (h:128≤x) (hx:x≤1114111):∃m:Nat,(m=1∨m=2∨m=3)∧∃hz:(Utf8.encode x).size=m+1,128≤((Utf8.encode x)[m]'(by omega)).toNat:=by
 have hb:∀n:Nat,128≤(UInt8.ofNat (128+n % 64)).toNat:=by intro n;simp;omega
 have key:∀c:Nat,¬c<128→∀u:ByteArray,u=(if c<0x80 then ⟨#[UInt8.ofNat c]⟩
     else if c<0x800 then ⟨#[UInt8.ofNat (0xC0+c / 64),UInt8.ofNat (0x80+c % 64)]⟩
     else if c<0x10000 then ⟨#[UInt8.ofNat (0xE0+c / 4096),UInt8.ofNat (0x80+c / 64 % 64),UInt8.ofNat (0x80+c % 64)]⟩
     else ⟨#[UInt8.ofNat (0xF0+c / 262144),UInt8.ofNat (0x80+c / 4096 % 64),UInt8.ofNat (0x80+c / 64 % 64),UInt8.ofNat (0x80+c % 64)]⟩) →
     ∃m:Nat,(m=1∨m=2∨m=3)∧∃hz:u.size=m+1,128≤(u[m]'(by omega)).toNat:=by
  intro c h80 u hu;rw[if_neg h80]at hu
  split at hu
  · subst hu;exact⟨1,by simp,rfl,hb _⟩
  split at hu
  · subst hu;exact⟨2,by simp,rfl,hb _⟩
  subst hu;exact⟨3,by simp,rfl,hb _⟩
 refine key (if Utf8.valid x=true then x.toNat else Utf8.runeError) ?_ (Utf8.encode x) rfl
 split
 · omega
 simp[Utf8.runeError]
theorem pm_byte (k j:Nat) (c:UInt8) (h:128≤c.toNat) (W:World) :
    Calls Tryz.prog 61 #[.string (pmD.extract k j),.int .u8 (c.toNat:Int)] W fun e w'=>e = .returned (.int .i64 (-1))∧W=w':=by
 refine (Tryz.strings_IndexByte _ _ W).mono ?_;rintro e w' ⟨rfl,rfl⟩;refine⟨ret_int ?_,rfl⟩;have hl:∀b∈(pmD.extract k j).data.toList,b.toNat<128:=by
  intro b hb;rw[ByteArray.data_extract,Array.toList_extract,List.extract_eq_take_drop]at hb;have h2:=List.mem_of_mem_drop (List.mem_of_mem_take hb);simp at h2;rcases h2 with rfl|rfl|rfl|rfl <;> decide
 generalize (pmD.extract k j).data.toList=l at hl;rw[Lib.byte_back]
 induction l with
 | nil=>rfl
 | cons b l ih =>
  unfold Lib.indexByte;have hb:=hl b (by simp);have hne:(b==c)=false:=by
   cases hbc:b==c with
   | false=>rfl
   | true=>rw[beq_iff_eq.1 hbc]at hb;omega
  rw[hne,ih (fun x hx=>hl x (List.mem_cons_of_mem _ hx))];rfl
theorem pm_byte0 (c:UInt8) (W:World) :
    Calls Tryz.prog 61 #[.string ByteArray.empty,.int .u8 (c.toNat:Int)] W fun e w'=>e = .returned (.int .i64 (-1))∧W=w':=by
 refine (Tryz.strings_IndexByte _ _ W).mono ?_;rintro e w' ⟨rfl,rfl⟩;exact⟨rfl,rfl⟩
set_option maxRecDepth 100000 in
theorem idxRune_valid (x:Int) (h:128≤x) (hx:(x==65533)=false) (hv:Lib.validRune x=true) (hm:x≤1114111) (w:World) :
    Calls Tryz.prog 119 #[.string pmD,.int .i32 x] w fun e w'=>e = .returned (.int .i64 (-1))∧Gr w w':=by
 have h1:decide (x<128)=false:=by simp;omega
 have h2:decide (0≤x)=true:=by simp;omega
 have HV:=Lib.hid hv;obtain⟨m,hm3,hz,hl⟩:=enc_last x h hm;obtain⟨c,hc⟩:∃c,(Utf8.encode x)[m]'(by omega)=c:=⟨_,rfl⟩
 rw[hc]at hl;obtain⟨u,hu⟩:∃u,Utf8.encode x=u:=⟨_,rfl⟩
 have w2:IntKind.i64.wrap 2=2:=by decide
 have w3:IntKind.i64.wrap 3=3:=by decide
 have w4:IntKind.i64.wrap 4=4:=by decide
 rcases hm3 with rfl|rfl|rfl
 · clear hv;simp only[hu]at hz hc;have hcn:u[1].toNat=c.toNat:=by rw[hc]
   go_enter Tryz.func119,Tryz.ntmps119;go_wp2_with (go_at_call 139;refine (Tryz.utf8_ValidRune x _).mono ?_;rw[HV.out];rintro e w' ⟨rfl,rfl⟩)
   go_step3
   go_wp2_with fail;have hA:Hid (pmD.size=4):=rfl;have b1:(((pmD[1]'(by decide)).toNat:Int) != (c.toNat:Int))=true:=by
    have:(pmD[1]'(by decide)).toNat=45:=rfl;rw[this];simp;omega
   go_loopw [9] (fun v wr=>v = .int .i64 1∧wr=w') (fun _ _=>0)
   case atStart=>exact⟨rfl,rfl⟩
   case round =>
    obtain⟨rfl,rfl⟩:=hrel;go_wp2_with fail
    go_step3
    go_wp2_with fail
    go_quiet (fail)
    go_wp2_with fail
    go_quiet ((go_at_call 61;first|exact quiet_any (pm_byte _ _ c hl _) ⟨_,rfl⟩|exact quiet_any2 (pm_byte _ _ c hl _) ⟨_,rfl⟩))
    go_wp2_with fail;simp +zetaDelta only [Exit.inBlock,Exit.noGoto,Exit.then];exact bodyPost_ret (v := .int .i64 (-1)) (by simp[results,Tryz.results119,go_sem]) rfl ⟨rfl,(Gr.refl wr).drewN _⟩
 · clear hv;simp only[hu]at hz hc;have hcn:u[2].toNat=c.toNat:=by rw[hc]
   go_enter Tryz.func119,Tryz.ntmps119;go_wp2_with (go_at_call 139;refine (Tryz.utf8_ValidRune x _).mono ?_;rw[HV.out];rintro e w' ⟨rfl,rfl⟩)
   go_step3
   go_wp2_with fail;have hA:Hid (pmD.size=4):=rfl;have b1:(((pmD[2]'(by decide)).toNat:Int) != (c.toNat:Int))=true:=by
    have:(pmD[2]'(by decide)).toNat=95:=rfl;rw[this];simp;omega
   go_loopw [9] (fun v wr=>v = .int .i64 2∧wr=w') (fun _ _=>0)
   case atStart=>exact⟨rfl,rfl⟩
   case round =>
    obtain⟨rfl,rfl⟩:=hrel;go_wp2_with fail
    go_step3
    go_wp2_with fail
    go_quiet (fail)
    go_wp2_with fail
    go_quiet ((go_at_call 61;first|exact quiet_any (pm_byte _ _ c hl _) ⟨_,rfl⟩|exact quiet_any2 (pm_byte _ _ c hl _) ⟨_,rfl⟩))
    go_wp2_with fail;simp +zetaDelta only [Exit.inBlock,Exit.noGoto,Exit.then];exact bodyPost_ret (v := .int .i64 (-1)) (by simp[results,Tryz.results119,go_sem]) rfl ⟨rfl,(Gr.refl wr).drewN _⟩
 clear hv;simp only[hu]at hz hc;have hcn:u[3].toNat=c.toNat:=by rw[hc]
 go_enter Tryz.func119,Tryz.ntmps119;go_wp2_with (go_at_call 139;refine (Tryz.utf8_ValidRune x _).mono ?_;rw[HV.out];rintro e w' ⟨rfl,rfl⟩)
 go_step3
 go_wp2_with fail;have hA:Hid (pmD.size=4):=rfl;have b1:(((pmD[3]'(by decide)).toNat:Int) != (c.toNat:Int))=true:=by
  have:(pmD[3]'(by decide)).toNat=46:=rfl;rw[this];simp;omega
 go_loopw [9] (fun v wr=>v = .int .i64 3∧wr=w') (fun _ _=>0)
 case atStart=>exact⟨rfl,rfl⟩
 case round =>
  obtain⟨rfl,rfl⟩:=hrel;go_wp2_with fail
  go_step3
  go_wp2_with fail
  go_quiet (fail)
  go_wp2_with fail
  go_quiet ((go_at_call 61;exact quiet_any2 (pm_byte0 c _) ⟨_,rfl⟩))
  go_wp2_with fail;simp +zetaDelta only [Exit.inBlock,Exit.noGoto,Exit.then];exact bodyPost_ret (v := .int .i64 (-1)) (by simp[results,Tryz.results119,go_sem]) rfl ⟨rfl,(Gr.refl wr).drewN _⟩
theorem idxRune_high (x:Int) (h:128≤x) (hm:x≤1114111) (w:World) :
    Calls Tryz.prog 119 #[.string pmD,.int .i32 x] w fun e w'=>e = .returned (.int .i64 (-1))∧Gr w w':=by
 by_cases h1:x=65533
 · subst h1;exact idxRune_error w
 have h2:(x==65533)=false:=by simp[h1]
 cases hv:Lib.validRune x with
 | false=>exact idxRune_bad x h h2 hv w
 | true=>exact idxRune_valid x h h2 hv hm w
theorem contains_high (x:Int) (h:128≤x) (hm:x≤1114111) (w:World) :
    Calls Tryz.prog 99 #[.string pmD,.int .i32 x] w fun e w'=>e = .returned (.bool false)∧Gr w w':=by
 go_enter Tryz.func99,Tryz.ntmps99;go_wp2_with (go_at_call 119;refine (idxRune_high x h hm _).mono ?_;rintro e w1 ⟨rfl,g1⟩)
 go_ret
 exact⟨rfl,g1⟩
end Go.Proofs.YtdgjgcepbkanhaaGreatDoor
namespace Go.Proofs.YtdgjgcepbkanhaaGreatDoor
open Go.RowKit Go.Joins
def clipV:Value→Value
 | .slice a n _ => .slice a n n
 | v=>v
theorem clipV_block (v:Value):(clipV v).ownBlock=v.ownBlock:=by
 cases v <;> first|rfl|(rename_i a n c;cases a <;> rfl)
theorem clip_strs (g n cap:Nat) (h:n≤cap) (hc:cap≤9223372036854775807) (w:World):Calls Tryz.prog 27 #[.slice (some ⟨g,0,none⟩) n cap] w fun e w'=>e = .returned (.slice (some ⟨g,0,none⟩) n n)∧w=w':=by
 go_enter Tryz.func27,Tryz.ntmps27
 go_wp2
 go_ret
 exact⟨rfl,rfl⟩
theorem clip_strs0 (w:World):Calls Tryz.prog 27 #[.slice none 0 0] w fun e w'=>e = .returned (.slice none 0 0)∧w=w':=by
 go_enter Tryz.func27,Tryz.ntmps27
 go_wp2
 go_ret
 exact⟨rfl,rfl⟩
theorem clip_spans (g n cap:Nat) (h:n≤cap) (hc:cap≤9223372036854775807) (w:World):Calls Tryz.prog 28 #[.slice (some ⟨g,0,none⟩) n cap] w fun e w'=>e = .returned (.slice (some ⟨g,0,none⟩) n n)∧w=w':=by
 go_enter Tryz.func28,Tryz.ntmps28
 go_wp2
 go_ret
 exact⟨rfl,rfl⟩
theorem clip_spans0 (w:World):Calls Tryz.prog 28 #[.slice none 0 0] w fun e w'=>e = .returned (.slice none 0 0)∧w=w':=by
 go_enter Tryz.func28,Tryz.ntmps28
 go_wp2
 go_ret
 exact⟨rfl,rfl⟩
theorem clip_ints (g n cap:Nat) (h:n≤cap) (hc:cap≤9223372036854775807) (w:World):Calls Tryz.prog 29 #[.slice (some ⟨g,0,none⟩) n cap] w fun e w'=>e = .returned (.slice (some ⟨g,0,none⟩) n n)∧w=w':=by
 go_enter Tryz.func29,Tryz.ntmps29
 go_wp2
 go_ret
 exact⟨rfl,rfl⟩
theorem clip_ints0 (w:World):Calls Tryz.prog 29 #[.slice none 0 0] w fun e w'=>e = .returned (.slice none 0 0)∧w=w':=by
 go_enter Tryz.func29,Tryz.ntmps29
 go_wp2
 go_ret
 exact⟨rfl,rfl⟩
theorem clip_nodes (g n cap:Nat) (h:n≤cap) (hc:cap≤9223372036854775807) (w:World):Calls Tryz.prog 30 #[.slice (some ⟨g,0,none⟩) n cap] w fun e w'=>e = .returned (.slice (some ⟨g,0,none⟩) n n)∧w=w':=by
 go_enter Tryz.func30,Tryz.ntmps30
 go_wp2
 go_ret
 exact⟨rfl,rfl⟩
theorem own_form {w:World} {base e size n:Nat} {v:Value} {xs:List Value} (h:w.ownsRow base e size v n xs):(v = .slice none 0 0∧n=0)∨∃g cap,v = .slice (some ⟨g,0,none⟩) n cap∧n≤cap∧cap≤9223372036854775807:=by
 rcases h.2 with⟨h1,h2⟩|⟨g,cap,cur,h1,_,_,h2,h3,_⟩
 · exact .inl ⟨h1,h2⟩
 exact .inr ⟨g,cap,h1,h2,by simpa [maxLen]using h3⟩
theorem rowC_clip {w:World} {base e size n:Nat} {v:Value} {xs:List Value} (h:w.ownsRow base e size v n xs):RowC w base e size (clipV v) n xs:=by
 rcases own_form h with⟨rfl,h0⟩|⟨g,cap,rfl,_,_⟩
 · exact⟨_,h,rfl,.inl rfl⟩
 exact⟨_,h,rfl,.inr ⟨g,cap,rfl,rfl⟩⟩
theorem rowC_clip2 {w:World} {base e size n:Nat} {v:Value} {xs:List Value} (h:RowC w base e size v n xs):RowC w base e size (clipV v) n xs:=by
 obtain⟨v0,h1,h2,h3⟩:=h;rcases h3 with rfl|⟨g,c,rfl,rfl⟩
 · exact rowC_clip h1
 exact⟨_,h1,rfl,.inr ⟨g,c,rfl,rfl⟩⟩
theorem rowC_form {w:World} {base e size n:Nat} {v:Value} {xs:List Value} (h:RowC w base e size v n xs):(v = .slice none 0 0∧n=0)∨∃g cap,v = .slice (some ⟨g,0,none⟩) n cap∧n≤cap∧cap≤9223372036854775807:=by
 obtain⟨v0,h1,h2,h3⟩:=h;rcases own_form h1 with⟨rfl,h0⟩|⟨g,cap,rfl,q1,q2⟩
 · rcases h3 with rfl|⟨g,c,e1,_⟩
   · exact .inl ⟨rfl,h0⟩
   cases e1
 rcases h3 with rfl|⟨g',c,e1,rfl⟩
 · exact .inr ⟨g,cap,rfl,q1,q2⟩
 cases e1;exact .inr ⟨g,n,rfl,Nat.le_refl _,Nat.le_trans q1 q2⟩
section
variable {w0 W W':World} {base:Nat} {F:Nat→Prop} {kv sv uv:Value} {nk ns nu:Nat} {xk xs xu:List Value}
theorem Rows3.gr (h:Rows3 w0 W base F kv sv uv nk ns nu xk xs xu) (g:Gr W W'):Rows3 w0 W' base F kv sv uv nk ns nu xk xs xu :=
 ⟨h.st.gr g,ownsRow_of_block h.k fun k e=>g.block (h.k.lt k e).2,ownsRow_of_block h.s fun k e=>g.block (h.s.lt k e).2,ownsRow_of_block h.u fun k e=>g.block (h.u.lt k e).2,h.fk,h.fs,h.fu,h.ks,h.ku,h.su⟩
theorem NewB.gr {b:Nat} {cs:Array Value} {T:TypeId} (h:NewB W b cs T kv sv uv) (g:Gr W W'):NewB W' b cs T kv sv uv:=⟨(g.block h.lt).trans h.blk,h.k,h.s,h.u⟩
theorem Rows3.setCell (h:Rows3 w0 W base F kv sv uv nk ns nu xk xs xu) {b i:Nat} (hb:w0.heap.size≤b) (hk:kv.ownBlock≠some b) (hs:sv.ownBlock≠some b) (hu:uv.ownBlock≠some b) (x:Value):Rows3 w0 (W.setCell ⟨b,i,none⟩ x) base F kv sv uv nk ns nu xk xs xu :=
 ⟨h.st.setCell (.inr hb) x,ownsRow_setCell_ne h.k (fun k e e2=>hk (by rw[e,e2])) _,ownsRow_setCell_ne h.s (fun k e e2=>hs (by rw[e,e2])) _,ownsRow_setCell_ne h.u (fun k e e2=>hu (by rw[e,e2])) _,h.fk,h.fs,h.fu,h.ks,h.ku,h.su⟩
theorem NewB.setOther {b:Nat} {cs:Array Value} {T:TypeId} (h:NewB W b cs T kv sv uv) {p:Addr} (hp:p.block≠b) (x:Value):NewB (W.setCell p x) b cs T kv sv uv:=⟨by rw[Below.heap_setCell _ _ _ _ (Ne.symm hp)];exact h.blk,h.k,h.s,h.u⟩
theorem NewB.set {b i:Nat} {cs:Array Value} {T:TypeId} (h:NewB W b cs T kv sv uv) (x:Value):NewB (W.setCell ⟨b,i,none⟩ x) b (cs.setIfInBounds i x) T kv sv uv:=⟨block_setCell h.blk x,h.k,h.s,h.u⟩
theorem NewB.cell {b i:Nat} {cs:Array Value} {T:TypeId} (h:NewB W b cs T kv sv uv) {x:Value} (hx:cs[i]?=some x):W.cell? ⟨b,i,none⟩=some x∧W.frozen? ⟨b,i,none⟩=false :=
 ⟨by rw[cell_of_block h.blk];exact hx,unfrozen_of_block h.blk i⟩
end
end Go.Proofs.YtdgjgcepbkanhaaGreatDoor
namespace Go.Proofs.YtdgjgcepbkanhaaGreatDoor
open Go.RowKit Go.Joins
abbrev byteV (c:UInt8):Value := .int .u8 c.toNat
structure RdQ (w:World) (R:Nat) (s:ByteArray) (a:Nat) (q:UInt8) (out:List UInt8) (ov:Value):Prop where
 blk:w.heap[R]?=some (.cells #[.string s,.int .i64 a,byteV q,ov] 174 (0,0))
 own:w.ownsRow (R+1) 5 1 ov out.length (out.map byteV)
def FQ (R:Nat) (ov:Value) (k:Nat):Prop:=k=R∨ov.ownBlock=some k
theorem RdQ.lt {w R s a q out ov} (h:RdQ w R s a q out ov):R<w.heap.size:=by
 have:=h.blk;rw[Array.getElem?_eq_some_iff]at this;exact this.1
theorem RdQ.own_lt {w R s a q out ov} (h:RdQ w R s a q out ov) {k:Nat} (hk:FQ R ov k):R≤k∧k<w.heap.size:=by
 rcases hk with rfl|hk
 · exact⟨Nat.le_refl _,h.lt⟩
 have:=h.own.lt k hk;omega
theorem RdQ.cells {w R s a q out ov} (h:RdQ w R s a q out ov) :
    w.cell? ⟨R,0,none⟩=some (.string s)∧w.cell? ⟨R,1,none⟩=some (.int .i64 a)∧w.cell? ⟨R,2,none⟩=some (.int .u8 q.toNat)∧w.cell? ⟨R,3,none⟩=some ov∧(∀i,w.frozen? ⟨R,i,none⟩=false) :=
 ⟨by rw[cell_of_block h.blk];rfl,by rw[cell_of_block h.blk];rfl,by rw[cell_of_block h.blk];rfl,by rw[cell_of_block h.blk];rfl,fun i=>unfrozen_of_block h.blk i⟩
theorem RdQ.kept {w w' R s a q out ov} (h:RdQ w R s a q out ov) (hb:∀k,FQ R ov k→w'.heap[k]?=w.heap[k]?):RdQ w' R s a q out ov:=by
 refine⟨by rw[hb R (.inl rfl)];exact h.blk,h.own.1,?_⟩;rcases h.own.2 with hn|⟨g,cap,cur,rfl,hg,hh,r⟩
 · exact .inl hn
 exact .inr ⟨g,cap,cur,rfl,hg,by rw[hb g (.inr rfl)];exact hh,r⟩
theorem RdQ.gr {w w' R s a q out ov} (h:RdQ w R s a q out ov) (g:Gr w w'):RdQ w' R s a q out ov :=
 h.kept fun _ hk=>g.block (h.own_lt hk).2
theorem RdQ.alloc {w R s a q out ov} (h:RdQ w R s a q out ov) (o:Obj):RdQ (w.alloc o) R s a q out ov:=h.gr ((Gr.refl w).alloc o)
theorem RdQ.drew {w R s a q out ov} (h:RdQ w R s a q out ov):RdQ w.drew R s a q out ov:=h.gr (Gr.refl w).drew
theorem RdQ.drewN {w R s a q out ov} (h:RdQ w R s a q out ov) (n:Nat):RdQ (w.drewN n) R s a q out ov:=h.gr ((Gr.refl w).drewN n)
theorem RdQ.setCell {w R s a q out ov} (h:RdQ w R s a q out ov) {p:Addr} (hp:¬FQ R ov p.block) (v:Value):RdQ (w.setCell p v) R s a q out ov :=
 h.kept fun k hk=>Below.heap_setCell _ _ _ _ (fun e=>by subst e;exact hp hk)
theorem RdQ.setAt {w R s a q out ov} (h:RdQ w R s a q out ov) (b:Nat):RdQ (w.setCell ⟨R,1,none⟩ (.int .i64 b)) R s b q out ov:=by
 refine⟨?_,h.own.1,?_⟩
 · have:=block_setCell (i:=1) h.blk (.int .i64 b)
   simpa using this
 rcases h.own.2 with hn|⟨g,cap,cur,rfl,hg,hh,r⟩
 · exact .inl hn
 exact .inr ⟨g,cap,cur,rfl,hg,by rw[Below.heap_setCell _ _ _ _ (by simp;omega)];exact hh,r⟩
theorem news_one (w:World) (v:Value) (t:TypeId) (n:Nat) (hn:n=w.heap.size):∀j u,[v][j]?=some u→(w.alloc (.cells #[v] t)).cell? ⟨n,0+j,none⟩=some u:=by
 subst hn;intro j u hu;have:=cell_one_new w v t j u hu;rw[Addr.add_lit]at this;exact this
theorem info5:(Tryz.prog.info? 5).map (fun i=>(i.zero,i.size,i.bytes))=some (some (.int .u8 0),1,1):=by kernel_rfl
theorem tq_take (w:World) (R:Nat) (s:ByteArray) (a:Nat) (q:UInt8) (out:List UInt8) (ov:Value) (h:RdQ w R s a q out ov)
    (i:Int) (m:Nat) (hi:i=m) (ha:a+m≤30000000) (nb:List UInt8) (tb tof c:Nat) (hne:nb≠[]) (had:tb≠R)
    (hnews:∀j u,(nb.map byteV)[j]?=some u→w.cell? ⟨tb,tof+j,none⟩=some u) (hlen:out.length+nb.length≤30000000) :
    Calls Tryz.prog 222 #[.pointer (some ⟨R,0,none⟩),.int .i64 i,.slice (some ⟨tb,tof,none⟩) nb.length c] w fun e w' =>
     e = .returned (.tuple #[])∧∃ov',RdQ w' R s (a+m) q (out++nb) ov'∧St (FQ R ov) (FQ R ov') w w':=by
 subst hi;obtain⟨i0,hi,hz0,hz1,hz2⟩:=info_parts info5;obtain⟨c0,c1,c2,c3,fz⟩:=h.cells;have hlt:=h.lt;have fz1:=fz 1;have fz3:=fz 3;have HA:Hid (RdQ (w.setCell ⟨R,1,none⟩ (.int .i64 (a+m:Nat))) R s (a+m) q out ov):=h.setAt (a+m);have HI:=Lib.hid hi;have HZ:=Lib.hid hz0;have HZ1:=Lib.hid hz1;have HZ2:=Lib.hid hz2;have HN:Hid (∀j u,(nb.map byteV)[j]?=some u→(w.setCell ⟨R,1,none⟩ (.int .i64 (a+m:Nat))).cell? ((⟨tb,tof,none⟩:Addr).add j)=some u):=by
  intro j u hu;rw[Addr.add_lit,World.cell?_setCell_other _ _ _ _ (by intro e;exact had (congrArg Addr.block e).symm)];exact hnews j u hu
 have hpos:0<nb.length:=by cases nb with|nil=>exact absurd rfl hne|cons=>simp
 have HS:=Lib.hid h;clear fz hnews hi hz0 hz1 hz2 h;go_enter Tryz.func222,Tryz.ntmps222
 set_option maxRecDepth 100000 in
 go_wp2_with (at_builtin;refine wpList_append_lies _ rfl (.tmp 18) (.tmp 19) 23 rfl (R+1) 5 i0 (.int .u8 0) 1 1 Tryz.underlying23 HI.out HZ.out HZ1.out HZ2.out rfl (by decide) ov out.length (out.map byteV) rfl HA.out.own ⟨tb,tof,none⟩ nb.length c (nb.map byteV) rfl (by simp) HN.out (by simp[Value.oneCell']) hpos (by unfold maxLen;omega) (by omega) (by simp[World.setCell];omega) _ rfl ?_;intro g cap w1 hown1 hg1 hl1 hz1;have hr:=fun o=>World.cell?_of_block (w:=w.setCell ⟨R,1,none⟩ (.int .i64 (a+m:Nat))) (a:=⟨R,o,none⟩) (hg1.block R (by simp[World.setCell];exact hlt) (fun e=>by have:=HA.out.own.lt R e.symm;omega));have hfz:=fun o=>World.frozen?_of_block (w:=w.setCell ⟨R,1,none⟩ (.int .i64 (a+m:Nat))) (a:=⟨R,o,none⟩) (hg1.block R (by simp[World.setCell];exact hlt) (fun e=>by have:=HA.out.own.lt R e.symm;omega));have e3:w1.cell? ⟨R,3,none⟩=some ov:=(hr 3).trans HA.out.cells.2.2.2.1;have f3:w1.frozen? ⟨R,3,none⟩=false:=(hfz 3).trans (HA.out.cells.2.2.2.2 3);have H1:=Lib.hid (show _∧_∧_ from ⟨hown1,hg1,hl1⟩);clear hown1 hg1 hl1 hr hfz);obtain⟨hown1,hg1,hl1⟩:=H1.out;have hA:=HA.out;have hblk1:w1.heap[R]?=some (.cells #[.string s,.int .i64 (a+m:Nat),byteV q,ov] 174 (0,0)):=by
  rw[hg1.block R (by simp[World.setCell];exact hlt) (fun e=>by have:=hA.own.lt R e.symm;omega)];exact hA.blk
 go_end0
 refine⟨rfl,.slice (some ⟨g,0,none⟩) (out.length+nb.length) cap,⟨?_,?_⟩,?_⟩
 · have:=block_setCell (i:=3) hblk1 (.slice (some ⟨g,0,none⟩) (out.length+nb.length) cap)
   simpa using this
 · have:=ownsRow_setCell_below hown1 (a:=⟨R,3,none⟩) (Nat.lt_succ_self R) (.slice (some ⟨g,0,none⟩) (out.length+nb.length) cap)
   simpa using this
 have h1:St (FQ R ov) (FQ R ov) w (w.setCell ⟨R,1,none⟩ (.int .i64 (a+m:Nat))):=(St.refl _ _).setCell (.inl (.inl rfl)) _;have h2:=h1.grown hg1 (fun k hk => .inl (.inr hk));have h3:=h2.setCell (p:=⟨R,3,none⟩) (.inl (.inl rfl)) (.slice (some ⟨g,0,none⟩) (out.length+nb.length) cap);have e:(↑a + ↑m:Int)=((a+m:Nat):Int):=by omega
 refine St.to (by simpa [e]using h3) (fun k hk=>?_);rcases hk with rfl|hk
 · exact .inl (.inl rfl)
 simp only[Value.ownBlock,Option.some.injEq]at hk;subst hk;rcases hl1 with hl1|hl1
 · exact .inl (.inr hl1)
 exact .inr (by rw[hl1];simp[World.setCell])
theorem RdQ.auto {w w2:World} {R:Nat} {s:ByteArray} {a:Nat} {q:UInt8} {out:List UInt8} {ov:Value} (k:RdQ w R s a q out ov) (h:RdQ w R s a q out ov→RdQ w2 R s a q out ov:=by intro k;(repeat (first|exact k|refine RdQ.drew ?_|refine RdQ.drewN ?_ _|refine RdQ.alloc ?_ _|refine RdQ.setCell ?_ (by assumption) _|refine RdQ.gr ?_ (by assumption)))):RdQ w2 R s a q out ov:=h k
end Go.Proofs.YtdgjgcepbkanhaaGreatDoor
namespace Go.Proofs.YtdgjgcepbkanhaaGreatDoor
open Go.RowKit Go.Joins
def StepPost (R:Nat) (s:ByteArray) (a:Nat) (q:UInt8) (out:List UInt8) (ov:Value) (w:World) (sr:Pl.SR) (e:Ending) (w':World):Prop :=
 match sr with
 | .go n t over=>e = .returned (.tuple #[.bool over,f0])∧∃ov',RdQ w' R s (a+n) q (out++t) ov'∧St (FQ R ov) (FQ R ov') w w'
 | .bad p=>e = .returned (.tuple #[.bool false,fv 3 (a+p)])∧∃F',St (FQ R ov) F' w w'
theorem tq_itself_no (w:World) (R:Nat) (s:ByteArray) (a:Nat) (q:UInt8) (out:List UInt8) (ov:Value) (h:RdQ w R s a q out ov)
    (hlt:a<s.size) (hs:s.size≤20000000) (hp:Pl.isPlain s[a]=false) :
    Calls Tryz.prog 221 #[.pointer (some ⟨R,0,none⟩)] w fun e w'=>e = .returned (.tuple #[.bool false,fv 3 a])∧Gr w w':=by
 obtain⟨c0,c1,c2,c3,fz⟩:=h.cells;have hR:=h.lt;have HP:=Lib.hid hp;clear fz h hp c3;go_enter Tryz.func221,Tryz.ntmps221;go_wp2_with fail
 go_quiet (fail)
 go_wp2_with (first|(go_at_call 50;refine (tq_plain _ _).mono ?_;rw[HP.out];rintro e w1 ⟨rfl,rfl⟩)|(go_at_call 103;refine (tq_wrong _ a rfl _).mono ?_;rintro e w1 ⟨rfl,g1⟩;obtain⟨hc1,hf1,hz1⟩:=g1.use));exact bodyPost_ret (v := .tuple #[.bool false,fv 3 a]) (by simp[results,Tryz.results221,go_sem,hc1]) rfl ⟨rfl,Gr.auto⟩
theorem tq_itself_yes (w:World) (R:Nat) (s:ByteArray) (a:Nat) (q:UInt8) (out:List UInt8) (ov:Value) (h:RdQ w R s a q out ov)
    (hlt:a<s.size) (hs:s.size≤20000000) (ho:out.length≤a) (hp:Pl.isPlain s[a]=true) :
    Calls Tryz.prog 221 #[.pointer (some ⟨R,0,none⟩)] w fun e w'=>e = .returned (.tuple #[.bool false,f0])∧∃ov',RdQ w' R s (a+1) q (out++[s[a]]) ov'∧St (FQ R ov) (FQ R ov') w w':=by
 obtain⟨c0,c1,c2,c3,fz⟩:=h.cells;have hR:=h.lt;have HP:=Lib.hid hp;have HS:=Lib.hid h;clear fz h hp c3;go_enter Tryz.func221,Tryz.ntmps221;go_wp2_with fail
 go_quiet (fail)
 go_wp2_with (first|(go_at_call 50;refine (tq_plain _ _).mono ?_;rw[HP.out];rintro e w1 ⟨rfl,rfl⟩));refine (tq_take _ R s a q out ov (RdQ.auto HS.out) 1 1 rfl (by omega) [s[a]] (w.heap.size+1) 0 1 (by simp) (by omega) (news_one _ _ _ _ (by simp)) (by simp;omega)).mono ?_;rintro e w1 ⟨rfl,ov',hr,hst⟩;have hb3:=hst.use w.heap.size (by simp;omega) (fun hF=>by have:=HS.out.own_lt hF;omega);have hz:=hst.size;simp at hz;obtain⟨hc1,hf1⟩:=hb3;have HR:=Lib.hid hr;have HT:=Lib.hid hst;clear hr hst;go_wp2_with fail;refine bodyPost_ret (v := .tuple #[.bool false,f0]) (by simp[results,Tryz.results221,go_sem,hc1]) rfl ⟨rfl,ov',?_,?_⟩
 · have hn3:¬FQ R ov' w.heap.size:=fun hF=>by
    rcases HT.out.own _ hF with hF|hF
    · have:=HS.out.own_lt hF;omega
    simp at hF;omega
   exact RdQ.auto HR.out
 have hst:=HT.out;exact St.auto
theorem tq_end_no (w:World) (R:Nat) (s:ByteArray) (a:Nat) (q:UInt8) (out:List UInt8) (ov:Value) (h:RdQ w R s a q out ov)
    (hlt:a<s.size) (hs:s.size≤20000000) (hp:((s[a]).toNat==q.toNat)=false) :
    Calls Tryz.prog 219 #[.pointer (some ⟨R,0,none⟩)] w fun e w'=>e = .returned (.bool false)∧Gr w w':=by
 obtain⟨c0,c1,c2,c3,fz⟩:=h.cells;have hR:=h.lt;obtain⟨b1,b2⟩:=beqs _ _ _ hp;clear fz h hp c3;go_enter Tryz.func219,Tryz.ntmps219;go_wp2_with fail
 go_quiet (fail)
 go_wp2_with fail
 go_ret
 exact⟨rfl,Gr.auto⟩
theorem tq_end_yes (w:World) (R:Nat) (s:ByteArray) (a:Nat) (q:UInt8) (out:List UInt8) (ov:Value) (h:RdQ w R s a q out ov)
    (hlt:a<s.size) (hs:s.size≤20000000) (hp:((s[a]).toNat==q.toNat)=true) :
    Calls Tryz.prog 219 #[.pointer (some ⟨R,0,none⟩)] w fun e w'=>e = .returned (.bool true)∧RdQ w' R s (a+1) q out ov∧St (FQ R ov) (FQ R ov) w w':=by
 obtain⟨c0,c1,c2,c3,fz⟩:=h.cells;have hR:=h.lt;obtain⟨b1,b2⟩:=beqs _ _ _ hp;have fz1:=fz 1;have HS:=Lib.hid h;have HP:=Lib.hid hp;clear fz h hp c3;go_enter Tryz.func219,Tryz.ntmps219;go_wp2_with fail
 go_quiet (fail)
 go_wp2_with fail
 go_ret
 have e:(↑a+1:Int)=((a+1:Nat):Int):=by omega
 rw[e];exact⟨rfl,by first|exact (HS.out.setAt (a+1)).drewN _|exact (HS.out.setAt (a+1)),by first|exact ((St.refl _ _).setCell (.inl (.inl rfl)) _).drewN _|exact ((St.refl _ _).setCell (.inl (.inl rfl)) _)⟩
theorem feed_at (s:ByteArray) (a:Nat) (hlt:a<s.size) :
    Pl.feed ((bs s).drop a)=if (s[a].toNat==10)=true then .ok 1 else if (s[a].toNat==13)=true then (if Pl.pre ((bs s).drop (a+1)) [10]=true then .ok 2 else .bad 3 1) else .ok 0:=by
 rw[idx_bs s a hlt];generalize (bs s).drop (a+1)=l;generalize s[a]=c;by_cases h10:c=10
 · subst h10;simp[Pl.feed]
 by_cases h13:c=13
 · subst h13;cases l with
   | nil=>simp[Pl.feed,Pl.pre]
   | cons b l =>
    by_cases hb:b=10
    · subst hb;simp[Pl.feed,Pl.pre]
    have:Pl.feed (13::b::l) = .bad 3 1:=by
     unfold Pl.feed;split <;> simp_all
    rw[this];simp[Pl.pre,hb]
 have:Pl.feed (c::l) = .ok 0:=by
  unfold Pl.feed;split <;> simp_all
 have e1:¬c.toNat=10:=fun e=>h10 (by rw[←UInt8.toNat_inj,e];rfl)
 have e2:¬c.toNat=13:=fun e=>h13 (by rw[←UInt8.toNat_inj,e];rfl)
 rw[this];simp[e1,e2]
theorem tq_feed (w:World) (R:Nat) (s:ByteArray) (a:Nat) (q:UInt8) (out:List UInt8) (ov:Value) (h:RdQ w R s a q out ov)
    (hlt:a<s.size) (hs:s.size≤20000000) :
    Calls Tryz.prog 106 #[.pointer (some ⟨R,0,none⟩)] w fun e w'=>(match Pl.feed ((bs s).drop a) with
     | .ok n=>e = .returned (.tuple #[.int .i64 n,f0])
     | .bad c p=>e = .returned (.tuple #[.int .i64 0,fv c (a+p)]))∧Gr w w':=by
 obtain⟨c0,c1,c2,c3,fz⟩:=h.cells;have hR:=h.lt;rw[feed_at s a hlt];have HS:=Lib.hid h;clear fz h c3;cases h10:(s[a].toNat==10)
 · obtain⟨b1,b2⟩:=beqs _ 10 _ h10;cases h13:(s[a].toNat==13)
   · obtain⟨b3,b4⟩:=beqs _ 13 _ h13;clear h10 h13;simp only[Bool.false_eq_true,if_false];go_enter Tryz.func106,Tryz.ntmps106;go_wp2_with fail
     go_quiet (fail)
     go_wp2_with fail
     go_quiet (fail)
     go_wp2_with fail;exact bodyPost_ret (v := .tuple #[.int .i64 0,f0]) (by simp[results,Tryz.results106,go_sem]) rfl ⟨rfl,Gr.auto⟩
   obtain⟨b3,b4⟩:=beqs _ 13 _ h13;clear h10 h13;cases hp:Pl.pre ((bs s).drop (a+1)) [10]
   · simp only[Bool.false_eq_true,if_false,if_true];have HP:=Lib.hid hp;clear hp;have hw:=IntWalk.i64_in ((a:Int)+1) (by omega);have hk1:(0:Int)≤(a:Int)+1:=by omega
     have hk2:(a:Int)+1≤(s.size:Int):=by omega
     have hk3:((a:Int)+1).toNat=a+1:=by omega
     go_enter Tryz.func106,Tryz.ntmps106;go_wp2_with fail
     go_quiet (fail)
     go_wp2_with fail
     go_quiet (fail)
     go_wp2_with fail
     go_quiet ((go_at_call 44;exact quiet_any2 (prefix_at s ⟨#[10]⟩ (a+1) false HP.out _) ⟨_,rfl⟩))
     clear hw hk1 hk2 hk3;go_wp2_with (go_at_call 103;refine (tq_wrong _ (a+1) (by omega) _).mono ?_;rintro e w1 ⟨rfl,g1⟩;obtain⟨hc1,hf1,hz1⟩:=g1.use);exact bodyPost_ret (v := .tuple #[.int .i64 0,fv 3 (a+1)]) (by simp[results,Tryz.results106,go_sem,hc1]) rfl ⟨rfl,Gr.auto⟩
   simp only[Bool.false_eq_true,if_false,if_true];have HP:=Lib.hid hp;clear hp;have hw:=IntWalk.i64_in ((a:Int)+1) (by omega);have hk1:(0:Int)≤(a:Int)+1:=by omega
   have hk2:(a:Int)+1≤(s.size:Int):=by omega
   have hk3:((a:Int)+1).toNat=a+1:=by omega
   go_enter Tryz.func106,Tryz.ntmps106;go_wp2_with fail
   go_quiet (fail)
   go_wp2_with fail
   go_quiet (fail)
   go_wp2_with fail
   go_quiet ((go_at_call 44;exact quiet_any2 (prefix_at s ⟨#[10]⟩ (a+1) true HP.out _) ⟨_,rfl⟩))
   clear hw hk1 hk2 hk3;go_wp2_with fail;exact bodyPost_ret (v := .tuple #[.int .i64 2,f0]) (by simp[results,Tryz.results106,go_sem]) rfl ⟨rfl,Gr.auto⟩
 obtain⟨b1,b2⟩:=beqs _ 10 _ h10;clear h10;simp only[if_true];go_enter Tryz.func106,Tryz.ntmps106;go_wp2_with fail
 go_quiet (fail)
 go_wp2_with fail;exact bodyPost_ret (v := .tuple #[.int .i64 1,f0]) (by simp[results,Tryz.results106,go_sem]) rfl ⟨rfl,Gr.auto⟩
end Go.Proofs.YtdgjgcepbkanhaaGreatDoor
namespace Go.Proofs.YtdgjgcepbkanhaaGreatDoor.Pl
def run (q:UInt8) (l:Bs):Nat:=(l.takeWhile fun c=>c.toNat==q.toNat).length
def marksN (q:UInt8) (l:Bs):Nat:=min 5 (run q l)
def marks (q:UInt8) (l:Bs):SR :=
 let n:=marksN q l
 if 3≤n then .go n (List.replicate (n-3) q) true else .go n (List.replicate n q) false
theorem run_le (q:UInt8) (l:Bs):run q l≤l.length:=takeWhile_length_le _ _
theorem run_get (q:UInt8) (l:Bs) (k:Nat) (h:k<l.length):(l[k]'h).toNat=q.toNat→k≤run q l→k+1≤run q l:=by
 unfold run
 induction l generalizing k with
 | nil=>simp at h
 | cons c l ih =>
  intro h1 h2;rw[List.takeWhile_cons]at h2 ⊢;cases k with
  | zero =>
   simp at h1;rw[if_pos (by simpa using h1)];simp
  | succ k =>
   split at h2
   · rename_i hc
     rw[if_pos hc];simp at h1 h2 ⊢;have:=ih k (by simpa using h) h1 h2;omega
   simp at h2
theorem run_stop (q:UInt8) (l:Bs) (k:Nat) (h:∀hk:k<l.length,(l[k]'hk).toNat≠q.toNat):k≤run q l→run q l=k:=by
 unfold run
 induction l generalizing k with
 | nil=>intro h2;simp at h2 ⊢;omega
 | cons c l ih =>
  intro h2;rw[List.takeWhile_cons]at h2 ⊢;cases k with
  | zero =>
   have:=h (by simp);rw[if_neg (by simpa using this)];rfl
  | succ k =>
   split at h2
   · rename_i hc
     rw[if_pos hc];simp at h2 ⊢;exact ih k (fun hk=>by have:=h (by simp;omega);rwa [List.getElem_cons_succ]at this) h2
   simp at h2
theorem run_drop (q:UInt8) (l:Bs) (a k:Nat) (ha:a≤l.length) (hk:k≤run q (l.drop a)) :
    (∃h:a+k<l.length,k<5∧((l[a+k]'h).toNat==q.toNat)=true∧k+1≤run q (l.drop a)) ∨
    (k≤5→marksN q (l.drop a)=k∧(¬a+k<l.length∨(a+k<l.length∧¬k<5)∨(∃h:a+k<l.length,k<5∧((l[a+k]'h).toNat==q.toNat)=false))):=by
 have hl:=run_le q (l.drop a);rw[List.length_drop]at hl;by_cases h1:a+k<l.length
 · by_cases h2:k<5
   · cases h3:((l[a+k]'h1).toNat==q.toNat)
     · refine .inr fun _=>⟨?_,.inr (.inr ⟨h1,h2,h3⟩)⟩
       have:=run_stop q (l.drop a) k (fun hk'=>by simpa using h3) hk;unfold marksN;omega
     refine .inl ⟨h1,h2,h3,?_⟩;exact run_get q (l.drop a) k (by rw[List.length_drop];omega) (by simpa using h3) hk
   exact .inr fun _=>⟨by unfold marksN;omega,.inr (.inl ⟨h1,h2⟩)⟩
 exact .inr fun _=>⟨by unfold marksN;omega,.inl h1⟩
def common (q:UInt8) (l:Bs):Option SR :=
 match l with
 | []=>none
 | c::r =>
  if c.toNat==q.toNat then some (marks q (c::r)) else
  match feed (c::r) with
  | .ok 0=>none
  | .ok (n+1)=>some (.go (n+1) ((c::r).take (n+1)) false)
  | .bad _ p=>some (.bad p)
def stepLit (q:UInt8):Bs→SR
 | [] => .bad 0
 | c::r=>if c.toNat==q.toNat then .go 1 [] true else itself (c::r)
def stepLongLit (q:UInt8) (l:Bs):SR :=
 match common q l with
 | some x=>x
 | none=>itself l
theorem feed_bad (l:Bs) (c p:Nat) (h:feed l = .bad c p):c=3∧p=1:=by
 unfold feed at h
 split at h <;> simp_all
theorem feed_le (l:Bs) (n:Nat) (h:feed l = .ok n):n≤l.length:=by
 unfold feed at h
 split at h <;> simp_all <;> omega
def foldF:Nat→Bool→Bs→Out Nat
 | 0,_,_ => .ok 0
 | f+1,first,l =>
  match l.drop (blanks l) with
  | [] => .ok (blanks l)
  | c::r =>
   match feed (c::r) with
   | .bad k p => .bad k (blanks l+p)
   | .ok 0=>if first then .bad 3 (blanks l) else .ok (blanks l)
   | .ok (n+1) =>
    match foldF f false ((c::r).drop (n+1)) with
    | .bad k p => .bad k (blanks l+(n+1)+p)
    | .ok m => .ok (blanks l+(n+1)+m)
def foldAt (first:Bool) (l:Bs) (n:Nat):Out Nat :=
 match foldF ((l.drop n).length+1) first (l.drop n) with
 | .bad k p => .bad k (n+p)
 | .ok m => .ok (n+m)
theorem foldF_more:∀f g first (l:Bs),l.length<f→l.length<g→foldF f first l=foldF g first l:=by
 intro f
 induction f with
 | zero=>intro g first l h;omega
 | succ f ih =>
  intro g first l hf hg
  match g,hg with
  | g+1,hg =>
   unfold foldF;cases hd:l.drop (blanks l) with
   | nil=>rfl
   | cons c r =>
    have hl:(c::r).length≤l.length:=by rw[←hd,List.length_drop];omega
    simp only;cases hs:feed (c::r) with
    | bad k p=>rfl
    | ok n =>
     cases n with
     | zero=>rfl
     | succ n =>
      have:=feed_le _ _ hs;simp only;rw[ih g false ((c::r).drop (n+1)) (by rw[List.length_drop];omega) (by rw[List.length_drop];omega)]
theorem foldAt_step (first:Bool) (l:Bs) (n m:Nat) (hn:n≤l.length) (hm:m=blanksAt l n) :
    (m=l.length→foldAt first l n = .ok m) ∧
    (m<l.length→feed (l.drop m) = .ok 0→first=true→foldAt first l n = .bad 3 m) ∧
    (m<l.length→feed (l.drop m) = .ok 0→first=false→foldAt first l n = .ok m) ∧
    (m<l.length→∀k p,feed (l.drop m) = .bad k p→foldAt first l n = .bad k (m+p)) ∧
    (m<l.length→∀k,feed (l.drop m) = .ok (k+1)→foldAt first l n=foldAt false l (m+(k+1))):=by
 have hb:=blanksAt_le l n hn;rw[←hm]at hb;have hd:(l.drop n).drop (blanks (l.drop n))=l.drop m:=by rw[List.drop_drop,hm];rfl
 have hmb:m=n+blanks (l.drop n):=by rw[hm];rfl
 refine⟨fun h=>?_,fun h h1 h2=>?_,fun h h1 h2=>?_,fun h k p h1=>?_,fun h k h1=>?_⟩
 · unfold foldAt foldF;rw[hd,List.drop_eq_nil_of_le (by omega)];simp only;rw[hmb]
 all_goals
  obtain⟨c,r,hcr⟩:∃c r,l.drop m=c::r:=⟨_,_,List.drop_eq_getElem_cons h⟩
  rw[hcr]at h1
  conv=>lhs;unfold foldAt foldF
  rw[hd,hcr];simp only;rw[h1]
 · simp only;rw[if_pos h2,hmb]
 · simp only;rw[if_neg (by rw[h2];simp),hmb]
 · simp only;rw[hmb,Nat.add_assoc]
 simp only;have hkl:=feed_le _ _ h1;rw[←hcr,List.length_drop]at hkl;rw[←hcr,List.drop_drop,foldF_more _ ((l.drop (m+(k+1))).length+1) false (l.drop (m+(k+1))) (by rw[List.length_drop,List.length_drop];omega) (by omega)];unfold foldAt;cases foldF ((l.drop (m+(k+1))).length+1) false (l.drop (m+(k+1))) with
 | bad k2 p2=>simp only;congr 1;omega
 | ok m2=>simp only;congr 1;omega
end Go.Proofs.YtdgjgcepbkanhaaGreatDoor.Pl
namespace Go.Proofs.YtdgjgcepbkanhaaGreatDoor
open Go.RowKit Go.Joins
theorem tq_marks (w:World) (R:Nat) (s:ByteArray) (a:Nat) (q:UInt8) (out:List UInt8) (ov:Value) (h:RdQ w R s a q out ov)
    (hlt:a<s.size) (hs:s.size≤20000000) (ho:out.length≤a) :
    Calls Tryz.prog 231 #[.pointer (some ⟨R,0,none⟩)] w fun e w'=>match Pl.marks q ((bs s).drop a) with
     | .go n t over=>e = .returned (.bool over)∧∃ov',RdQ w' R s (a+n) q (out++t) ov'∧St (FQ R ov) (FQ R ov') w w'
     | .bad _=>False:=by
 obtain⟨X,hX⟩:∃X:Ending→World→Prop,X=fun e w'=>match Pl.marks q ((bs s).drop a) with
     | .go n t over=>e = .returned (.bool over)∧∃ov',RdQ w' R s (a+n) q (out++t) ov'∧St (FQ R ov) (FQ R ov') w w'
     | .bad _=>False:=⟨_,rfl⟩
 rw[←hX];have HX:=Lib.hid hX;clear hX;obtain⟨c0,c1,c2,c3,fz⟩:=h.cells;have fz1:=fz 1;have hR:=h.lt;have HS:=Lib.hid h;clear fz h;go_enter Tryz.func231,Tryz.ntmps231;go_wp2_with fail
 go_loopw [3] (fun n wr=>∃k:Nat,n = .int .i64 k∧k≤5∧k≤Pl.run q ((bs s).drop a)∧∃m,wr=w.drewN m) (fun n _=>5-(intOf n).toNat)
 case atStart=>exact⟨0,rfl,by omega,by omega,0,rfl⟩
 case round =>
  obtain⟨k,rfl,hk5,hkr,m,rfl⟩:=hrel;have hw:=IntWalk.i64_in ((a:Int)+k) (by omega);have hk1:(0:Int)≤(a:Int)+k:=by omega
  have hk3:((a:Int)+k).toNat=a+k:=by omega
  rcases Pl.run_drop q (bs s) a k (by rw[bs_length];omega) hkr with⟨h1,h2,h3,h4⟩|hstop
  · have h1':a+k<s.size:=by rw[←bs_length];exact h1
    obtain⟨b1,b2⟩:=beqs _ _ _ (show ((s[a+k]'h1').toNat==q.toNat)=true from h3);have hd5:decide ((k:Int)<5)=true:=by simp;omega
    clear h3;have hk2:(a:Int)+k<(s.size:Int):=by omega
    go_wp2_with fail
    go_quiet (fail)
    clear hw;go_wp2_with fail
    go_roundw
    case rel=>exact⟨k+1,by go_num,by omega,h4,_,rfl⟩
    case measure=>simp[intOf];omega
  obtain⟨hM,hst⟩:=hstop hk5;have HM:=Lib.hid hM;clear hM hstop;rcases hst with h1|⟨h1,h2⟩|⟨h1,h2,h3⟩
  all_goals first
   | (have h3':=h3;have h1':a+k<s.size:=by { rw[←bs_length];exact h1 };obtain⟨b1,b2⟩:=beqs _ _ _ (show ((s[a+k]'h1').toNat==q.toNat)=false from h3);clear h3 h3';have hd5:decide ((k:Int)<5)=true:=by { simp;omega };have hk2:(a:Int)+k<(s.size:Int):=by omega)
   | (have h2':=h2;rw[bs_length]at h1;have hd5:decide ((k:Int)<5)=false:=by { simp;omega };have hdA:decide ((a:Int)+k<(s.size:Int))=true:=by { simp;omega })
   | (rw[bs_length]at h1;have hdA:decide ((a:Int)+k<(s.size:Int))=false:=by { simp;omega })
  all_goals
   go_wp2_with fail
   go_quiet (fail)
   clear hw;by_cases hk:3≤k
   · have hd3:decide (3≤(k:Int))=true:=by simp;omega
     go_wp2_with fail
     go_loopw [48] (fun i wr=>∃(j:Nat) (ov1:Value),i = .int .i64 j∧j≤(k-3)∧RdQ wr R s (a+j) q (out++List.replicate j q) ov1∧St (FQ R ov) (FQ R ov1) w wr) (fun i _=>(k-3)-(intOf i).toNat)
     case atStart=>exact⟨0,ov,rfl,by omega,by simpa using (HS.out.drewN _),St.auto⟩
     case round =>
      obtain⟨j,ov1,rfl,hj,hrd,hst1⟩:=hrel;obtain⟨d0,d1,d2,d3,gz⟩:=hrd.cells;have gz1:=gz 1;have hr1:=hrd.lt;have HD:=Lib.hid hrd;have HT:=Lib.hid hst1;clear hrd hst1 gz c0 c1 c2 c3 d0 d3;by_cases hjk:j<(k-3)
      · go_wp2_with fail;refine (tq_take _ R s (a+j) q (out++List.replicate j q) ov1 (RdQ.auto HD.out) 1 1 rfl (by omega) [q] wr.heap.size 0 1 (by simp) (by omega) (news_one _ _ _ _ (by simp)) (by simp;omega)).mono ?_;rintro e w1 ⟨rfl,ov2,hr2,hst2⟩;have HR2:=Lib.hid hr2;have HT2:=Lib.hid hst2;clear hr2 hst2;go_wp2_with fail
        go_roundw
        case rel =>
         refine⟨j+1,ov2,by go_num,by omega,?_,?_⟩
         · have:=HR2.out;rw[List.append_assoc,show List.replicate j q++[q]=List.replicate (j+1) q from by rw[List.replicate_succ']]at this;exact this
         have h1:=HT.out;have h2:=HT2.out;exact St.auto
        case measure=>simp[intOf];omega
      have hjk':¬(j:Int)<((k:Int)-3):=by omega
      go_wp2_with fail;have e3:j=k-3:=by omega
      have hrd:=HD.out;have hst1:=HT.out;rw[HX.out];unfold Pl.marks;rw[HM.out];simp only;rw[if_pos hk];have e4:(↑a + ↑j+3:Int)=((a+k:Nat):Int):=by omega
      rw[e3]at hrd;refine⟨rfl,ov1,?_,?_⟩
      · rw[e4];exact hrd.setAt (a+k)
      exact hst1.setCell (.inl (.inl rfl)) _
   first
    | (exfalso;omega)
    | (have hd3:decide (3≤(k:Int))=false:=by simp;omega
       go_wp2_with fail
       go_loopw [48] (fun i wr=>∃(j:Nat) (ov1:Value),i = .int .i64 j∧j≤k∧RdQ wr R s (a+j) q (out++List.replicate j q) ov1∧St (FQ R ov) (FQ R ov1) w wr) (fun i _=>k-(intOf i).toNat)
       case atStart=>exact⟨0,ov,rfl,by omega,by simpa using (HS.out.drewN _),St.auto⟩
       case round =>
        obtain⟨j,ov1,rfl,hj,hrd,hst1⟩:=hrel;obtain⟨d0,d1,d2,d3,gz⟩:=hrd.cells;have gz1:=gz 1;have hr1:=hrd.lt;have HD:=Lib.hid hrd;have HT:=Lib.hid hst1;clear hrd hst1 gz c0 c1 c2 c3 d0 d3;by_cases hjk:j<k
        · go_wp2_with fail;refine (tq_take _ R s (a+j) q (out++List.replicate j q) ov1 (RdQ.auto HD.out) 1 1 rfl (by omega) [q] wr.heap.size 0 1 (by simp) (by omega) (news_one _ _ _ _ (by simp)) (by simp;omega)).mono ?_;rintro e w1 ⟨rfl,ov2,hr2,hst2⟩;have HR2:=Lib.hid hr2;have HT2:=Lib.hid hst2;clear hr2 hst2;go_wp2_with fail
          go_roundw
          case rel =>
           refine⟨j+1,ov2,by go_num,by omega,?_,?_⟩
           · have:=HR2.out;rw[List.append_assoc,show List.replicate j q++[q]=List.replicate (j+1) q from by rw[List.replicate_succ']]at this;exact this
           have h1:=HT.out;have h2:=HT2.out;exact St.auto
          case measure=>simp[intOf];omega
        have hjk':¬(j:Int)<(k:Int):=by omega
        go_wp2_with fail;have e3:j=k:=by omega
        have hrd:=HD.out;have hst1:=HT.out;rw[HX.out];unfold Pl.marks;rw[HM.out];simp only;rw[if_neg hk];rw[e3]at hrd;exact⟨rfl,ov1,hrd,hst1⟩)
end Go.Proofs.YtdgjgcepbkanhaaGreatDoor
