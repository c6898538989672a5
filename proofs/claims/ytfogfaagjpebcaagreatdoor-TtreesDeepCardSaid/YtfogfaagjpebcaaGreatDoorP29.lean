/-
 The walks and plain laws that the claim rests on, part 29.
-/
import Derived.Test.YtfogfaagjpebcaaGreatDoorP00
import Derived.Test.YtfogfaagjpebcaaGreatDoorP17
import Derived.Test.YtfogfaagjpebcaaGreatDoorP23
import Derived.Test.YtfogfaagjpebcaaGreatDoorP27
set_option maxHeartbeats 16000000
set_option linter.all false
set_option linter.unusedVariables false
set_option linter.unusedSimpArgs false
namespace Go.Proofs.YtfogfaagjpebcaaGreatDoor
open Go.RowKit Go.Shelf Go.Joins
attribute [local go_sem] Oper.semAt_some
def PlainO (X:Pl.Out (Nat × Pl.Bs)) (k:Nat) (x:ByteArray) (c:Nat):Prop:=match X with
 | .ok (k',t')=>k=k'∧bs x=t'∧c=0
 | .bad c' _=>c=c'∧c'≠0
namespace Pl
def datP (l:Bs):Out (Nat × Bs):=match datRead l with
 | .ok x => .ok (6,x)
 | .bad c p => .bad c p
theorem datRead_code' {l:Bs} {c p:Nat} (h:datRead l = .bad c p):c≠0:=by
 unfold datRead at h;simp only at h
 split at h
 · exact J36
 split at h
 · cases h
 exact J36
theorem intRead_code' {l:Bs} {c p:Nat} (h:intRead l = .bad c p):c=3∨c=8:=by
 unfold intRead at h;have key:∀r sg ds,intRead3 r sg ds = .bad c p→c=3∨c=8:=by
  intro r sg ds h;unfold intRead3 at h
  split at h
  · cases h;exact .inl rfl
  split at h
  · cases h
  · cases h;exact .inr rfl
  cases h;exact .inl rfl
 split at h
 · exact key _ _ _ h
 exact key _ _ _ h
theorem fltRead_code' {l:Bs} {c p:Nat} (h:fltRead l = .bad c p):c≠0:=by
 unfold fltRead at h
 split at h
 · cases h
 split at h
 split at h
 split at h
 · unfold decRead at h
   split at h
   · exact J36
   split at h
   · exact J36
   simp only at h
   split at h
   · cases h
   split at h
   · cases h
   exact J36
 exact J36
end Pl
theorem tv_plain_date (t:ByteArray) (hs:t.size≤20000000) (w:World) (hw:IntW w) :
    Calls Tryz.prog 115 #[.string t,.bool true] w fun e w'=>(∃(k:Nat) (x:ByteArray) (c:Nat),e = .returned (.tuple #[.int .u8 k,.string x,.int .i64 c])∧PlainO (Pl.datP (bs t)) k x c)∧Gr w w':=by
 have HD:=Lib.hid (dt_Read t hs w);go_enter Tryz.func115,Tryz.ntmps115;go_wp2_with fail;refine HD.out.mono ?_;rintro e w1 ⟨hp,g1⟩;unfold IntPost at hp;cases hX:Pl.datRead (bs t) with
 | ok x =>
  rw[hX]at hp;have he:=hp;clear hp;subst he;go_wp2_with fail;exact bodyPost_ret (v := .tuple #[.int .u8 6,.string ⟨x.toArray⟩,.int .i64 0]) (by simp[results,Tryz.results115,go_sem]) rfl ⟨⟨6,⟨x.toArray⟩,0,rfl,by rw[show Pl.datP (bs t) = .ok (6,x) by unfold Pl.datP;rw[hX]];exact⟨rfl,bs_of x,rfl⟩⟩,g1⟩
 | bad c p =>
  rw[hX]at hp;have he:=hp;clear hp;subst he;have hc:=Pl.datRead_code' hX;go_wp2_with fail;exact bodyPost_ret (v := .tuple #[.int .u8 6,.string ⟨#[]⟩,.int .i64 c]) (by simp[results,Tryz.results115,go_sem]) rfl ⟨⟨6,⟨#[]⟩,c,rfl,by rw[show Pl.datP (bs t) = .bad c p by unfold Pl.datP;rw[hX]];exact⟨rfl,hc⟩⟩,g1⟩
theorem tv_plain_tok (t:ByteArray) (hs:t.size≤20000000) (ha:∀c∈bs t,c.toNat<128) (w:World) (hw:IntW w) :
    Calls Tryz.prog 115 #[.string t,.bool false] w fun e w'=>(∃(k:Nat) (x:ByteArray) (c:Nat),e = .returned (.tuple #[.int .u8 k,.string x,.int .i64 c])∧PlainO (Pl.plainS (bs t)) k x c)∧Gr w w':=by
 have HI:=Lib.hid (in_read t hs w hw);have HF:=Lib.hid (fun W (hW:IntW W)=>fl_Read t hs ha W hW);have HW:=Lib.hid hw;clear hw ha;by_cases h1:bs t=Pl.trueB
 · have d1:(t.toList==[116,114,117,101])=true:=by rw[Lib.toList_data];exact beq_iff_eq.2 h1
   have HX:Hid (Pl.plainS (bs t) = .ok (1,bs t)):=Lib.hid (by unfold Pl.plainS;rw[if_pos (.inl h1)]);clear h1;exact J120
 have d1:(t.toList==[116,114,117,101])=false:=by rw[Lib.toList_data];exact beq_eq_false_iff_ne.2 h1
 by_cases h2:bs t=Pl.falseB
 · have d2:(t.toList==[102,97,108,115,101])=true:=by rw[Lib.toList_data];exact beq_iff_eq.2 h2
   have HX:Hid (Pl.plainS (bs t) = .ok (1,bs t)):=Lib.hid (by unfold Pl.plainS;rw[if_pos (.inr h2)]);clear h1 h2;exact J120
 have d2:(t.toList==[102,97,108,115,101])=false:=by rw[Lib.toList_data];exact beq_eq_false_iff_ne.2 h2
 have HX:Hid (Pl.plainS (bs t)=match Pl.intRead (bs t) with
  | .ok x => .ok (4,x)
  | .bad c p=>if c=3 then (match Pl.fltRead (bs t) with
   | .ok x => .ok (5,x)
   | .bad c p => .bad c p) else .bad c p):=Lib.hid (by unfold Pl.plainS;rw[if_neg (by rintro (h|h);exact h1 h;exact h2 h)];rfl)
 clear h1 h2;go_enter Tryz.func115,Tryz.ntmps115;go_wp2_with fail;refine HI.out.mono ?_;rintro e w1 ⟨hp,g1⟩;unfold IntPost at hp;cases hX:Pl.intRead (bs t) with
 | ok x =>
  rw[hX]at hp HX;have he:=hp;clear hp;subst he;go_wp2_with fail;exact bodyPost_ret (v := .tuple #[.int .u8 4,.string ⟨x.toArray⟩,.int .i64 0]) (by simp[results,Tryz.results115,go_sem]) rfl ⟨⟨4,⟨x.toArray⟩,0,rfl,by rw[HX.out];exact⟨rfl,bs_of x,rfl⟩⟩,g1⟩
 | bad c p =>
  rw[hX]at hp HX;have he:=hp;clear hp;subst he;rcases Pl.intRead_code' hX with rfl|rfl
  · clear hX;go_wp2_with fail;refine (HF.out _ (HW.out.gr g1)).mono ?_;rintro e w2 ⟨hp,g2⟩;unfold IntPost at hp;cases hY:Pl.fltRead (bs t) with
    | ok x =>
     rw[hY]at hp HX;have he:=hp;clear hp;subst he;go_wp2_with fail;exact bodyPost_ret (v := .tuple #[.int .u8 5,.string ⟨x.toArray⟩,.int .i64 0]) (by simp[results,Tryz.results115,go_sem]) rfl ⟨⟨5,⟨x.toArray⟩,0,rfl,by rw[HX.out];exact⟨rfl,bs_of x,rfl⟩⟩,g1.trans g2⟩
    | bad c q =>
     rw[hY]at hp HX;have he:=hp;clear hp;subst he;have hc:=Pl.fltRead_code' hY;go_wp2_with fail;exact bodyPost_ret (v := .tuple #[.int .u8 5,.string ⟨#[]⟩,.int .i64 c]) (by simp[results,Tryz.results115,go_sem]) rfl ⟨⟨5,⟨#[]⟩,c,rfl,by rw[HX.out];exact⟨rfl,hc⟩⟩,g1.trans g2⟩
  go_wp2_with fail;exact bodyPost_ret (v := .tuple #[.int .u8 4,.string ⟨#[]⟩,.int .i64 8]) (by simp[results,Tryz.results115,go_sem]) rfl ⟨⟨4,⟨#[]⟩,8,rfl,by rw[HX.out];exact⟨rfl,by omega⟩⟩,g1⟩
end Go.Proofs.YtfogfaagjpebcaaGreatDoor
