/-
 The walks and plain laws that the claim rests on, part 16.
-/
import Derived.Test.YtdgjgcepbkanhaaGreatDoorM05
import Derived.LaidEql
import Derived.Stop.Asserts
import Derived.RowKitTokens
set_option maxHeartbeats 16000000
set_option linter.all false
set_option linter.unusedVariables false
set_option linter.unusedSimpArgs false
namespace Go.Proofs.YtdgjgcepbkanhaaGreatDoor
open Go.RowKit Go.Extern.Stop Go.Stop Go.Extern
theorem isTypeOf (v:Value) (w:World):(Extern.ReflectliteType.typeOf #[.iface 264 v]).run Tryz.prog w = .ok (.iface 241 (.agg #[.pointer (some ⟨11,264,none⟩)])) w:=by kernel_rfl
theorem isComparable (w:World):((Extern.ReflectliteType.method fun t=>do Go.Extern.Rtype.noPackHeld "Comparable" t;pure (.bool (←typeInfo t).comparable)) #[.agg #[.pointer (some ⟨11,264,none⟩)]]).run Tryz.prog w = .ok (.bool true) w:=by kernel_rfl
theorem isMethodComparable (v:Value) (w:World):(Go.method 410 241 v "Comparable").run Tryz.prog w = .ok (241,v) w:=by kernel_rfl
theorem isComp:(Tryz.prog.info? 264).map (·.comparable)=some true:=by kernel_rfl
theorem isSize:(Tryz.prog.info? 266).map (·.size)=some 1:=by kernel_rfl
theorem noIsW (v:Value) (xT:TypeId) (w:World):(Instr.typeAssert (.iface 237 v) xT 243 true).run Tryz.prog w = .ok (.tuple #[.nilIface,.bool false]) w:=run_typeAssert_lacksB Tryz.underlying243 (by kernel_rfl) (by kernel_rfl) v xT w
theorem hasUnwrapW (v:Value) (xT:TypeId) (w:World):(Instr.typeAssert (.iface 237 v) xT 246 true).run Tryz.prog w = .ok (.tuple #[.iface 237 v,.bool true]) w:=run_typeAssert_hasB Tryz.underlying246 (by kernel_rfl) v xT w
theorem methodUnwrap (v:Value) (w:World):(Go.method 410 237 v "Unwrap").run Tryz.prog w = .ok (237,v) w:=by kernel_rfl
set_option maxRecDepth 100000 in
theorem is_range (pb:Nat) (b:Addr) (w:World) (h1:w.cell? ⟨pb,2,none⟩=some (.iface 264 (.pointer (some b)))) :
    Calls Tryz.prog 127 #[.iface 237 (.pointer (some ⟨pb,0,none⟩)),.iface 264 (.pointer (some b))] w fun e w'=>e = .returned (.bool true)∧w'=w:=by
 obtain⟨i,hi,hcmp⟩:=Option.map_eq_some_iff.1 isComp;obtain⟨j,hj,hjs⟩:=Option.map_eq_some_iff.1 isSize;have h8 := @run_callFunc_extern Tryz.prog 152 _ Extern.ReflectliteType.typeOf Tryz.func152 (by kernel_rfl) (by kernel_rfl) (by kernel_rfl) (by kernel_rfl);have h32 := @run_callFunc_extern Tryz.prog 241 _ (Extern.ReflectliteType.method fun t=>do Go.Extern.Rtype.noPackHeld "Comparable" t;pure (.bool (←typeInfo t).comparable)) Tryz.func241 (by kernel_rfl) (by kernel_rfl) (by kernel_rfl) (by kernel_rfl);have tT:=isTypeOf;have hC:∀w,(callFunc 241 #[.agg #[.pointer (some ⟨11,264,none⟩)]]).run Tryz.prog w = .ok (.value (.bool true)) w:=fun w=>by rw[h32,isComparable];rfl
 clear h32;have mR:=isMethodComparable;have nW:=noIsW;have uW:=hasUnwrapW;have mU:=methodUnwrap;have heq:=run_eql_iface_ptr_same (P:=Tryz.prog) w b Tryz.underlying102 Tryz.underlying264 hi hcmp hj;have hty:=run_eql_iface_types (P:=Tryz.prog) 237 264 (.pointer (some ⟨pb,0,none⟩)) (.pointer (some b)) Tryz.underlying102 (by decide) w;go_enter Tryz.func127,Tryz.ntmps127
 go_wp2
 refine wp_loop_rounds 2 ?_;rw[rounds_succ]
 go_wp2
 rw[rounds_succ]
 go_wp2
 go_ret
 exact⟨rfl,rfl⟩
end Go.Proofs.YtdgjgcepbkanhaaGreatDoor
