/-
 The walks and plain laws that the claim rests on, part 16.
-/
import Derived.Test.YtkplelejagpkmaaGreatDoorP09
import Derived.Test.YtkplelejagpkmaaGreatDoorP10
set_option maxHeartbeats 16000000
set_option linter.all false
set_option linter.unusedVariables false
set_option linter.unusedSimpArgs false
namespace Go.Proofs.YtkplelejagpkmaaGreatDoor
open Go.RowKit
def EsV (w:World):Prop:=∃ev,w.cell? ⟨4,0,none⟩=some ev∧(ev = .nilIface∨∃te pe,ev = .iface te pe)
theorem EsV.gr {w w':World} (h:EsV w) (g:Gr w w'):EsV w':=by
 obtain⟨ev,h1,h2⟩:=h;exact⟨ev,(Below.cell g (p:=⟨4,0,none⟩) (Lib.lt_of_cell h1)).trans h1,h2⟩
theorem gr_bytesWorld (w:World) (T:TypeId) (s:ByteArray):Gr w (Lib.bytesWorld w T s):=Lib.bytesWorld_below _ _ _
namespace Pl
def isHex (c:UInt8):Bool:=decide (digV c.toNat<16)
def hexVal (l:List UInt8):Nat:=l.foldl (fun a c=>a*16+digV c.toNat) 0
theorem puM_hex (M:Nat) (l:List UInt8) (acc:Nat) (h:∀c∈l,isHex c=true) (hM:(acc+1)*16 ^ l.length≤M+1) :
    puM 16 M acc l = .ok (l.foldl (fun a c=>a*16+digV c.toNat) acc):=by
 induction l generalizing acc with
 | nil=>rfl
 | cons c l ih =>
  have hc:digV c.toNat<16:=by simpa [isHex]using h c (by simp)
  have hp:1≤16 ^ l.length:=Nat.pos_of_ne_zero (by simp);have h2:(acc*16+digV c.toNat+1)*16 ^ l.length≤M+1:=by
   refine Nat.le_trans ?_ hM;rw[List.length_cons,Nat.pow_succ,Nat.mul_comm (16 ^ l.length) 16,←Nat.mul_assoc];exact Nat.mul_le_mul_right _ (by omega)
  have h3:¬M<acc*16+digV c.toNat:=by
   have:=Nat.le_mul_of_pos_right (acc*16+digV c.toNat+1) hp;omega
  simp only[puM,hc,h3,if_true,if_false,List.foldl_cons];exact ih _ (fun d hd=>h d (List.mem_cons_of_mem _ hd)) h2
theorem puM_one (c:UInt8):puM 16 255 0 [c]=if isHex c then .ok (digV c.toNat) else Lib.NumEnd.syntax:=by
 by_cases h:digV c.toNat<16
 · have h3:¬ 255<digV c.toNat:=by omega
   simp[puM,isHex,h,h3]
 simp[puM,isHex,h]
theorem digV_lt {c:UInt8} (h:isHex c=true):digV c.toNat<16:=by simpa [isHex]using h
theorem foldHex_lt (l:List UInt8) (acc:Nat) (h:∀c∈l,isHex c=true):l.foldl (fun a c=>a*16+digV c.toNat) acc<(acc+1)*16 ^ l.length:=by
 induction l generalizing acc with
 | nil=>simp
 | cons c l ih =>
  have hc:=digV_lt (h c (by simp));simp only[List.foldl_cons];refine Nat.lt_of_lt_of_le (ih _ (fun d hd=>h d (List.mem_cons_of_mem _ hd))) ?_;rw[List.length_cons,Nat.pow_succ,Nat.mul_comm (16 ^ l.length) 16,←Nat.mul_assoc];exact Nat.mul_le_mul_right _ (by omega)
end Pl
set_option maxRecDepth 100000 in
theorem spu_one (t:ByteArray) (c:UInt8) (ht:bs t=[c]) (w:World) (hv:EsV w) :
    Calls Tryz.prog 221 #[.string t,.int .i64 16,.int .i64 8] w fun e w'=>Gr w w'∧∃n v,e = .returned (.tuple #[.int .u64 n,v])∧((Pl.isHex c=true→v = .nilIface)∧(Pl.isHex c=false→∃T p,v = .iface T (.pointer (some p)))):=by
 have hsz:t.size=1:=by rw[←bs_length,ht];rfl
 have hI:=pu_16_8 t (by omega) (by omega) w;rw[show t.data.toList=[c] from ht,Pl.puM_one]at hI;have hg:=gr_bytesWorld w 5 t;have hv1:=hv.gr hg;obtain⟨W1,hW1⟩:∃W1,W1=Lib.bytesWorld w 5 t:=⟨_,rfl⟩
 rw[←hW1]at hI hg hv1;clear hW1;by_cases hc:Pl.isHex c=true
 · rw[if_pos hc]at hI;have hI:Calls Tryz.prog 152 #[.string t,.int .i64 16,.int .i64 8] w fun e w'=>e = .returned (.tuple #[.int .u64 (Pl.digV c.toNat),.nilIface])∧w'=W1:=hI
   go_enter Tryz.func221,Tryz.ntmps221;go_wp2_with (refine hI.mono ?_;rintro e W1 ⟨rfl,rfl⟩)
   go_wp2
   go_ret2
   exact⟨hg,_,_,rfl,fun _=>rfl,fun e=>absurd (hc.symm.trans e) (by simp)⟩
 rw[if_neg hc]at hI;have hI:Calls Tryz.prog 152 #[.string t,.int .i64 16,.int .i64 8] w fun e w'=>e = .returned (.tuple #[.int .u64 0,.iface 214 (.int .i64 2)])∧w'=W1:=hI
 obtain⟨ev,hv2,hev⟩:=hv1;go_enter Tryz.func221,Tryz.ntmps221;go_wp2_with (refine hI.mono ?_);rintro e W1 ⟨rfl,rfl⟩;go_wp2_with (refine (Tryz.strconv_toError_syntax ⟨#[80,97,114,115,101,85,105,110,116]⟩ t 16 8 ev _ (by omega) hv2 hev).mono ?_);rintro e W2 ⟨N,rfl,h1,h2,h3⟩
 go_wp2
 go_ret2
 exact⟨Gr.trans hg h3,_,_,rfl,fun e=>absurd e hc,fun _=>⟨_,_,rfl⟩⟩
set_option maxRecDepth 100000 in
theorem spu_hex (t:ByteArray) (h0:t.size≠0) (h8:t.size≤8) (hh:∀c∈bs t,Pl.isHex c=true) (w:World) :
    Calls Tryz.prog 221 #[.string t,.int .i64 16,.int .i64 32] w fun e w'=>Gr w w'∧e = .returned (.tuple #[.int .u64 (Pl.hexVal (bs t)),.nilIface]):=by
 have hI:=pu_16_32 t h0 (by omega) w;rw[Pl.puM_hex _ _ _ hh (by
  have:16 ^ (bs t).length≤16 ^ 8:=Nat.pow_le_pow_right (by omega) (by rw[bs_length];exact h8);omega)]at hI
 have hg:=gr_bytesWorld w 5 t;obtain⟨W1,hW1⟩:∃W1,W1=Lib.bytesWorld w 5 t:=⟨_,rfl⟩
 rw[←hW1]at hI hg;clear hW1;have hI:Calls Tryz.prog 152 #[.string t,.int .i64 16,.int .i64 32] w fun e w'=>e = .returned (.tuple #[.int .u64 (Pl.hexVal (bs t)),.nilIface])∧w'=W1:=hI
 go_enter Tryz.func221,Tryz.ntmps221;go_wp2_with (refine hI.mono ?_;rintro e W1 ⟨rfl,rfl⟩)
 go_wp2
 go_ret2
 exact⟨hg,rfl⟩
end Go.Proofs.YtkplelejagpkmaaGreatDoor
