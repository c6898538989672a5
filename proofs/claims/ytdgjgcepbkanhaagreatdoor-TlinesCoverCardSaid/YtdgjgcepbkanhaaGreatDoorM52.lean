/-
 The walks and plain laws that the claim rests on, part 52.
-/
import Derived.Test.YtdgjgcepbkanhaaGreatDoorM35
set_option maxHeartbeats 16000000
set_option linter.all false
set_option linter.unusedVariables false
set_option linter.unusedSimpArgs false
namespace Go.Proofs.YtdgjgcepbkanhaaGreatDoor
open Go.ChangeShapes Go.WideShapes Go.ChangeAt Go.RowKit
set_option maxRecDepth 100000 in
theorem sh_cells {W:World} (hS:W.ShapedOpen Tryz.prog):∃m:Nat→Int,∀j,j<14→W.cell? ⟨0,j,none⟩=some (.int .u8 (m j))∧0≤m j∧m j≤255:=by
 obtain⟨cs,hh,hs,hr⟩:=hS.1 0 #[.int .u8 0,.int .u8 0,.int .u8 0,.int .u8 0,.int .u8 0,.int .u8 0,.int .u8 0,.int .u8 0,.int .u8 0,.int .u8 0,.int .u8 0,.int .u8 0,.int .u8 0,.int .u8 0] 109 (by decide +kernel) (by kernel_rfl);obtain⟨ts,hts,_,hall⟩:=hr (by kernel_rfl);have hc:Tryz.prog.cellTypes Tryz.prog.depth 109=some (List.replicate 14 5):=by kernel_rfl
 rw[hc]at hts;cases hts;have hsz:cs.size=14:=hs;have key:∀j,∃n:Int,j<14→W.cell? ⟨0,j,none⟩=some (.int .u8 n)∧0≤n∧n≤255:=fun j=>by
  by_cases hj:j<14
  · have h1:j<cs.size:=by omega
    obtain⟨u,hu',hok⟩:=hall j cs[j] (by simp[h1]);have:u=5:=by
     rw[List.getElem?_replicate,List.length_replicate,if_pos (by omega)]at hu';exact (Option.some.inj hu').symm
    subst this;have hcell:W.cell? ⟨0,j,none⟩=some cs[j]:=by simp[World.cell?,hh,h1]
    unfold Cell.ok at hok;rw[Tryz.underlying5]at hok;cases hv:cs[j] <;> rw[hv]at hok <;> simp at hok
    case int k' n =>
     obtain⟨rfl,h2⟩:=hok;refine⟨n,fun _=>⟨by rw[hcell,hv],?_⟩⟩;simp[IntKind.has,IntKind.min,IntKind.max,IntKind.signed,IntKind.bits]at h2;omega
  exact⟨0,fun h=>absurd h hj⟩
 obtain⟨m,hm⟩:=Classical.axiomOfChoice key;exact⟨m,fun j hj=>hm j hj⟩
theorem sh_any {W:World} (hS:W.ShapedOpen Tryz.prog):∃T,ShW T W:=by
 obtain⟨m,hm⟩:=sh_cells hS;refine⟨fun k=>(UInt8.ofNat (m (2*k)).toNat,UInt8.ofNat (m (2*k+1)).toNat),fun j v hj=>?_⟩;have key:∀i,i<14→byteV (UInt8.ofNat (m i).toNat) = .int .u8 (m i):=fun i hi=>by
  obtain⟨_,h1,h2⟩:=hm i hi;show Value.int .u8 ((UInt8.ofNat (m i).toNat).toNat:Int)=_;rw[UInt8.toNat_ofNat'];congr 1;omega
 match j,hj with
 | 0,hj=>simp[shC]at hj;rw[←hj,key 0 (by omega)];exact (hm 0 (by omega)).1
 | 1,hj=>simp[shC]at hj;rw[←hj,key 1 (by omega)];exact (hm 1 (by omega)).1
 | 2,hj=>simp[shC]at hj;rw[←hj,key 2 (by omega)];exact (hm 2 (by omega)).1
 | 3,hj=>simp[shC]at hj;rw[←hj,key 3 (by omega)];exact (hm 3 (by omega)).1
 | 4,hj=>simp[shC]at hj;rw[←hj,key 4 (by omega)];exact (hm 4 (by omega)).1
 | 5,hj=>simp[shC]at hj;rw[←hj,key 5 (by omega)];exact (hm 5 (by omega)).1
 | 6,hj=>simp[shC]at hj;rw[←hj,key 6 (by omega)];exact (hm 6 (by omega)).1
 | 7,hj=>simp[shC]at hj;rw[←hj,key 7 (by omega)];exact (hm 7 (by omega)).1
 | 8,hj=>simp[shC]at hj;rw[←hj,key 8 (by omega)];exact (hm 8 (by omega)).1
 | 9,hj=>simp[shC]at hj;rw[←hj,key 9 (by omega)];exact (hm 9 (by omega)).1
 | 10,hj=>simp[shC]at hj;rw[←hj,key 10 (by omega)];exact (hm 10 (by omega)).1
 | 11,hj=>simp[shC]at hj;rw[←hj,key 11 (by omega)];exact (hm 11 (by omega)).1
 | 12,hj=>simp[shC]at hj;rw[←hj,key 12 (by omega)];exact (hm 12 (by omega)).1
 | 13,hj=>simp[shC]at hj;rw[←hj,key 13 (by omega)];exact (hm 13 (by omega)).1
 | j+14,hj=>simp[shC]at hj
end Go.Proofs.YtdgjgcepbkanhaaGreatDoor
