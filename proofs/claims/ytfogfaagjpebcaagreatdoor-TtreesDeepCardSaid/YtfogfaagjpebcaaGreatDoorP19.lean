/-
 The walks and plain laws that the claim rests on, part 19.
-/
import Derived.Test.YtfogfaagjpebcaaGreatDoorP00
import Derived.Test.YtfogfaagjpebcaaGreatDoorP13
import Derived.Test.YtfogfaagjpebcaaGreatDoorP14
set_option maxHeartbeats 16000000
set_option linter.all false
set_option linter.unusedVariables false
set_option linter.unusedSimpArgs false
namespace Go.Proofs.YtfogfaagjpebcaaGreatDoor
open Go.RowKit Go.Joins
namespace Pl
theorem takeN_cases (p:UInt8→Bool) (many:Nat) (l:Bs) (k:Nat) (hk:k≤takeN p many l) :
    (∃h:k<l.length,k<many∧p (l[k]'h)=true∧k+1≤takeN p many l) ∨
    (takeN p many l=k∧(¬k<l.length∨(k<l.length∧¬k<many)∨∃h:k<l.length,k<many∧p (l[k]'h)=false)):=by
 have hle:=takeWhile_length_le p l;unfold takeN at hk ⊢;by_cases h1:k<l.length
 · by_cases h2:k<many
   · have hs:∀(l:Bs) (k:Nat) (h:k<l.length),k≤(l.takeWhile p).length→(p (l[k]'h)=true∧k+1≤(l.takeWhile p).length)∨(p (l[k]'h)=false∧(l.takeWhile p).length=k):=by
      intro l
      induction l with
      | nil=>intro k h;simp at h
      | cons a l ih =>
       intro k h hk;rw[List.takeWhile_cons]at hk ⊢;cases k with
       | zero =>
        cases ha:p a with
        | true=>left;exact⟨ha,by simp⟩
        | false=>right;exact⟨ha,by simp⟩
       | succ k =>
        split at hk
        · rename_i ha
          rw[if_pos ha];rw[List.length_cons]at hk ⊢;rcases ih k (by simpa using h) (by omega) with⟨h3,h4⟩|⟨h3,h4⟩
          · exact .inl ⟨h3,by omega⟩
          exact .inr ⟨h3,by omega⟩
        simp at hk
     rcases hs l k h1 (by omega) with⟨h3,h4⟩|⟨h3,h4⟩
     · exact .inl ⟨h1,h2,h3,by omega⟩
     exact .inr ⟨by omega,.inr (.inr ⟨h1,h2,h3⟩)⟩
   exact .inr ⟨by omega,.inr (.inl ⟨h1,h2⟩)⟩
 exact .inr ⟨by omega,.inl h1⟩
theorem takeN_le (p:UInt8→Bool) (many:Nat) (l:Bs):takeN p many l≤l.length:=by
 have:=takeWhile_length_le p l;unfold takeN;omega
end Pl
theorem dc_take (set:ByteArray) (many:Nat) (s:ByteArray) (B:Nat) (w:World) (hc:w.cell? ⟨B,0,none⟩=some (.string s)) (hf:w.frozen? ⟨B,0,none⟩=false) (hs:s.size≤20000000) (hm:many≤20000000) (k:Nat) (hk:Pl.takeN (bs set).contains many (bs s)=k) :
    Calls Tryz.prog 203 #[.string set,.int .i64 many,.pointer (some ⟨B,0,none⟩)] w fun e w'=>e = .returned (.string (s.extract 0 k))∧w'=w.setCell ⟨B,0,none⟩ (.string (s.extract k s.size)):=by
 have HK:=Lib.hid hk;have hks:k≤s.size:=by rw[←hk,←bs_length];exact Pl.takeN_le _ _ _
 have hlt:=Lib.lt_of_cell hc;clear hk;go_enter Tryz.func203,Tryz.ntmps203;go_wp2_with fail
 go_loopw [6] (fun v wr=>∃j:Nat,v = .int .i64 j∧j≤k∧wr=w) (fun v _=>k-(intOf v).toNat)
 case atStart=>exact⟨0,by simp⟩
 case round =>
  obtain⟨j,rfl,hj,rfl⟩:=hrel;rcases Pl.takeN_cases (bs set).contains many (bs s) j (by rw[HK.out];exact hj) with⟨h1,h2,h3,h4⟩|⟨hk,hst⟩
  · have h1':j<s.size:=by rw[←bs_length];exact h1
    have H3:Hid ((bs set).contains (s[j]'h1')=true):=h3;rw[HK.out]at h4;clear h3 h1;have d1:decide ((j:Int)<(s.size:Int))=true:=by simp;omega
    have d2:decide ((j:Int)<(many:Int))=true:=by simp;omega
    refine Z287 ?_;intro d3;have d4:(j:Int)<(s.size:Int):=by omega
    go_wp2_with (go_at_call 43;refine (indexByte_at set _ _ H3.out _).mono ?_;rintro e w1 ⟨⟨i,rfl,hi⟩,rfl⟩;have hi2:decide (i ≥ 0)=true:=hi)
    go_roundw
    case rel=>exact⟨j+1,by go_num,by omega,by first|rfl|trivial⟩
    case measure=>simp[intOf];omega
  rw[HK.out]at hk;subst hk;have e0:(0:Int)≤(k:Int):=by omega
  have e1:(k:Int)≤(s.size:Int):=by omega
  rcases hst with h1|⟨h1,h2⟩|⟨h1,h2,h3⟩
  · rw[bs_length]at h1;have d1:decide ((k:Int)<(s.size:Int))=false:=by simp;omega
    exact J9
  · rw[bs_length]at h1;have d1:decide ((k:Int)<(s.size:Int))=true:=by simp;omega
    have d2:decide ((k:Int)<(many:Int))=false:=by simp;omega
    exact J9
  have h1':k<s.size:=by rw[←bs_length];exact h1
  have H3:Hid ((bs set).contains (s[k]'h1')=false):=h3;clear h3 h1;have d1:decide ((k:Int)<(s.size:Int))=true:=by simp;omega
  have d2:decide ((k:Int)<(many:Int))=true:=by simp;omega
  have d4:(k:Int)<(s.size:Int):=by omega
  go_wp2_with (go_at_call 43;refine (indexByte_at set _ _ H3.out _).mono ?_;rintro e w1 ⟨⟨i,rfl,hi⟩,rfl⟩;have hi2:decide (i ≥ 0)=false:=hi)
  go_ret
  exact⟨rfl,rfl⟩
theorem dc_over (s:ByteArray) (B:Nat) (w:World) (hc:w.cell? ⟨B,0,none⟩=some (.string s)) :
    Calls Tryz.prog 204 #[.pointer (some ⟨B,0,none⟩)] w fun e w'=>e = .returned (.bool s.toList.isEmpty)∧w'=w:=by
 go_enter Tryz.func204,Tryz.ntmps204;exact J9
theorem dc_taker (s:ByteArray) (w:World) :
    Calls Tryz.prog 189 #[.string s] w fun e w'=>e = .returned (.tuple #[.func (.func 203) #[] #[.pointer (some ⟨w.heap.size,0,none⟩)],.func (.func 204) #[] #[.pointer (some ⟨w.heap.size,0,none⟩)]])∧w'=w.alloc (.cells #[.string s] 9):=by
 go_enter Tryz.func189,Tryz.ntmps189;go_wp2_with fail
 go_ret2
 exact⟨rfl,rfl⟩
end Go.Proofs.YtfogfaagjpebcaaGreatDoor
namespace Go.Proofs.YtfogfaagjpebcaaGreatDoor
open Go.RowKit Go.Joins
structure DsW (b:Nat) (C:Array Value) (cur:ByteArray) (w:World):Prop where
 blk:w.heap[b]?=some (.cells C 240 (0,0))
 cu:w.heap[b+1]?=some (.cells #[.string cur] 9 (0,0))
theorem DsW.lt {b C cur w} (h:DsW b C cur w):b<w.heap.size∧b+1<w.heap.size:=⟨(Array.getElem?_eq_some_iff.1 h.blk).1,(Array.getElem?_eq_some_iff.1 h.cu).1⟩
theorem DsW.cell {b C cur w} (h:DsW b C cur w) (i:Nat):w.cell? ⟨b,i,none⟩=C[i]?:=cell_of_block h.blk i
theorem DsW.fz {b C cur w} (h:DsW b C cur w) (i:Nat):w.frozen? ⟨b,i,none⟩=false:=unfrozen_of_block h.blk i
theorem DsW.cs {b C cur w} (h:DsW b C cur w):w.cell? ⟨b+1,0,none⟩=some (.string cur):=by rw[cell_of_block h.cu];rfl
theorem DsW.cf {b C cur w} (h:DsW b C cur w):w.frozen? ⟨b+1,0,none⟩=false:=unfrozen_of_block h.cu 0
theorem DsW.set {b C cur w} (h:DsW b C cur w) (i:Nat) (v:Value):DsW b (C.setIfInBounds i v) cur (w.setCell ⟨b,i,none⟩ v) :=
 ⟨block_setCell h.blk v,(Below.heap_setCell _ _ _ _ (by simp)).trans h.cu⟩
theorem DsW.take {b C cur w} (h:DsW b C cur w) (s:ByteArray):DsW b C s (w.setCell ⟨b+1,0,none⟩ (.string s)) :=
 ⟨(Below.heap_setCell _ _ _ _ (by simp)).trans h.blk,by have:=block_setCell (i:=0) h.cu (.string s);simpa using this⟩
theorem DsW.new (w:World) (s:ByteArray):DsW w.heap.size #[.bool false,.string ⟨#[]⟩,.string ⟨#[]⟩,.string ⟨#[]⟩,.string ⟨#[]⟩,.bool false,.bool false] s ((w.alloc (.cells #[.bool false,.string ⟨#[]⟩,.string ⟨#[]⟩,.string ⟨#[]⟩,.string ⟨#[]⟩,.bool false,.bool false] 240)).alloc (.cells #[.string s] 9)):=by
 refine⟨?_,?_⟩
 · exact ((Gr.refl _).alloc _).block (by simp) |>.trans (heap_alloc_new w _)
 have:=heap_alloc_new (w.alloc (.cells #[.bool false,.string ⟨#[]⟩,.string ⟨#[]⟩,.string ⟨#[]⟩,.string ⟨#[]⟩,.bool false,.bool false] 240)) (.cells #[.string s] 9)
 simpa only [World.size_alloc]using this
theorem ds_take {b C cur W} (h:DsW b C cur W) (hs:cur.size≤20000000) (set:ByteArray) (many:Nat) (hm:many≤20000000) (k:Nat) (hk:Pl.takeN (bs set).contains many (bs cur)=k) :
    Calls Tryz.prog 203 #[.string set,.int .i64 many,.pointer (some ⟨b+1,0,none⟩)] W fun e W'=>e = .returned (.string (cur.extract 0 k))∧DsW b C (cur.extract k cur.size) W'∧(∀w,Gr w W→w.heap.size≤b→Gr w W')∧W'.heap.size=W.heap.size:=by
 refine (dc_take set many cur (b+1) W h.cs h.cf hs hm k hk).mono ?_;refine Z48 ?_;exact⟨rfl,h.take _,fun w g hw=>g.setCell (by simp;omega) _,by simp[World.setCell]⟩
end Go.Proofs.YtfogfaagjpebcaaGreatDoor
