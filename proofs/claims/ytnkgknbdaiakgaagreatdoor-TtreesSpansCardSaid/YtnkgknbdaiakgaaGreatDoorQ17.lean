/- The proof's part 17. -/
import Derived.Test.YtnkgknbdaiakgaaGreatDoorQ11
set_option maxHeartbeats 16000000
set_option linter.all false
namespace Go.Proofs.YtnkgknbdaiakgaaGreatDoor
open Pl Go.Proofs.Tryz Go.RowKit Go.Joins
namespace Pl
theorem V70(p:UInt8->Bool)(many:Nat)(l:Bs)(k:Nat)(hk:k<=V42 p many l):(∃h:k<l.length,k<many/\p (l[k]'h)=true/\k+1<=V42 p many l) \/(V42 p many l=k/\(¬k<l.length\/(k<l.length/\¬k<many)\/∃h:k<l.length,k<many/\p (l[k]'h)=false)):=by
 have aP:=Vj p l;unfold V42 at hk⊢;by_cases h1:k<l.length
 ·by_cases h2:k<many
  ·have hs:∀(l:Bs)(k:Nat)(h:k<l.length),k<=(l.takeWhile p).length->(p (l[k]'h)=true/\k+1<=(l.takeWhile p).length)\/(p (l[k]'h)=false/\(l.takeWhile p).length=k):=by
    intro l
    induction l with
    |nil=>intro k h;simp at h
    |cons a l ih =>
     intro k h hk;rw[U1p]at hk⊢;cases k with
     |zero =>
      cases ha:p a with
      |true=>left;exact⟨ha,Yb⟩
      |false=>right;exact⟨ha,Yb⟩
     |succ k =>
      split at hk
      rename_i ha
      rw[U1a ha];rw[U1d]at hk⊢;rcases ih k (by simpa using h) Ya with⟨h3,h4⟩|⟨h3,h4⟩
      exact .inl ⟨h3,Ya⟩
      exact .inr ⟨h3,Ya⟩
      simp at hk
   rcases hs l k h1 Ya with⟨h3,h4⟩|⟨h3,h4⟩
   exact .inl ⟨h1,h2,h3,Ya⟩
   exact .inr ⟨Ya,.inr (.inr ⟨h1,h2,h3⟩)⟩
  exact .inr ⟨Ya,.inr (.inl ⟨h1,h2⟩)⟩
 exact .inr ⟨Ya,.inl h1⟩
theorem V71(p:UInt8->Bool)(many:Nat)(l:Bs):V42 p many l<=l.length:=by
 have:=Vj p l;unfold V42;omega
end Pl
theorem Olp(set:ByteArray)(many:Nat)(s:ByteArray)(B:Nat)(w:World)(hc:w.cell? B=some (.string s))(hf:w.frozen? B=false)(hs:s.size<=20000000)(hm:many<=20000000)(k:Nat)(hk:V42 (bs set).contains many (bs s)=k):Calls prog 214 #[.string set,many,.pointer (some ⟨B,0,none⟩)] w λ e w'=>e=.returned (.string (s.extract 0 k))/\w'=w.setCell B (.string (s.extract k s.size)):=by
 have HK:=U10 hk;have mz:k<=s.size:=by rw[<-hk,<-O0];exact V71 _ _ _
 have a9:=Lib.lt_of_cell hc;clear hk;go_enter func214,ntmps214;go_wp2_with fail
 go_loopw [6] (λ v wr=>∃j:Nat,v=.int .i64 j/\j<=k/\wr=w) (λ v _=>k-(intOf v).toNat)
 case atStart=>exact⟨0,Yb⟩
 case round =>
  obtain⟨j,rfl,hj,rfl⟩:=hrel;rcases V70 (bs set).contains many (bs s) j (by rw[HK.o];exact hj) with⟨h1,h2,h3,h4⟩|⟨hk,aa⟩
  ·have qd:j<s.size:=by rw[<-O0];exact h1
   have H3:Hid ((bs set).contains (s[j]'qd)=true):=h3;rw[HK.o]at h4;clear h3 h1;have d1:decide ((j:Int)<(s.size:Int))=true:=Ye;have d2:decide ((j:Int)<(many:Int))=true:=Ye;refine Z230 ?_;intro d3;have d4:(j:Int)<(s.size:Int):=Ya
   go_wp2_with (go_at_call 85;refine (O_s set _ _ H3.o _).mono ?_;rintro e w1 ⟨⟨i,rfl,hi⟩,rfl⟩;have fh:decide (i >= 0)=true:=hi)
   go_roundw
   case rel=>exact⟨j+1,by go_num,Ya,by first|rfl|trivial⟩
   case measure=>simp[intOf];omega
  rw[HK.o]at hk;subst hk;have e0:(0:Int)<=(k:Int):=Ya
  have e1:(k:Int)<=(s.size:Int):=Ya
  rcases aa with h1|⟨h1,h2⟩|⟨h1,h2,h3⟩
  rw[O0]at h1;have d1:decide ((k:Int)<(s.size:Int))=false:=Ye
  exact J13
  rw[O0]at h1;have d1:decide ((k:Int)<(s.size:Int))=true:=Ye
  have d2:decide ((k:Int)<(many:Int))=false:=Ye
  exact J13
  have qd:k<s.size:=by rw[<-O0];exact h1
  have H3:Hid ((bs set).contains (s[k]'qd)=false):=h3;clear h3 h1;have d1:decide ((k:Int)<(s.size:Int))=true:=Ye;have d2:decide ((k:Int)<(many:Int))=true:=Ye;have d4:(k:Int)<(s.size:Int):=Ya
  go_wp2_with (go_at_call 85;refine (O_s set _ _ H3.o _).mono ?_;rintro e w1 ⟨⟨i,rfl,hi⟩,rfl⟩;have fh:decide (i >= 0)=false:=hi)
  go_ret
  exact J7
theorem Olq(s:ByteArray)(B:Nat)(w:World)(hc:w.cell? B=some (.string s)):Calls prog 215 #[.pointer (some ⟨B,0,none⟩)] w λ e w'=>e=.returned (.bool s.toList.isEmpty)/\w'=w:=by
 go_enter func215,ntmps215;exact J13
theorem Oiv(s:ByteArray)(w:World):Calls prog 200 #[.string s] w λ e w'=>e=.returned (.tuple #[.func (.func 214) #[] #[.pointer (some ⟨w,0,none⟩)],.func (.func 215) #[] #[.pointer (some ⟨w,0,none⟩)]])/\w'=w.alloc (.cells #[.string s] 9):=by
 go_enter func200,ntmps200;go_wp2_with fail
 go_ret2
 exact J7
structure DsW(b:Nat)(C:Array Value)(cur:ByteArray)(w:World):Prop where
 blk:w.heap[b]?=some (.cells C 240 (0,0))
 cu:w.heap[b+1]?=some (.cells #[.string cur] 9 (0,0))
theorem DsW.lt{b C cur w}(h:DsW b C cur w):b<w.heap.size/\b+1<w.heap.size:=⟨(U18.1 h.blk).1,(U18.1 h.cu).1⟩
theorem DsW.cell{b C cur w}(h:DsW b C cur w)(i:Nat):w.cell? ⟨b,i,none⟩=C[i]?:=cell_of_block h.blk i
theorem DsW.fz{b C cur w}(h:DsW b C cur w)(i:Nat):w.frozen? ⟨b,i,none⟩=false:=unfrozen_of_block h.blk i
theorem DsW.cs{b C cur w}(h:DsW b C cur w):w.cell? (b+1:Nat)=some (.string cur):=by rw[cell_of_block h.cu];rfl
theorem DsW.cf{b C cur w}(h:DsW b C cur w):w.frozen? (b+1:Nat)=false:=unfrozen_of_block h.cu 0
theorem DsW.set{b C cur w}(h:DsW b C cur w)(i:Nat)(v:Value):DsW b (C.setIfInBounds i v) cur (w.setCell ⟨b,i,none⟩ v) :=
 ⟨block_setCell h.blk v,(U15 _ _ _ _ Yb).trans h.cu⟩
theorem DsW.take{b C cur w}(h:DsW b C cur w)(s:ByteArray):DsW b C s (w.setCell (b+1:Nat) (.string s)) :=
 ⟨(U15 _ _ _ _ Yb).trans h.blk,by have:=block_setCell (i:=0) h.cu (.string s);simpa using this⟩
theorem DsW.new(w:World)(s:ByteArray):DsW w.heap.size #[.bool false,.string ⟨#[]⟩,.string ⟨#[]⟩,.string ⟨#[]⟩,.string ⟨#[]⟩,.bool false,.bool false] s ((w.alloc (.cells #[.bool false,.string ⟨#[]⟩,.string ⟨#[]⟩,.string ⟨#[]⟩,.string ⟨#[]⟩,.bool false,.bool false] 240)).alloc (.cells #[.string s] 9)):=by
 refine⟨?_,?_⟩;exact ((Gr.refl _).alloc _).block Yb |>.trans (U1w w _)
 have:=U1w (w.alloc (.cells #[.bool false,.string ⟨#[]⟩,.string ⟨#[]⟩,.string ⟨#[]⟩,.string ⟨#[]⟩,.bool false,.bool false] 240)) (.cells #[.string s] 9)
 simpa only [U1s]using this
theorem On7{b C cur W}(h:DsW b C cur W)(hs:cur.size<=20000000)(set:ByteArray)(many:Nat)(hm:many<=20000000)(k:Nat)(hk:V42 (bs set).contains many (bs cur)=k):Calls prog 214 #[.string set,many,.pointer (some ⟨b+1,0,none⟩)] W λ e W'=>e=.returned (.string (cur.extract 0 k))/\DsW b C (cur.extract k cur.size) W'/\(∀w,Gr w W->w.heap.size<=b->Gr w W')/\W'.heap.size=W.heap.size:=by
 refine (Olp set many cur (b+1) W h.cs h.cf hs hm k hk).mono ?_;refine Z48 ?_;exact⟨rfl,h.take _,λ w g hw=>g.setCell Ye _,by simp[World.setCell]⟩
