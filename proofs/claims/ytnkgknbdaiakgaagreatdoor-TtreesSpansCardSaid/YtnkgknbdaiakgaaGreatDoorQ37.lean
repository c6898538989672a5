/- The proof's part 37. -/
import Derived.Test.YtnkgknbdaiakgaaGreatDoorQ33
import Derived.Laws.AppendOwnNone
set_option maxHeartbeats 16000000
set_option linter.all false
namespace Go.Proofs.YtnkgknbdaiakgaaGreatDoor
open Pl Go.Proofs.Tryz Go.RowKit Go.Shelf Go.Joins
attribute [local go_sem] U22
theorem Okx:(prog.info? 4).map (λ i=>(i.zero,i.size,i.bytes))=some (some (.bool false),1,1):=Yc
theorem O1m{w:World}{base e size n:Nat}{v:Value}{xs:List Value}(h:V26 w base e size v n xs):∃a c,v=.slice a n c/\(a=none->n=0/\c=0)/\(∀q,a=some q->∃g,q=⟨g,0,none⟩/\v.ownBlock=some g):=by
 rcases Oo h with⟨rfl,h0⟩|⟨g,cap,rfl,_,_⟩
 exact⟨none,0,by rw[h0],λ _=>⟨h0,rfl⟩,λ q e=>(by cases e)⟩
 exact⟨_,_,rfl,λ e=>(by cases e),λ q e=>(by cases e;exact⟨g,rfl,rfl⟩)⟩
structure V4l(S N m:Nat)(sb:List Bool)(wr:World):Prop where
 len:sb.length=N
 cnt:(sb.filter λ b=>b).length=m
 blk:wr.heap[S]?=some (.cells (sb.map Value.bool).toArray 4 (0,0))
theorem V4l.le{S N m:Nat}{sb:List Bool}{wr:World}(h:V4l S N m sb wr):m<=N:=by
 rw[<-h.cnt,<-h.len];exact List.length_filter_le _ _
theorem V4l.lt{S N m:Nat}{sb:List Bool}{wr:World}(h:V4l S N m sb wr):S<wr.heap.size:=(U18.1 h.blk).1
theorem V4l.cell{S N m:Nat}{sb:List Bool}{wr:World}(h:V4l S N m sb wr){j:Nat}{b:Bool}(hb:sb[j]?=some b):wr.cell? ⟨S,j,none⟩=some (.bool b):=by
 rw[cell_of_block h.blk];simp[hb]
theorem V4l.free{S N m:Nat}{sb:List Bool}{wr:World}(h:V4l S N m sb wr)(j:Nat):wr.frozen? ⟨S,j,none⟩=false:=unfrozen_of_block h.blk j
theorem V4l.kept{S N m:Nat}{sb:List Bool}{wr w':World}(h:V4l S N m sb wr)(hb:w'.heap[S]?=wr.heap[S]?):V4l S N m sb w':=⟨h.len,h.cnt,hb.trans h.blk⟩
theorem O8b:∀(sb:List Bool)(j:Nat),sb[j]?=some false->((sb.set j true).filter λ b=>b).length=(sb.filter λ b=>b).length+1
 |[],j,h=>by simp at h
 | b::sb,0,h=>by
  simp at h;subst h;simp
 | b::sb,j+1,h=>by
  have:=O8b sb j (by simpa using h);rw[U38,List.filter_cons,List.filter_cons];cases b <;> simp[this]
theorem V4l.mark{S N m:Nat}{sb:List Bool}{wr:World}(h:V4l S N m sb wr){j:Nat}(hb:sb[j]?=some false):V4l S N (m+1) (sb.set j true) (wr.setCell ⟨S,j,none⟩ (.bool true)) :=
 ⟨by rw[U2c,h.len],by rw[O8b sb j hb,h.cnt],by
  rw[block_setCell h.blk];congr 2;simp[List.map_set]⟩
structure V5l(S n:Nat)(v:Value)(xs:List Int)(wr:World):Prop where
 len:xs.length=n
 row:wr.ownsRow (S+1) 3 1 v n (xs.map (.int .i64))
theorem V5l.pop{S k:Nat}{g c:Nat}{xs:List Int}{wr:World}(h:V5l S (k+1) (.slice g (k+1) c) xs wr):∃z,xs[k]?=some z/\wr.cell? ⟨g,k,none⟩=some (.int .i64 z)/\V5l S k (.slice g k c) (xs.take k) wr/\S+1<=g/\g<wr.heap.size:=by
 obtain⟨z,hz⟩:∃z,xs[k]?=some z:=⟨_,U1e (by have:=h.len;omega)⟩
 rcases h.row.2 with⟨h1,_⟩|⟨g',cap,cur,h1,h2,h3,h4,h5,h6,h7⟩
 cases h1
 simp only[U3h,U1f,Addr.mk.injEq]at h1;obtain⟨⟨rfl,_⟩,_,rfl⟩:=h1;have hk:cur[k]?=some (.int .i64 z):=by
  have h8:(cur.toList.take ((k+1)*1))[k]?=some (.int .i64 z):=by rw[h7,U1m,hz];rfl
  rw[List.getElem?_take,U1a Ya]at h8
  simpa using h8
 refine⟨z,hz,by rw[cell_of_block h3];simpa using hk,⟨by rw[U26];have:=h.len;omega,?_⟩,h2,(U18.1 h3).1⟩;refine⟨by rw[U1j,U26];have:=h.len;omega,.inr ⟨g,c,cur,rfl,h2,h3,Ya,h5,h6,?_⟩⟩;have h9:(cur.toList.take ((k+1)*1)).take (k*1)=(xs.map (.int .i64)).take (k*1):=by rw[h7]
 rw[List.take_take,show min (k*1) ((k+1)*1)=k*1 by omega]at h9;rw[h9,<-List.map_take,Nat.mul_one]
theorem V5l.kept{S n:Nat}{v:Value}{xs:List Int}{wr w':World}(h:V5l S n v xs wr)(hb:∀k,v.ownBlock=some k->w'.heap[k]?=wr.heap[k]?):V5l S n v xs w':=by
 refine⟨h.len,h.row.1,h.row.2.imp id λ ⟨g,cap,cur,h1,h2,h3,h4⟩=>⟨g,cap,cur,h1,h2,(hb g (by rw[h1];rfl)).trans h3,h4⟩⟩
