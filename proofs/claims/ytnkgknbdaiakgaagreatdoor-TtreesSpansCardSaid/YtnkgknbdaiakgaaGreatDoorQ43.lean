/- The proof's part 43. -/
import Derived.Test.YtnkgknbdaiakgaaGreatDoorQ26
import Derived.Test.YtnkgknbdaiakgaaGreatDoorQ42
set_option maxHeartbeats 16000000
set_option linter.all false
namespace Go.Proofs.YtnkgknbdaiakgaaGreatDoor
section
open Pl Go.Proofs.Tryz Go.RowKit Go.Shelf Go.Joins
theorem Onv(w:World)(g o n:Nat)(l:Pl.Bs)(hl:l.length=n)(hc:∀i (h:i<l.length),w.cell? ⟨g,o+i,none⟩=some (.int .u8 l[i].toNat))(k c:Nat)(hk:k<=n)(W:World)(q:Gr w W):(convert 22 9 (.slice (some ⟨g,o,none⟩) k c)).run prog W=.ok (.string ⟨(l.take k).toArray⟩) W:=by
 refine Z71 ?_;intro e0;have aQ:∀i,i<k->W.cell? ⟨g,o+i,none⟩=some (.int .u8 (((l.take k).map λ x=>(x.toNat:Int)).getD i 0)):=by
  intro i hi;have dT:i<l.length:=Ya
  have h:=hc i dT;have:=(q.use.1 _ _ (Lib.lt_of_cell h)).trans h;rw[this];simp[List.getD,hi,U1e dT]
 rw[U4c W 22 5 underlying22 underlying5 g o k c ((l.take k).map λ x=>(x.toNat:Int)) (by rw[U1j,U26];omega) aQ 9 underlying9,e0]
theorem Old(PT:Lib.PrintTabs)(l:Pl.Bs)(h:l.length<=100060):(V5a PT l).length<=1000602:=by
 unfold V5a;rw[U1j];have h1:=Lib.quoteZ_length_le PT ⟨l.toArray⟩;have h2:(⟨l.toArray⟩:ByteArray).size=l.length:=rfl;omega
theorem V6m.at:∀{its:List Pl.It}{xs:List Value}(_:V6m xs its)(i:Nat)(it:Pl.It)(_:its[i]?=some it),xs[9*i]?=some (.int .u8 it.kind)/\xs[9*i+1]?=some (.int .i64 it.a)/\xs[9*i+2]?=some (.int .i64 it.b)/\xs[9*i+5]?=some (.int .i64 it.va)/\xs[9*i+6]?=some (.int .i64 it.vb)
 |[],xs,_,i,it,hi=>by simp at hi
 | i0::r,xs,h,i,it,hi=>by
  obtain⟨k,s,n,ys,rfl,hy⟩:=h;cases i with
  |zero =>
   simp only[U2a,U1f]at hi;subst hi;exact⟨rfl,rfl,rfl,rfl,rfl⟩
  |succ i =>
   simp only[List.getElem?_cons_succ]at hi;exact hy.at i it hi
end
section
open Pl Go.Proofs.Tryz Go.RowKit Go.Shelf Go.Joins
attribute [local go_sem] U22
structure V95(w:World)(a:Option Addr)(l:Pl.Bs):Prop where
 cell:∀(j:Nat) z,l[j]?=some z->∃b off,a=some ⟨b,off,none⟩/\b<w.heap.size/\w.cell? ⟨b,off+j,none⟩=some (.int .u8 z.toNat)
theorem V95.gr{w w':World}{a:Option Addr}{l:Pl.Bs}(h:V95 w a l)(g:Gr w w'):V95 w' a l :=
 ⟨λ j z hz=>by
  obtain⟨b,off,h1,h2,h3⟩:=h.cell j z hz;exact⟨b,off,h1,U13 h2 g.size,(g.use.1 _ _ h2).trans h3⟩⟩
theorem Oio(a:Option Addr)(c:Nat)(W:World):(convert 22 9 (.slice a 0 c)).run prog W=.ok (.string ⟨#[]⟩) W:=by
 rw[run_convert_bytes_string W 22 9 5 _ 0 c underlying22 underlying5 underlying9];cases a <;> simp[Conv.bytesToString,loadCells]
 all_goals rfl
theorem Oip{w:World}{a:Option Addr}{l:Pl.Bs}(h:V95 w a l)(k c:Nat)(hk:k<=l.length)(W:World)(q:Gr w W):(convert 22 9 (.slice a k c)).run prog W=.ok (.string ⟨(l.take k).toArray⟩) W:=by
 by_cases h0:k=0;subst h0;exact Oio a c W
 obtain⟨z,hz⟩:∃z,l[0]?=some z:=⟨_,U1e Ya⟩
 obtain⟨b,off,rfl,_,_⟩:=h.cell 0 z hz;refine Onv w b off l.length l rfl (λ i hi=>?_) k c hk W q;obtain⟨b',o',h1,_,h3⟩:=h.cell i l[i] (U1e hi);cases h1;exact h3
theorem Onw(s:ByteArray)(a b:Nat):bs (s.extract a b)=((bs s).drop a).take (b-a):=by
 simp only[bs,U36]
theorem O8k{w:World}{base e size n:Nat}{v:Value}{xs:List Value}(h:w.ownsRow base e size v n xs):∃(a:Option Addr)(c:Nat),O3 v=.slice a n c/\∀(j:Nat) u,xs[j]?=some u->∃g,a=some ⟨g,0,none⟩/\g<w.heap.size/\w.cell? ⟨g,j,none⟩=some u:=by
 rcases O17 h with⟨rfl,rfl⟩|⟨g,cap,rfl,h1,h2⟩
 refine⟨none,0,rfl,λ j u hu=>?_⟩;have:=h.1;rw[Nat.zero_mul,U3r]at this;rw[this]at hu;simp at hu
 refine⟨some ⟨g,0,none⟩,n,rfl,λ j u hu=>⟨g,rfl,(h.lt g rfl).2,by have:=h.cells (g:=g) rfl j u hu;by_cases hj:j=0 <;> simpa [Addr.add,hj]using this⟩⟩
end
