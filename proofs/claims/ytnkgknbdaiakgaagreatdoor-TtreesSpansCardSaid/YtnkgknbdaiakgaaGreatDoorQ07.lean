/- The proof's part 07. -/
import Derived.Test.YtnkgknbdaiakgaaGreatDoorQ02
import Derived.Test.YtnkgknbdaiakgaaGreatDoorQ03
import Derived.Lib.SmallJoins
import Derived.Lib.OwnKind
set_option maxHeartbeats 16000000
set_option linter.all false
set_option maxRecDepth 100000
namespace Go.Proofs.YtnkgknbdaiakgaaGreatDoor
open Pl Go.Proofs.Tryz Go.RowKit
theorem Om4(g o n cap:Nat)(h:n<=cap)(hc:cap<=9223372036854775807)(w:World):Calls prog 247 #[.slice (some ⟨g,o,none⟩) n cap] w λ e w'=>e=.returned (.slice (some ⟨g,o,none⟩) n n)/\w'=w:=by
 go_enter func247,ntmps247;exact J8
theorem Oac(r:Int):0<(Lib.runeCells r).length:=by
 unfold Lib.runeCells Lib.encodeRuneZ;simp only[U1j];repeat' split
 all_goals simp
theorem Om5(b o c:Nat)(r:Nat)(hr:r<=1114111)(w:World)(hb:w.cell? ⟨b,o,none⟩=some (.int .i64 r)):Calls prog 246 #[.slice (some ⟨b,o,none⟩) 1 c] w λ e w'=>∃g cap,e=.returned (.slice (some ⟨g,0,none⟩) (Lib.runeCells r).length cap)/\w.heap.size<=g/\Gr w w' /\∀j u,(Lib.runeCells r)[j]?=some u->w'.cell? ⟨g,0+j,none⟩=some u:=by
 go_enter func246,ntmps246;go_wp2_with fail
 go_loopw [3,8] (λ v3 v8 wr=>(v8=.int .i64 0/\v3=.slice none 0 0/\wr=w)\/(v8=.int .i64 1/\Gr w wr/\wr.ownsRow w.heap.size 5 1 v3 (Lib.runeCells r).length (Lib.runeCells r)))
  (λ _ v8 _=>1-(intOf v8).toNat)
 case atStart=>exact .inl ⟨rfl,rfl,rfl⟩
 case round =>
  rcases hrel with⟨rfl,rfl,rfl⟩|⟨rfl,hg,ho⟩
  ·go_wp2_with fail;refine (utf8_AppendRune_plain wr.heap.size (.slice none 0 0) 0 [] r Ya Ya wr ⟨Yb,.inl ⟨rfl,rfl⟩⟩ Ya (U12 _)).mono ?_;rintro e w1 ⟨v',rfl,h1,o1,h2⟩;have hg:Gr wr w1:=by
    refine Below.mono (Below.trans (?_:Below wr wr (wr.alloc o1)) ⟨h2.os,h2.tape,h2.output,h2.size,?_⟩) (U12 _);exact Below.alloc (Below.refl _ _) (U12 _) _
    intro k hk;exact h2.block k Ye (by simp[Value.ownBlock])
   simp at h1
   go_wp2
   exact⟨.inr ⟨rfl,hg,h1⟩,by simp[intOf]⟩
  obtain⟨g,cap,rfl,h0,h1⟩:=Go.Joins.ownsRow_form ho (Oac _);have hn:(Lib.runeCells r).length<=cap/\cap<=9223372036854775807:=by
   rcases ho.2 with⟨h2,_⟩|⟨g2,c2,_,h2,_,_,h3,h4,_⟩
   cases h2
   cases h2;exact⟨h3,by simp[maxLen]at h4;omega⟩
  have aW:w.heap.size<=g/\g<wr.heap.size:=(World.ownsRowF_of ho).lt g rfl;have jr:=(World.ownsRowF_of ho).cells (g:=g) rfl;go_wp2_with fail;refine (Om4 g 0 _ cap hn.1 hn.2 wr).mono ?_;refine Z48 ?_
  go_wp2
  go_ret
  exact⟨g,_,rfl,aW.1,hg,λ j u hj=>by have h9:=jr j u hj;rcases j with _|j <;> simpa [Addr.add]using h9⟩
