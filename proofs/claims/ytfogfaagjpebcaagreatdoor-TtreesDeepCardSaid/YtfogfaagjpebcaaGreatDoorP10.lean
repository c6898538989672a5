/-
 The walks and plain laws that the claim rests on, part 10.
-/
import Derived.Test.YtfogfaagjpebcaaGreatDoorP00
import Derived.Test.YtfogfaagjpebcaaGreatDoorP05
set_option maxHeartbeats 16000000
set_option linter.all false
set_option linter.unusedVariables false
set_option linter.unusedSimpArgs false
namespace Go.Proofs.YtfogfaagjpebcaaGreatDoor
open Go.RowKit Go.Joins
def clipV:Value→Value
 | .slice a n _ => .slice a n n
 | v=>v
theorem clipV_block (v:Value):(clipV v).ownBlock=v.ownBlock:=by
 cases v <;> first|rfl|(rename_i a n c;cases a <;> rfl)
theorem clip_strs (g n cap:Nat) (h:n≤cap) (hc:cap≤9223372036854775807) (w:World):Calls Tryz.prog 28 #[.slice (some ⟨g,0,none⟩) n cap] w fun e w'=>e = .returned (.slice (some ⟨g,0,none⟩) n n)∧w=w':=by
 go_enter Tryz.func28,Tryz.ntmps28
 go_wp2
 go_ret
 exact⟨rfl,rfl⟩
theorem clip_strs0 (w:World):Calls Tryz.prog 28 #[.slice none 0 0] w fun e w'=>e = .returned (.slice none 0 0)∧w=w':=by
 go_enter Tryz.func28,Tryz.ntmps28
 go_wp2
 go_ret
 exact⟨rfl,rfl⟩
theorem clip_spans (g n cap:Nat) (h:n≤cap) (hc:cap≤9223372036854775807) (w:World):Calls Tryz.prog 29 #[.slice (some ⟨g,0,none⟩) n cap] w fun e w'=>e = .returned (.slice (some ⟨g,0,none⟩) n n)∧w=w':=by
 go_enter Tryz.func29,Tryz.ntmps29
 go_wp2
 go_ret
 exact⟨rfl,rfl⟩
theorem clip_spans0 (w:World):Calls Tryz.prog 29 #[.slice none 0 0] w fun e w'=>e = .returned (.slice none 0 0)∧w=w':=by
 go_enter Tryz.func29,Tryz.ntmps29
 go_wp2
 go_ret
 exact⟨rfl,rfl⟩
theorem clip_ints (g n cap:Nat) (h:n≤cap) (hc:cap≤9223372036854775807) (w:World):Calls Tryz.prog 24 #[.slice (some ⟨g,0,none⟩) n cap] w fun e w'=>e = .returned (.slice (some ⟨g,0,none⟩) n n)∧w=w':=by
 go_enter Tryz.func24,Tryz.ntmps24
 go_wp2
 go_ret
 exact⟨rfl,rfl⟩
theorem clip_ints0 (w:World):Calls Tryz.prog 24 #[.slice none 0 0] w fun e w'=>e = .returned (.slice none 0 0)∧w=w':=by
 go_enter Tryz.func24,Tryz.ntmps24
 go_wp2
 go_ret
 exact⟨rfl,rfl⟩
theorem clip_nodes (g n cap:Nat) (h:n≤cap) (hc:cap≤9223372036854775807) (w:World):Calls Tryz.prog 30 #[.slice (some ⟨g,0,none⟩) n cap] w fun e w'=>e = .returned (.slice (some ⟨g,0,none⟩) n n)∧w=w':=by
 go_enter Tryz.func30,Tryz.ntmps30
 go_wp2
 go_ret
 exact⟨rfl,rfl⟩
theorem own_form {w:World} {base e size n:Nat} {v:Value} {xs:List Value} (h:w.ownsRow base e size v n xs):(v = .slice none 0 0∧n=0)∨∃g cap,v = .slice (some ⟨g,0,none⟩) n cap∧n≤cap∧cap≤9223372036854775807:=by
 rcases h.2 with⟨h1,h2⟩|⟨g,cap,cur,h1,_,_,h2,h3,_⟩
 · exact .inl ⟨h1,h2⟩
 exact .inr ⟨g,cap,h1,h2,by simpa [maxLen]using h3⟩
theorem rowC_clip {w:World} {base e size n:Nat} {v:Value} {xs:List Value} (h:w.ownsRow base e size v n xs):RowC w base e size (clipV v) n xs:=by
 rcases own_form h with⟨rfl,h0⟩|⟨g,cap,rfl,_,_⟩
 · exact⟨_,h,rfl,.inl rfl⟩
 exact⟨_,h,rfl,.inr ⟨g,cap,rfl,rfl⟩⟩
theorem rowC_clip2 {w:World} {base e size n:Nat} {v:Value} {xs:List Value} (h:RowC w base e size v n xs):RowC w base e size (clipV v) n xs:=by
 obtain⟨v0,h1,h2,h3⟩:=h;rcases h3 with rfl|⟨g,c,rfl,rfl⟩
 · exact rowC_clip h1
 exact⟨_,h1,rfl,.inr ⟨g,c,rfl,rfl⟩⟩
theorem rowC_form {w:World} {base e size n:Nat} {v:Value} {xs:List Value} (h:RowC w base e size v n xs):(v = .slice none 0 0∧n=0)∨∃g cap,v = .slice (some ⟨g,0,none⟩) n cap∧n≤cap∧cap≤9223372036854775807:=by
 obtain⟨v0,h1,h2,h3⟩:=h;rcases own_form h1 with⟨rfl,h0⟩|⟨g,cap,rfl,q1,q2⟩
 · rcases h3 with rfl|⟨g,c,e1,_⟩
   · exact .inl ⟨rfl,h0⟩
   cases e1
 rcases h3 with rfl|⟨g',c,e1,rfl⟩
 · exact .inr ⟨g,cap,rfl,q1,q2⟩
 cases e1;exact .inr ⟨g,n,rfl,Nat.le_refl _,Nat.le_trans q1 q2⟩
section
variable {w0 W W':World} {base:Nat} {F:Nat→Prop} {kv sv uv:Value} {nk ns nu:Nat} {xk xs xu:List Value}
theorem Rows3.gr (h:Rows3 w0 W base F kv sv uv nk ns nu xk xs xu) (g:Gr W W'):Rows3 w0 W' base F kv sv uv nk ns nu xk xs xu :=
 ⟨h.st.gr g,ownsRow_of_block h.k fun k e=>g.block (h.k.lt k e).2,ownsRow_of_block h.s fun k e=>g.block (h.s.lt k e).2,ownsRow_of_block h.u fun k e=>g.block (h.u.lt k e).2,h.fk,h.fs,h.fu,h.ks,h.ku,h.su⟩
theorem NewB.gr {b:Nat} {cs:Array Value} {T:TypeId} (h:NewB W b cs T kv sv uv) (g:Gr W W'):NewB W' b cs T kv sv uv:=⟨(g.block h.lt).trans h.blk,h.k,h.s,h.u⟩
theorem Rows3.setCell (h:Rows3 w0 W base F kv sv uv nk ns nu xk xs xu) {b i:Nat} (hb:w0.heap.size≤b) (hk:kv.ownBlock≠some b) (hs:sv.ownBlock≠some b) (hu:uv.ownBlock≠some b) (x:Value):Rows3 w0 (W.setCell ⟨b,i,none⟩ x) base F kv sv uv nk ns nu xk xs xu :=
 ⟨h.st.setCell (.inr hb) x,ownsRow_setCell_ne h.k (fun k e e2=>hk (by rw[e,e2])) _,ownsRow_setCell_ne h.s (fun k e e2=>hs (by rw[e,e2])) _,ownsRow_setCell_ne h.u (fun k e e2=>hu (by rw[e,e2])) _,h.fk,h.fs,h.fu,h.ks,h.ku,h.su⟩
theorem NewB.setOther {b:Nat} {cs:Array Value} {T:TypeId} (h:NewB W b cs T kv sv uv) {p:Addr} (hp:p.block≠b) (x:Value):NewB (W.setCell p x) b cs T kv sv uv:=⟨by rw[Below.heap_setCell _ _ _ _ (Ne.symm hp)];exact h.blk,h.k,h.s,h.u⟩
theorem NewB.set {b i:Nat} {cs:Array Value} {T:TypeId} (h:NewB W b cs T kv sv uv) (x:Value):NewB (W.setCell ⟨b,i,none⟩ x) b (cs.setIfInBounds i x) T kv sv uv:=⟨block_setCell h.blk x,h.k,h.s,h.u⟩
theorem NewB.cell {b i:Nat} {cs:Array Value} {T:TypeId} (h:NewB W b cs T kv sv uv) {x:Value} (hx:cs[i]?=some x):W.cell? ⟨b,i,none⟩=some x∧W.frozen? ⟨b,i,none⟩=false :=
 ⟨by rw[cell_of_block h.blk];exact hx,unfrozen_of_block h.blk i⟩
end
end Go.Proofs.YtfogfaagjpebcaaGreatDoor
