/-
 The walks and plain laws that the claim rests on, part 11.
-/
import Derived.Test.YtkplelejagpkmaaGreatDoorP06
import Derived.Test.YtkplelejagpkmaaGreatDoorP07
import Derived.Maps.AppendAt
import Derived.Deep.AppendLies
import Derived.Lib.SmallJoins
import Derived.Deep.QuietTactic
import Derived.BigQuiet
set_option maxHeartbeats 16000000
set_option linter.all false
set_option linter.unusedVariables false
set_option linter.unusedSimpArgs false
namespace Go.Proofs.YtkplelejagpkmaaGreatDoor
open Go.RowKit Go.Joins
abbrev byteV (c:UInt8):Value := .int .u8 c.toNat
structure RdQ (w:World) (R:Nat) (s:ByteArray) (a:Nat) (q:UInt8) (out:List UInt8) (ov:Value):Prop where
 blk:w.heap[R]?=some (.cells #[.string s,.int .i64 a,byteV q,ov] 145 (0,0))
 own:w.ownsRow (R+1) 5 1 ov out.length (out.map byteV)
def FQ (R:Nat) (ov:Value) (k:Nat):Prop:=k=R∨ov.ownBlock=some k
theorem RdQ.lt {w R s a q out ov} (h:RdQ w R s a q out ov):R<w.heap.size:=by
 have:=h.blk;rw[Array.getElem?_eq_some_iff]at this;exact this.1
theorem RdQ.own_lt {w R s a q out ov} (h:RdQ w R s a q out ov) {k:Nat} (hk:FQ R ov k):R≤k∧k<w.heap.size:=by
 rcases hk with rfl|hk
 · exact⟨Nat.le_refl _,h.lt⟩
 have:=h.own.lt k hk;omega
theorem RdQ.cells {w R s a q out ov} (h:RdQ w R s a q out ov) :
    w.cell? ⟨R,0,none⟩=some (.string s)∧w.cell? ⟨R,1,none⟩=some (.int .i64 a)∧w.cell? ⟨R,2,none⟩=some (.int .u8 q.toNat)∧w.cell? ⟨R,3,none⟩=some ov∧(∀i,w.frozen? ⟨R,i,none⟩=false) :=
 ⟨by rw[cell_of_block h.blk];rfl,by rw[cell_of_block h.blk];rfl,by rw[cell_of_block h.blk];rfl,by rw[cell_of_block h.blk];rfl,fun i=>unfrozen_of_block h.blk i⟩
theorem RdQ.kept {w w' R s a q out ov} (h:RdQ w R s a q out ov) (hb:∀k,FQ R ov k→w'.heap[k]?=w.heap[k]?):RdQ w' R s a q out ov:=by
 refine⟨by rw[hb R (.inl rfl)];exact h.blk,h.own.1,?_⟩;rcases h.own.2 with hn|⟨g,cap,cur,rfl,hg,hh,r⟩
 · exact .inl hn
 exact .inr ⟨g,cap,cur,rfl,hg,by rw[hb g (.inr rfl)];exact hh,r⟩
theorem RdQ.gr {w w' R s a q out ov} (h:RdQ w R s a q out ov) (g:Gr w w'):RdQ w' R s a q out ov :=
 h.kept fun _ hk=>g.block (h.own_lt hk).2
theorem RdQ.alloc {w R s a q out ov} (h:RdQ w R s a q out ov) (o:Obj):RdQ (w.alloc o) R s a q out ov:=h.gr ((Gr.refl w).alloc o)
theorem RdQ.drew {w R s a q out ov} (h:RdQ w R s a q out ov):RdQ w.drew R s a q out ov:=h.gr (Gr.refl w).drew
theorem RdQ.drewN {w R s a q out ov} (h:RdQ w R s a q out ov) (n:Nat):RdQ (w.drewN n) R s a q out ov:=h.gr ((Gr.refl w).drewN n)
theorem RdQ.setCell {w R s a q out ov} (h:RdQ w R s a q out ov) {p:Addr} (hp:¬FQ R ov p.block) (v:Value):RdQ (w.setCell p v) R s a q out ov :=
 h.kept fun k hk=>Below.heap_setCell _ _ _ _ (fun e=>by subst e;exact hp hk)
theorem RdQ.setAt {w R s a q out ov} (h:RdQ w R s a q out ov) (b:Nat):RdQ (w.setCell ⟨R,1,none⟩ (.int .i64 b)) R s b q out ov:=by
 refine⟨?_,h.own.1,?_⟩
 · have:=block_setCell (i:=1) h.blk (.int .i64 b)
   simpa using this
 rcases h.own.2 with hn|⟨g,cap,cur,rfl,hg,hh,r⟩
 · exact .inl hn
 exact .inr ⟨g,cap,cur,rfl,hg,by rw[Below.heap_setCell _ _ _ _ (by simp;omega)];exact hh,r⟩
theorem news_one (w:World) (v:Value) (t:TypeId) (n:Nat) (hn:n=w.heap.size):∀j u,[v][j]?=some u→(w.alloc (.cells #[v] t)).cell? ⟨n,0+j,none⟩=some u:=by
 subst hn;intro j u hu;have:=cell_one_new w v t j u hu;rw[Addr.add_lit]at this;exact this
theorem info5:(Tryz.prog.info? 5).map (fun i=>(i.zero,i.size,i.bytes))=some (some (.int .u8 0),1,1):=by kernel_rfl
theorem tq_take (w:World) (R:Nat) (s:ByteArray) (a:Nat) (q:UInt8) (out:List UInt8) (ov:Value) (h:RdQ w R s a q out ov)
    (i:Int) (m:Nat) (hi:i=m) (ha:a+m≤30000000) (nb:List UInt8) (tb tof c:Nat) (hne:nb≠[]) (had:tb≠R)
    (hnews:∀j u,(nb.map byteV)[j]?=some u→w.cell? ⟨tb,tof+j,none⟩=some u) (hlen:out.length+nb.length≤30000000) :
    Calls Tryz.prog 217 #[.pointer (some ⟨R,0,none⟩),.int .i64 i,.slice (some ⟨tb,tof,none⟩) nb.length c] w fun e w' =>
     e = .returned (.tuple #[])∧∃ov',RdQ w' R s (a+m) q (out++nb) ov'∧St (FQ R ov) (FQ R ov') w w':=by
 subst hi;obtain⟨i0,hi,hz0,hz1,hz2⟩:=info_parts info5;obtain⟨c0,c1,c2,c3,fz⟩:=h.cells;have hlt:=h.lt;have fz1:=fz 1;have fz3:=fz 3;have HA:Hid (RdQ (w.setCell ⟨R,1,none⟩ (.int .i64 (a+m:Nat))) R s (a+m) q out ov):=h.setAt (a+m);have HI:=Lib.hid hi;have HZ:=Lib.hid hz0;have HZ1:=Lib.hid hz1;have HZ2:=Lib.hid hz2;have HN:Hid (∀j u,(nb.map byteV)[j]?=some u→(w.setCell ⟨R,1,none⟩ (.int .i64 (a+m:Nat))).cell? ((⟨tb,tof,none⟩:Addr).add j)=some u):=by
  intro j u hu;rw[Addr.add_lit,World.cell?_setCell_other _ _ _ _ (by intro e;exact had (congrArg Addr.block e).symm)];exact hnews j u hu
 have hpos:0<nb.length:=by cases nb with|nil=>exact absurd rfl hne|cons=>simp
 have HS:=Lib.hid h;clear fz hnews hi hz0 hz1 hz2 h;go_enter Tryz.func217,Tryz.ntmps217
 set_option maxRecDepth 100000 in
 go_wp2_with (at_builtin;refine wpList_append_lies _ rfl (.tmp 18) (.tmp 19) 23 rfl (R+1) 5 i0 (.int .u8 0) 1 1 Tryz.underlying23 HI.out HZ.out HZ1.out HZ2.out rfl (by decide) ov out.length (out.map byteV) rfl HA.out.own ⟨tb,tof,none⟩ nb.length c (nb.map byteV) rfl (by simp) HN.out (by simp[Value.oneCell']) hpos (by unfold maxLen;omega) (by omega) (by simp[World.setCell];omega) _ rfl ?_;intro g cap w1 hown1 hg1 hl1 hz1;have hr:=fun o=>World.cell?_of_block (w:=w.setCell ⟨R,1,none⟩ (.int .i64 (a+m:Nat))) (a:=⟨R,o,none⟩) (hg1.block R (by simp[World.setCell];exact hlt) (fun e=>by have:=HA.out.own.lt R e.symm;omega));have hfz:=fun o=>World.frozen?_of_block (w:=w.setCell ⟨R,1,none⟩ (.int .i64 (a+m:Nat))) (a:=⟨R,o,none⟩) (hg1.block R (by simp[World.setCell];exact hlt) (fun e=>by have:=HA.out.own.lt R e.symm;omega));have e3:w1.cell? ⟨R,3,none⟩=some ov:=(hr 3).trans HA.out.cells.2.2.2.1;have f3:w1.frozen? ⟨R,3,none⟩=false:=(hfz 3).trans (HA.out.cells.2.2.2.2 3);have H1:=Lib.hid (show _∧_∧_ from ⟨hown1,hg1,hl1⟩);clear hown1 hg1 hl1 hr hfz);obtain⟨hown1,hg1,hl1⟩:=H1.out;have hA:=HA.out;have hblk1:w1.heap[R]?=some (.cells #[.string s,.int .i64 (a+m:Nat),byteV q,ov] 145 (0,0)):=by
  rw[hg1.block R (by simp[World.setCell];exact hlt) (fun e=>by have:=hA.own.lt R e.symm;omega)];exact hA.blk
 go_end0
 refine⟨rfl,.slice (some ⟨g,0,none⟩) (out.length+nb.length) cap,⟨?_,?_⟩,?_⟩
 · have:=block_setCell (i:=3) hblk1 (.slice (some ⟨g,0,none⟩) (out.length+nb.length) cap)
   simpa using this
 · have:=ownsRow_setCell_below hown1 (a:=⟨R,3,none⟩) (Nat.lt_succ_self R) (.slice (some ⟨g,0,none⟩) (out.length+nb.length) cap)
   simpa using this
 have h1:St (FQ R ov) (FQ R ov) w (w.setCell ⟨R,1,none⟩ (.int .i64 (a+m:Nat))):=(St.refl _ _).setCell (.inl (.inl rfl)) _;have h2:=h1.grown hg1 (fun k hk => .inl (.inr hk));have h3:=h2.setCell (p:=⟨R,3,none⟩) (.inl (.inl rfl)) (.slice (some ⟨g,0,none⟩) (out.length+nb.length) cap);have e:(↑a + ↑m:Int)=((a+m:Nat):Int):=by omega
 refine St.to (by simpa [e]using h3) (fun k hk=>?_);rcases hk with rfl|hk
 · exact .inl (.inl rfl)
 simp only[Value.ownBlock,Option.some.injEq]at hk;subst hk;rcases hl1 with hl1|hl1
 · exact .inl (.inr hl1)
 exact .inr (by rw[hl1];simp[World.setCell])
theorem RdQ.auto {w w2:World} {R:Nat} {s:ByteArray} {a:Nat} {q:UInt8} {out:List UInt8} {ov:Value} (k:RdQ w R s a q out ov) (h:RdQ w R s a q out ov→RdQ w2 R s a q out ov:=by intro k;(repeat (first|exact k|refine RdQ.drew ?_|refine RdQ.drewN ?_ _|refine RdQ.alloc ?_ _|refine RdQ.setCell ?_ (by assumption) _|refine RdQ.gr ?_ (by assumption)))):RdQ w2 R s a q out ov:=h k
end Go.Proofs.YtkplelejagpkmaaGreatDoor
namespace Go.Proofs.YtkplelejagpkmaaGreatDoor
open Go.RowKit Go.Joins
def clipV:Value→Value
 | .slice a n _ => .slice a n n
 | v=>v
theorem clipV_block (v:Value):(clipV v).ownBlock=v.ownBlock:=by
 cases v <;> first|rfl|(rename_i a n c;cases a <;> rfl)
theorem clip_strs (g n cap:Nat) (h:n≤cap) (hc:cap≤9223372036854775807) (w:World):Calls Tryz.prog 20 #[.slice (some ⟨g,0,none⟩) n cap] w fun e w'=>e = .returned (.slice (some ⟨g,0,none⟩) n n)∧w=w':=by
 go_enter Tryz.func20,Tryz.ntmps20
 go_wp2
 go_ret
 exact⟨rfl,rfl⟩
theorem clip_strs0 (w:World):Calls Tryz.prog 20 #[.slice none 0 0] w fun e w'=>e = .returned (.slice none 0 0)∧w=w':=by
 go_enter Tryz.func20,Tryz.ntmps20
 go_wp2
 go_ret
 exact⟨rfl,rfl⟩
theorem clip_spans (g n cap:Nat) (h:n≤cap) (hc:cap≤9223372036854775807) (w:World):Calls Tryz.prog 21 #[.slice (some ⟨g,0,none⟩) n cap] w fun e w'=>e = .returned (.slice (some ⟨g,0,none⟩) n n)∧w=w':=by
 go_enter Tryz.func21,Tryz.ntmps21
 go_wp2
 go_ret
 exact⟨rfl,rfl⟩
theorem clip_spans0 (w:World):Calls Tryz.prog 21 #[.slice none 0 0] w fun e w'=>e = .returned (.slice none 0 0)∧w=w':=by
 go_enter Tryz.func21,Tryz.ntmps21
 go_wp2
 go_ret
 exact⟨rfl,rfl⟩
theorem clip_ints (g n cap:Nat) (h:n≤cap) (hc:cap≤9223372036854775807) (w:World):Calls Tryz.prog 22 #[.slice (some ⟨g,0,none⟩) n cap] w fun e w'=>e = .returned (.slice (some ⟨g,0,none⟩) n n)∧w=w':=by
 go_enter Tryz.func22,Tryz.ntmps22
 go_wp2
 go_ret
 exact⟨rfl,rfl⟩
theorem clip_ints0 (w:World):Calls Tryz.prog 22 #[.slice none 0 0] w fun e w'=>e = .returned (.slice none 0 0)∧w=w':=by
 go_enter Tryz.func22,Tryz.ntmps22
 go_wp2
 go_ret
 exact⟨rfl,rfl⟩
theorem clip_nodes (g n cap:Nat) (h:n≤cap) (hc:cap≤9223372036854775807) (w:World):Calls Tryz.prog 23 #[.slice (some ⟨g,0,none⟩) n cap] w fun e w'=>e = .returned (.slice (some ⟨g,0,none⟩) n n)∧w=w':=by
 go_enter Tryz.func23,Tryz.ntmps23
 go_wp2
 go_ret
 exact⟨rfl,rfl⟩
theorem own_form {w:World} {base e size n:Nat} {v:Value} {xs:List Value} (h:w.ownsRow base e size v n xs):(v = .slice none 0 0∧n=0)∨∃g cap,v = .slice (some ⟨g,0,none⟩) n cap∧n≤cap∧cap≤9223372036854775807:=by
 rcases h.2 with⟨h1,h2⟩|⟨g,cap,cur,h1,_,_,h2,h3,_⟩
 · exact .inl ⟨h1,h2⟩
 exact .inr ⟨g,cap,h1,h2,by simpa [maxLen]using h3⟩
theorem rowC_clip {w:World} {base e size n:Nat} {v:Value} {xs:List Value} (h:w.ownsRow base e size v n xs):RowC w base e size (clipV v) n xs:=by
 rcases own_form h with⟨rfl,h0⟩|⟨g,cap,rfl,_,_⟩
 · exact⟨_,h,rfl,.inl rfl⟩
 exact⟨_,h,rfl,.inr ⟨g,cap,rfl,rfl⟩⟩
theorem rowC_clip2 {w:World} {base e size n:Nat} {v:Value} {xs:List Value} (h:RowC w base e size v n xs):RowC w base e size (clipV v) n xs:=by
 obtain⟨v0,h1,h2,h3⟩:=h;rcases h3 with rfl|⟨g,c,rfl,rfl⟩
 · exact rowC_clip h1
 exact⟨_,h1,rfl,.inr ⟨g,c,rfl,rfl⟩⟩
theorem rowC_form {w:World} {base e size n:Nat} {v:Value} {xs:List Value} (h:RowC w base e size v n xs):(v = .slice none 0 0∧n=0)∨∃g cap,v = .slice (some ⟨g,0,none⟩) n cap∧n≤cap∧cap≤9223372036854775807:=by
 obtain⟨v0,h1,h2,h3⟩:=h;rcases own_form h1 with⟨rfl,h0⟩|⟨g,cap,rfl,q1,q2⟩
 · rcases h3 with rfl|⟨g,c,e1,_⟩
   · exact .inl ⟨rfl,h0⟩
   cases e1
 rcases h3 with rfl|⟨g',c,e1,rfl⟩
 · exact .inr ⟨g,cap,rfl,q1,q2⟩
 cases e1;exact .inr ⟨g,n,rfl,Nat.le_refl _,Nat.le_trans q1 q2⟩
section
variable {w0 W W':World} {base:Nat} {F:Nat→Prop} {kv sv uv:Value} {nk ns nu:Nat} {xk xs xu:List Value}
theorem Rows3.gr (h:Rows3 w0 W base F kv sv uv nk ns nu xk xs xu) (g:Gr W W'):Rows3 w0 W' base F kv sv uv nk ns nu xk xs xu :=
 ⟨h.st.gr g,ownsRow_of_block h.k fun k e=>g.block (h.k.lt k e).2,ownsRow_of_block h.s fun k e=>g.block (h.s.lt k e).2,ownsRow_of_block h.u fun k e=>g.block (h.u.lt k e).2,h.fk,h.fs,h.fu,h.ks,h.ku,h.su⟩
theorem NewB.gr {b:Nat} {cs:Array Value} {T:TypeId} (h:NewB W b cs T kv sv uv) (g:Gr W W'):NewB W' b cs T kv sv uv:=⟨(g.block h.lt).trans h.blk,h.k,h.s,h.u⟩
theorem Rows3.setCell (h:Rows3 w0 W base F kv sv uv nk ns nu xk xs xu) {b i:Nat} (hb:w0.heap.size≤b) (hk:kv.ownBlock≠some b) (hs:sv.ownBlock≠some b) (hu:uv.ownBlock≠some b) (x:Value):Rows3 w0 (W.setCell ⟨b,i,none⟩ x) base F kv sv uv nk ns nu xk xs xu :=
 ⟨h.st.setCell (.inr hb) x,ownsRow_setCell_ne h.k (fun k e e2=>hk (by rw[e,e2])) _,ownsRow_setCell_ne h.s (fun k e e2=>hs (by rw[e,e2])) _,ownsRow_setCell_ne h.u (fun k e e2=>hu (by rw[e,e2])) _,h.fk,h.fs,h.fu,h.ks,h.ku,h.su⟩
theorem NewB.setOther {b:Nat} {cs:Array Value} {T:TypeId} (h:NewB W b cs T kv sv uv) {p:Addr} (hp:p.block≠b) (x:Value):NewB (W.setCell p x) b cs T kv sv uv:=⟨by rw[Below.heap_setCell _ _ _ _ (Ne.symm hp)];exact h.blk,h.k,h.s,h.u⟩
theorem NewB.set {b i:Nat} {cs:Array Value} {T:TypeId} (h:NewB W b cs T kv sv uv) (x:Value):NewB (W.setCell ⟨b,i,none⟩ x) b (cs.setIfInBounds i x) T kv sv uv:=⟨block_setCell h.blk x,h.k,h.s,h.u⟩
theorem NewB.cell {b i:Nat} {cs:Array Value} {T:TypeId} (h:NewB W b cs T kv sv uv) {x:Value} (hx:cs[i]?=some x):W.cell? ⟨b,i,none⟩=some x∧W.frozen? ⟨b,i,none⟩=false :=
 ⟨by rw[cell_of_block h.blk];exact hx,unfrozen_of_block h.blk i⟩
end
end Go.Proofs.YtkplelejagpkmaaGreatDoor
namespace Go.Proofs.YtkplelejagpkmaaGreatDoor
open Go.RowKit Go.Joins
def StepPost (R:Nat) (s:ByteArray) (a:Nat) (q:UInt8) (out:List UInt8) (ov:Value) (w:World) (sr:Pl.SR) (e:Ending) (w':World):Prop :=
 match sr with
 | .go n t over=>e = .returned (.tuple #[.bool over,f0])∧∃ov',RdQ w' R s (a+n) q (out++t) ov'∧St (FQ R ov) (FQ R ov') w w'
 | .bad p=>e = .returned (.tuple #[.bool false,fv 3 (a+p)])∧∃F',St (FQ R ov) F' w w'
theorem tq_itself_no (w:World) (R:Nat) (s:ByteArray) (a:Nat) (q:UInt8) (out:List UInt8) (ov:Value) (h:RdQ w R s a q out ov)
    (hlt:a<s.size) (hs:s.size≤20000000) (hp:Pl.isPlain s[a]=false) :
    Calls Tryz.prog 216 #[.pointer (some ⟨R,0,none⟩)] w fun e w'=>e = .returned (.tuple #[.bool false,fv 3 a])∧Gr w w':=by
 obtain⟨c0,c1,c2,c3,fz⟩:=h.cells;have hR:=h.lt;have HP:=Lib.hid hp;clear fz h hp c3;go_enter Tryz.func216,Tryz.ntmps216;go_wp2_with fail
 go_quiet (fail)
 go_wp2_with (first|(go_at_call 46;refine (tq_plain _ _).mono ?_;rw[HP.out];rintro e w1 ⟨rfl,rfl⟩)|(go_at_call 74;refine (tq_wrong _ a rfl _).mono ?_;rintro e w1 ⟨rfl,g1⟩;obtain⟨hc1,hf1,hz1⟩:=g1.use));exact bodyPost_ret (v := .tuple #[.bool false,fv 3 a]) (by simp[results,Tryz.results216,go_sem,hc1]) rfl ⟨rfl,Gr.auto⟩
theorem tq_itself_yes (w:World) (R:Nat) (s:ByteArray) (a:Nat) (q:UInt8) (out:List UInt8) (ov:Value) (h:RdQ w R s a q out ov)
    (hlt:a<s.size) (hs:s.size≤20000000) (ho:out.length≤a) (hp:Pl.isPlain s[a]=true) :
    Calls Tryz.prog 216 #[.pointer (some ⟨R,0,none⟩)] w fun e w'=>e = .returned (.tuple #[.bool false,f0])∧∃ov',RdQ w' R s (a+1) q (out++[s[a]]) ov'∧St (FQ R ov) (FQ R ov') w w':=by
 obtain⟨c0,c1,c2,c3,fz⟩:=h.cells;have hR:=h.lt;have HP:=Lib.hid hp;have HS:=Lib.hid h;clear fz h hp c3;go_enter Tryz.func216,Tryz.ntmps216;go_wp2_with fail
 go_quiet (fail)
 go_wp2_with (first|(go_at_call 46;refine (tq_plain _ _).mono ?_;rw[HP.out];rintro e w1 ⟨rfl,rfl⟩));refine (tq_take _ R s a q out ov (RdQ.auto HS.out) 1 1 rfl (by omega) [s[a]] (w.heap.size+1) 0 1 (by simp) (by omega) (news_one _ _ _ _ (by simp)) (by simp;omega)).mono ?_;rintro e w1 ⟨rfl,ov',hr,hst⟩;have hb3:=hst.use w.heap.size (by simp;omega) (fun hF=>by have:=HS.out.own_lt hF;omega);have hz:=hst.size;simp at hz;obtain⟨hc1,hf1⟩:=hb3;have HR:=Lib.hid hr;have HT:=Lib.hid hst;clear hr hst;go_wp2_with fail;refine bodyPost_ret (v := .tuple #[.bool false,f0]) (by simp[results,Tryz.results216,go_sem,hc1]) rfl ⟨rfl,ov',?_,?_⟩
 · have hn3:¬FQ R ov' w.heap.size:=fun hF=>by
    rcases HT.out.own _ hF with hF|hF
    · have:=HS.out.own_lt hF;omega
    simp at hF;omega
   exact RdQ.auto HR.out
 have hst:=HT.out;exact St.auto
theorem tq_end_no (w:World) (R:Nat) (s:ByteArray) (a:Nat) (q:UInt8) (out:List UInt8) (ov:Value) (h:RdQ w R s a q out ov)
    (hlt:a<s.size) (hs:s.size≤20000000) (hp:((s[a]).toNat==q.toNat)=false) :
    Calls Tryz.prog 214 #[.pointer (some ⟨R,0,none⟩)] w fun e w'=>e = .returned (.bool false)∧Gr w w':=by
 obtain⟨c0,c1,c2,c3,fz⟩:=h.cells;have hR:=h.lt;obtain⟨b1,b2⟩:=beqs _ _ _ hp;clear fz h hp c3;go_enter Tryz.func214,Tryz.ntmps214;go_wp2_with fail
 go_quiet (fail)
 go_wp2_with fail
 go_ret
 exact⟨rfl,Gr.auto⟩
theorem tq_end_yes (w:World) (R:Nat) (s:ByteArray) (a:Nat) (q:UInt8) (out:List UInt8) (ov:Value) (h:RdQ w R s a q out ov)
    (hlt:a<s.size) (hs:s.size≤20000000) (hp:((s[a]).toNat==q.toNat)=true) :
    Calls Tryz.prog 214 #[.pointer (some ⟨R,0,none⟩)] w fun e w'=>e = .returned (.bool true)∧RdQ w' R s (a+1) q out ov∧St (FQ R ov) (FQ R ov) w w':=by
 obtain⟨c0,c1,c2,c3,fz⟩:=h.cells;have hR:=h.lt;obtain⟨b1,b2⟩:=beqs _ _ _ hp;have fz1:=fz 1;have HS:=Lib.hid h;have HP:=Lib.hid hp;clear fz h hp c3;go_enter Tryz.func214,Tryz.ntmps214;go_wp2_with fail
 go_quiet (fail)
 go_wp2_with fail
 go_ret
 have e:(↑a+1:Int)=((a+1:Nat):Int):=by omega
 rw[e];exact⟨rfl,by first|exact (HS.out.setAt (a+1)).drewN _|exact (HS.out.setAt (a+1)),by first|exact ((St.refl _ _).setCell (.inl (.inl rfl)) _).drewN _|exact ((St.refl _ _).setCell (.inl (.inl rfl)) _)⟩
theorem feed_at (s:ByteArray) (a:Nat) (hlt:a<s.size) :
    Pl.feed ((bs s).drop a)=if (s[a].toNat==10)=true then .ok 1 else if (s[a].toNat==13)=true then (if Pl.pre ((bs s).drop (a+1)) [10]=true then .ok 2 else .bad 3 1) else .ok 0:=by
 rw[idx_bs s a hlt];generalize (bs s).drop (a+1)=l;generalize s[a]=c;by_cases h10:c=10
 · subst h10;simp[Pl.feed]
 by_cases h13:c=13
 · subst h13;cases l with
   | nil=>simp[Pl.feed,Pl.pre]
   | cons b l =>
    by_cases hb:b=10
    · subst hb;simp[Pl.feed,Pl.pre]
    have:Pl.feed (13::b::l) = .bad 3 1:=by
     unfold Pl.feed;split <;> simp_all
    rw[this];simp[Pl.pre,hb]
 have:Pl.feed (c::l) = .ok 0:=by
  unfold Pl.feed;split <;> simp_all
 have e1:¬c.toNat=10:=fun e=>h10 (by rw[←UInt8.toNat_inj,e];rfl)
 have e2:¬c.toNat=13:=fun e=>h13 (by rw[←UInt8.toNat_inj,e];rfl)
 rw[this];simp[e1,e2]
theorem tq_feed (w:World) (R:Nat) (s:ByteArray) (a:Nat) (q:UInt8) (out:List UInt8) (ov:Value) (h:RdQ w R s a q out ov)
    (hlt:a<s.size) (hs:s.size≤20000000) :
    Calls Tryz.prog 77 #[.pointer (some ⟨R,0,none⟩)] w fun e w'=>(match Pl.feed ((bs s).drop a) with
     | .ok n=>e = .returned (.tuple #[.int .i64 n,f0])
     | .bad c p=>e = .returned (.tuple #[.int .i64 0,fv c (a+p)]))∧Gr w w':=by
 obtain⟨c0,c1,c2,c3,fz⟩:=h.cells;have hR:=h.lt;rw[feed_at s a hlt];have HS:=Lib.hid h;clear fz h c3;cases h10:(s[a].toNat==10)
 · obtain⟨b1,b2⟩:=beqs _ 10 _ h10;cases h13:(s[a].toNat==13)
   · obtain⟨b3,b4⟩:=beqs _ 13 _ h13;clear h10 h13;simp only[Bool.false_eq_true,if_false];go_enter Tryz.func77,Tryz.ntmps77;go_wp2_with fail
     go_quiet (fail)
     go_wp2_with fail
     go_quiet (fail)
     go_wp2_with fail;exact bodyPost_ret (v := .tuple #[.int .i64 0,f0]) (by simp[results,Tryz.results77,go_sem]) rfl ⟨rfl,Gr.auto⟩
   obtain⟨b3,b4⟩:=beqs _ 13 _ h13;clear h10 h13;cases hp:Pl.pre ((bs s).drop (a+1)) [10]
   · simp only[Bool.false_eq_true,if_false,if_true];have HP:=Lib.hid hp;clear hp;have hw:=IntWalk.i64_in ((a:Int)+1) (by omega);have hk1:(0:Int)≤(a:Int)+1:=by omega
     have hk2:(a:Int)+1≤(s.size:Int):=by omega
     have hk3:((a:Int)+1).toNat=a+1:=by omega
     go_enter Tryz.func77,Tryz.ntmps77;go_wp2_with fail
     go_quiet (fail)
     go_wp2_with fail
     go_quiet (fail)
     go_wp2_with fail
     go_quiet ((go_at_call 30;exact quiet_any2 (prefix_at s ⟨#[10]⟩ (a+1) false HP.out _) ⟨_,rfl⟩))
     clear hw hk1 hk2 hk3;go_wp2_with (go_at_call 74;refine (tq_wrong _ (a+1) (by omega) _).mono ?_;rintro e w1 ⟨rfl,g1⟩;obtain⟨hc1,hf1,hz1⟩:=g1.use);exact bodyPost_ret (v := .tuple #[.int .i64 0,fv 3 (a+1)]) (by simp[results,Tryz.results77,go_sem,hc1]) rfl ⟨rfl,Gr.auto⟩
   simp only[Bool.false_eq_true,if_false,if_true];have HP:=Lib.hid hp;clear hp;have hw:=IntWalk.i64_in ((a:Int)+1) (by omega);have hk1:(0:Int)≤(a:Int)+1:=by omega
   have hk2:(a:Int)+1≤(s.size:Int):=by omega
   have hk3:((a:Int)+1).toNat=a+1:=by omega
   go_enter Tryz.func77,Tryz.ntmps77;go_wp2_with fail
   go_quiet (fail)
   go_wp2_with fail
   go_quiet (fail)
   go_wp2_with fail
   go_quiet ((go_at_call 30;exact quiet_any2 (prefix_at s ⟨#[10]⟩ (a+1) true HP.out _) ⟨_,rfl⟩))
   clear hw hk1 hk2 hk3;go_wp2_with fail;exact bodyPost_ret (v := .tuple #[.int .i64 2,f0]) (by simp[results,Tryz.results77,go_sem]) rfl ⟨rfl,Gr.auto⟩
 obtain⟨b1,b2⟩:=beqs _ 10 _ h10;clear h10;simp only[if_true];go_enter Tryz.func77,Tryz.ntmps77;go_wp2_with fail
 go_quiet (fail)
 go_wp2_with fail;exact bodyPost_ret (v := .tuple #[.int .i64 1,f0]) (by simp[results,Tryz.results77,go_sem]) rfl ⟨rfl,Gr.auto⟩
end Go.Proofs.YtkplelejagpkmaaGreatDoor
