/-
 The walks and plain laws that the claim rests on, part 49.
-/
import Derived.Test.YtkplelejagpkmaaGreatDoorM22
import Derived.Test.YtkplelejagpkmaaGreatDoorM36
import Derived.Test.YtkplelejagpkmaaGreatDoorM46
import Derived.Test.YtkplelejagpkmaaGreatDoorM48
import Derived.Laws.AppendOwnNone
import Derived.OwnWalkIn
import Derived.Deep.AppendLies
set_option maxHeartbeats 16000000
set_option linter.all false
set_option linter.unusedVariables false
set_option linter.unusedSimpArgs false
namespace Go.Proofs.YtkplelejagpkmaaGreatDoor
open Go.RowKit Go.Shelf Go.Joins
attribute [local go_sem] Oper.semAt_some
theorem infoItem:(Tryz.prog.info? 59).map (fun i=>(i.zero,i.size,i.bytes))=some (some itZ,9,120):=by kernel_rfl
theorem wpListIn_append_run {F:Fence} {n:Nat} {P:Program} {w w':World} {ops:Array Oper} {rest:List Oper} {o:Oper} {a:Act} {Q:Exit→Act→World→Prop} (hgd:o.guard=none) (s x:Operand) (t:TypeId)
    (ho:o.op = .call { callee := .builtin .append,args:=#[s,x],argTypes:=#[t,t] }) (v xv v':Value) (hs:a.eval s=v) (hx:a.eval x=xv) (hr:(Builtin.append_ #[t,t] o.type #[v,xv]).run P w = .ok v' w')
    (h:wpListIn F n P ops Q rest (a.put o.dst v') w'):wpListIn F n P ops Q (o::rest) a w:=by
 refine wpListIn_plain hgd fun K hK=>?_
 unfold Oper.wpIn;refine⟨by simp[Oper.about,ho,resolve,Target.leads,Sem.run_pure],?_⟩;rw[Oper.semAt_plain F _ _ (by rw[ho];intro c hc';cases hc')];simp[execOp,ho,resolve,invoke,builtin,hs,hx,hr,Result.andThen];exact hK _ _ h
theorem tl_each (s:ByteArray) (w:World) :
    Calls Tryz.prog 35 #[.string s] w fun e w'=>e = .returned (.func (.func 53) #[] #[.pointer (some ⟨w.heap.size,0,none⟩)])∧w'=w.alloc (.cells #[.string s] 9):=by
 go_enter Tryz.func35,Tryz.ntmps35;go_wp2_with fail;exact bodyPost_ret (v := .func (.func 53) #[] #[.pointer (some ⟨w.heap.size,0,none⟩)]) (by simp[results,Tryz.results35,go_sem]) rfl ⟨rfl,rfl⟩
def ydC (x:Yd):List Value:=match x.o with
 | .ok it=>[.int .u8 it.kind,.int .i64 it.a,.int .i64 it.b,x.kv,x.sv,.int .i64 it.va,.int .i64 it.vb,x.nv,.int .i64 it.root]
 | .bad _ _=>[]
def ydO (x:Yd):Obj:=match x.o with
 | .ok it=>itO it.kind it.a it.b x.kv x.sv it.va it.vb x.nv it.root
 | .bad _ _=>itZO
def ydFO (x:Yd):Obj:=match x.o with
 | .ok _ => .cells #[.int .i64 0,.int .i64 0] 31 (0,0)
 | .bad c p => .cells #[.int .i64 c,.int .i64 p] 31 (0,0)
theorem eachK_trans {w0:World} {B:Nat} (a b c:World) (h:EachK w0 B a b) (k:EachK w0 B b c):EachK w0 B a c:=⟨Below.trans h.1 k.1,k.2.trans h.2⟩
theorem eachK_put {w0 W:World} {B l:Nat} {o:Obj} (h1:w0.heap.size≤l) (h2:B≠l):EachK w0 B W (W.putObj l o) :=
 ⟨⟨rfl,rfl,rfl,by simp[World.putObj],fun k hk=>World.putObj_heap_other (by omega)⟩,World.putObj_heap_other h2⟩
theorem eachK_gr {w0 a b:World} {B:Nat} (g:Gr a b) (h:w0.heap.size≤a.heap.size) (hB:B<a.heap.size):EachK w0 B a b:=⟨Below.mono g h,g.block hB⟩
structure AllI (w:World) (B:Nat) (s:ByteArray) (ov:Value) (pre:List Yd) (W:World):Prop where
 fine:∀x∈pre,∃it,x.o = .ok it
 b2:W.heap[w.heap.size]?=some (.cells #[nilV] 53 (0,0))
 b3:W.heap[w.heap.size+1]?=some (.cells #[.int .i64 0,.int .i64 0] 31 (0,0))
 bB:W.heap[B]?=some (.cells #[.string s] 9 (0,0))
 box:W.heap[w.heap.size+2]?=some (.cells #[ov] 53 (0,0))
 row:W.ownsRow (B+1) 59 9 ov pre.length (pre.flatMap ydC)
 its:∀x∈pre,∀it,x.o = .ok it→∃lo hi,B<lo∧ItP W lo hi it x.kv x.sv x.nv∧∀g,ov.ownBlock=some g→g<lo∨hi≤g
 gr:Gr w W
theorem AllI.turn {w:World} {B:Nat} {s:ByteArray} {ov:Value} {pre:List Yd} {W W':World} (h:AllI w B s ov pre W) (hos:W'.os=W.os∧W'.tape=W.tape∧W'.output=W.output) (hz:W.heap.size≤W'.heap.size) (hlow:∀k,k<w.heap.size→W'.heap[k]?=W.heap[k]?)
    (hk:∀(k:Nat) (o:Obj),W.heap[k]?=some o→o.isCells=true→W'.heap[k]?=some o):AllI w B s ov pre W':=by
 refine⟨h.fine,hk _ _ h.b2 rfl,hk _ _ h.b3 rfl,hk _ _ h.bB rfl,hk _ _ h.box rfl,?_,fun x hx it ho=>?_,Below.trans h.gr ⟨hos.1,hos.2.1,hos.2.2,hz,hlow⟩⟩
 · obtain⟨q1,q2⟩:=h.row;exact⟨q1,q2.imp id fun ⟨g,cap,cur,x,y,z,r⟩=>⟨g,cap,cur,x,y,hk g _ z rfl,r⟩⟩
 obtain⟨lo,hi,p1,p2,p3⟩:=h.its x hx it ho;exact⟨lo,hi,p1,p2.kept hz (fun k o _ _ ho hc=>hk k o ho hc),p3⟩
theorem AllI.turns (w wR:World) (hw:w.heap.size≤wR.heap.size) (B:Nat) (s:ByteArray) (ov:Value):TurnsC (fun _=>False) wR.heap.size (AllI w B s ov):=by
 intro pre W W' row h hg hr;refine h.turn ⟨hg.os,hg.tape,hg.output⟩ hg.size (fun k hk=>hg.block k (Nat.lt_of_lt_of_le hk h.gr.size) (fun e=>?_)) (fun k o ho hc=>(hg.block k (Array.getElem?_eq_some_iff.1 ho).1 (fun e=>?_)).trans ho)
 · rcases hr k e.symm with h0|⟨h1,_⟩
   · exact h0
   omega
 rcases hr k e.symm with h0|⟨_,o',ho',hc'⟩
 · exact h0
 rw[ho]at ho';cases ho';rw[hc]at hc';cases hc'
theorem AllI.more {w W1 W w3 w8:World} {B:Nat} {s:ByteArray} {ov:Value} {pre:List Yd} (hB:B=w.heap.size+3) (h1:AllI w B s ov pre W1) (h:AllI w B s ov pre W) (h1W:W1.heap.size≤W.heap.size) (g3:Gr W w3) (O:Obj) (x:Yd) (it:Pl.It) (hx:x.o = .ok it) (hG:YdG pre x W1 W)
    {g cap:Nat} (h2:w8.ownsRow (B+1) 59 9 (.slice (some ⟨g,0,none⟩) (pre.length+1) cap) (pre.length+1) (pre.flatMap ydC++ydC x)) (h3:(w3.alloc O).grownBy w8 ov.ownBlock) (h4:ov.ownBlock=some g∨g=(w3.alloc O).heap.size) :
    AllI w B s (.slice (some ⟨g,0,none⟩) (pre.length+1) cap) (pre++[x]) (w8.setCell ⟨w.heap.size+1+1,0,none⟩ (.slice (some ⟨g,0,none⟩) (pre.length+1) cap))∧KeepsOthers W (w8.setCell ⟨w.heap.size+1+1,0,none⟩ (.slice (some ⟨g,0,none⟩) (pre.length+1) cap)) ∧
    EachK w B W (w8.setCell ⟨w.heap.size+1+1,0,none⟩ (.slice (some ⟨g,0,none⟩) (pre.length+1) cap))∧KeepN W1 W (w8.setCell ⟨w.heap.size+1+1,0,none⟩ (.slice (some ⟨g,0,none⟩) (pre.length+1) cap)) ∧
    w8.heap[w.heap.size+1+1]?=some (.cells #[ov] 53 (0,0)):=by
 have lt1:=h1.row.lt;have ltW:=h.row.lt;have gA:=g3.alloc O;have hbl:=(Array.getElem?_eq_some_iff.1 h.bB).1;have hbl1:=(Array.getElem?_eq_some_iff.1 h1.bB).1;have k8:∀k,k<W.heap.size→(∀g0,ov.ownBlock=some g0→k≠g0)→w8.heap[k]?=W.heap[k]?:=fun k hk hn=>(h3.block k (Nat.lt_of_lt_of_le hk gA.size) (fun e=>hn k e.symm rfl)).trans (gA.block hk)
 have b8:w8.heap[w.heap.size+1+1]?=some (.cells #[ov] 53 (0,0)):=(k8 _ (by omega) (fun g0 e=>by have:=ltW g0 e;omega)).trans h.box;have hgl:=h2.lt g rfl;have hgb:g≠w.heap.size+1+1:=by omega
 obtain⟨W',hW'⟩:∃W',w8.setCell ⟨w.heap.size+1+1,0,none⟩ (.slice (some ⟨g,0,none⟩) (pre.length+1) cap)=W':=⟨_,rfl⟩
 have ko:∀k,k≠w.heap.size+1+1→W'.heap[k]?=w8.heap[k]?:=fun k hk=>by rw[←hW'];exact Below.heap_setCell _ _ _ _ hk
 have hz':W'.heap.size=w8.heap.size:=by rw[←hW'];simp[World.setCell]
 have kk:∀k,k<W.heap.size→(∀g0,ov.ownBlock=some g0→k≠g0)→k≠w.heap.size+1+1→W'.heap[k]?=W.heap[k]?:=fun k a b c=>(ko k c).trans (k8 k a b)
 have hzz:W.heap.size≤W'.heap.size:=by rw[hz'];exact Nat.le_trans gA.size h3.size
 have hbox:W'.heap[w.heap.size+2]?=some (.cells #[.slice (some ⟨g,0,none⟩) (pre.length+1) cap] 53 (0,0)):=by rw[←hW',show w.heap.size+2=w.heap.size+1+1 from rfl,block_setCell b8];rfl
 have hbelow:Below w.heap.size W W':=by
  rw[←hW'];refine⟨h3.os.trans gA.os,h3.tape.trans gA.tape,h3.output.trans gA.output,by rw[hW'];exact hzz,fun k hk=>?_⟩;rw[hW'];have:=h.gr.size;exact kk k (by omega) (fun g0 e=>by have:=ltW g0 e;omega) (by omega)
 rw[hW'];refine⟨⟨fun y hy=>?_,?_,?_,?_,hbox,?_,fun y hy it' ho=>?_,Below.trans h.gr hbelow⟩,?_,⟨hbelow,kk B hbl (fun g0 e=>by have:=ltW g0 e;omega) (by omega)⟩,fun r hr1 hr2=>kk r hr2 (fun g0 e=>by have:=lt1 g0 e;omega) (by omega),b8⟩
 · rcases List.mem_append.1 hy with hy|hy
   · exact h.fine y hy
   rw[List.mem_singleton.1 hy];exact⟨it,hx⟩
 · exact (kk _ (by omega) (fun g0 e=>by have:=ltW g0 e;omega) (by omega)).trans h.b2
 · exact (kk _ (by omega) (fun g0 e=>by have:=ltW g0 e;omega) (by omega)).trans h.b3
 · exact (kk _ (by omega) (fun g0 e=>by have:=ltW g0 e;omega) (by omega)).trans h.bB
 · rw[List.flatMap_append,List.length_append,show [x].flatMap ydC=ydC x from by simp];exact ownsRow_of_block h2 fun k e=>ko k (by cases e;exact hgb)
 · have hnew:∀lo hi,hi≤W.heap.size→(∀g0,ov.ownBlock=some g0→g0<lo∨hi≤g0)→∀g1,(Value.slice (some ⟨g,0,none⟩) (pre.length+1) cap).ownBlock=some g1→g1<lo∨hi≤g1:=by
    intro lo hi hh hp g1 e;simp only[Value.ownBlock,Option.some.injEq]at e;subst e;rcases h4 with e|e
    · exact hp g e
    right;rw[e];have:=gA.size;omega
   rcases List.mem_append.1 hy with hy|hy
   · obtain⟨lo,hi,p1,p2,p3⟩:=h.its y hy it' ho;refine⟨lo,hi,p1,p2.kept hzz (fun k o q1 q2 q3 _=>?_),hnew lo hi p2.1 p3⟩;exact (kk k (Array.getElem?_eq_some_iff.1 q3).1 (fun g0 e=>by have:=p3 g0 e;omega) (by omega)).trans q3
   rw[List.mem_singleton.1 hy]at ho ⊢;rw[hx]at ho;cases ho;unfold YdG at hG;rw[hx]at hG;obtain⟨hi,p2⟩:=hG;refine⟨W1.heap.size,hi,by omega,p2.kept hzz (fun k o q1 q2 q3 _=>?_),hnew _ hi p2.1 (fun g0 e => .inl (lt1 g0 e).2)⟩;exact (kk k (Array.getElem?_eq_some_iff.1 q3).1 (fun g0 e=>by have:=lt1 g0 e;omega) (by omega)).trans q3
 rw[←hW'];refine ((KeepsOthers.of_gr gA).trans (KeepsOthers.of_grownBy h3 (fun k o e ho=>?_))).trans (KeepsOthers.setCell _ _ _);obtain⟨_,hq⟩:=h.row;rcases hq with⟨e1,_⟩|⟨g0,cap0,cur,e1,_,e3,_⟩
 · rw[e1]at e;cases e
 rw[e1]at e;cases e;rw[gA.block (ltW _ (by rw[e1];rfl)).2,e3]at ho;cases ho;rfl
def AllX (w:World) (pre:List Yd) (W:World):Prop:=∃(p0:List Yd) (x:Yd) (c p:Nat),pre=p0++[x]∧(∀y∈p0,∃it,y.o = .ok it)∧x.o = .bad c p∧c≠0∧W.heap[w.heap.size]?=some (.cells #[nilV] 53 (0,0))∧W.heap[w.heap.size+1]?=some (.cells #[.int .i64 c,.int .i64 p] 31 (0,0))∧Gr w W
theorem AllX.turns (w wR:World) (hw:w.heap.size+2≤wR.heap.size):TurnsC (fun _=>False) wR.heap.size (AllX w):=by
 intro pre W W' row h hg hr;obtain⟨p0,x,c,p,h1,h2,h3,h4,h5,h6,h7⟩:=h;have hk:∀(k:Nat) (o:Obj),W.heap[k]?=some o→k<wR.heap.size→W'.heap[k]?=some o:=fun k o ho hk=>(hg.block k (Array.getElem?_eq_some_iff.1 ho).1 (fun e=>by
  rcases hr k e.symm with h0|⟨h1,_⟩
  · exact h0
  omega)).trans ho
 refine⟨p0,x,c,p,h1,h2,h3,h4,hk _ _ h5 (by omega),hk _ _ h6 (by omega),Below.trans h7 ⟨hg.os,hg.tape,hg.output,hg.size,fun k hk'=>hg.block k (Nat.lt_of_lt_of_le hk' h7.size) (fun e=>?_)⟩⟩;rcases hr k e.symm with h0|⟨h1,_⟩
 · exact h0
 omega
namespace Pl
theorem seqF_len (E:Env) (s:Bs):∀f n,(seqF E s f n).length≤f:=by
 intro f
 induction f with
 | zero=>intro n;exact Nat.le_refl _
 | succ f ih =>
  intro n;unfold seqF
  split
  · split
    · simp
    · simp
    rename_i it _
    have:=ih it.b;simp only[List.length_cons];omega
  simp
theorem seq_all (E:Env) (hE:EnvOk E) (s:Bs) (hs:s.length≤20000000):∀(f n:Nat) (acc:List It),n≤s.length→s.length<n+f →
    (∀l:List It,seqF E s f n=l.map .ok→allF E s f n acc = .ok (acc++l))∧(∀(l:List It) (c p:Nat),seqF E s f n=l.map .ok++[.bad c p]→allF E s f n acc = .bad c p):=by
 intro f
 induction f with
 | zero=>intro n acc h1 h2;omega
 | succ f ih =>
  intro n acc hn hf;unfold seqF allF;by_cases hlt:n<s.length
  · rw[if_pos hlt,if_pos hlt];have hok:=itemS_ok hE s hs n hlt;cases hi:itemS E s n with
    | non=>exact absurd hi hok.1
    | bad c p =>
     refine⟨fun l h=>?_,fun l c' p' h=>?_⟩
     · cases l with
       | nil=>cases h
       | cons a l=>cases h
     cases l with
     | nil=>cases h;rfl
     | cons a l=>cases h
    | ok it =>
     have q:=hok.2.2 it hi;have q1:=q.lt;have q2:=q.le;obtain⟨i1,i2⟩:=ih it.b (acc++[it]) q2 (by omega);refine⟨fun l h=>?_,fun l c' p' h=>?_⟩
     · cases l with
       | nil=>cases h
       | cons a l =>
        rw[List.map_cons]at h;injection h with h1 h2;injection h1 with h1;subst h1;simp only;rw[i1 l h2];simp
     cases l with
     | nil=>cases h
     | cons a l =>
      rw[List.map_cons,List.cons_append]at h;injection h with h1 h2;exact i2 l c' p' h2
  rw[if_neg hlt,if_neg hlt];refine⟨fun l h=>?_,fun l c' p' h=>?_⟩
  · cases l with
    | nil=>simp
    | cons a l=>cases h
  cases l with
  | nil=>cases h
  | cons a l=>cases h
theorem seqF_bad (E:Env) (s:Bs):∀(f n:Nat) (l:List It) (c p:Nat) (suf:List (Out It)),seqF E s f n=l.map .ok ++ .bad c p::suf→suf=[]:=by
 intro f
 induction f with
 | zero=>intro n l c p suf h;cases l <;> cases h
 | succ f ih =>
  intro n l c p suf h;unfold seqF at h
  split at h
  · split at h
    · cases l <;> cases h
    · cases l with
      | nil=>cases h;rfl
      | cons a l=>cases h
    cases l with
    | nil=>cases h
    | cons a l =>
     rw[List.map_cons,List.cons_append]at h;injection h with h1 h2;exact ih _ l c p suf h2
  cases l <;> cases h
theorem seq_fault (E:Env) (hE:EnvOk E) (s:Bs) (hs:s.length≤20000000) (f n:Nat) (acc:List It) (hn:n≤s.length) (hf:s.length<n+f) (l:List It) (c p:Nat) (suf:List (Out It)) (h:seqF E s f n=l.map .ok ++ .bad c p::suf):allF E s f n acc = .bad c p:=by
 have:=seqF_bad E s f n l c p suf h;subst this;exact (seq_all E hE s hs f n acc hn hf).2 l c p h
end Pl
theorem clip_litI {w:World} {base e size n:Nat} {v:Value} {xs:List Value} (h:w.ownsRow base e size v n xs):∃a k,clipV v = .slice a k k:=by
 rcases own_form h with⟨rfl,_⟩|⟨g,cap,rfl,_,_⟩
 · exact⟨_,_,rfl⟩
 exact⟨_,_,rfl⟩
theorem fine_list:∀(xs:List Yd),(∀x∈xs,∃it,x.o = .ok it)→∃l:List Pl.It,xs.map (·.o)=l.map .ok
 | [],_=>⟨[],rfl⟩
 | x::xs,h=>by
  obtain⟨it,h1⟩:=h x (List.mem_cons_self ..);obtain⟨l,h2⟩:=fine_list xs (fun y hy=>h y (List.mem_cons_of_mem _ hy));exact⟨it::l,by rw[List.map_cons,List.map_cons,h1,h2]⟩
theorem clip_items (v:Value) {w:World} {base e size n:Nat} {xs:List Value} (h:w.ownsRow base e size v n xs) (W:World):Calls Tryz.prog 37 #[v] W fun e w'=>e = .returned (clipV v)∧W=w':=by
 rcases own_form h with⟨rfl,_⟩|⟨g,cap,rfl,h1,h2⟩
 · go_enter Tryz.func37,Tryz.ntmps37
   go_wp2
   go_ret
   exact⟨rfl,rfl⟩
 go_enter Tryz.func37,Tryz.ntmps37
 go_wp2
 go_ret
 exact⟨rfl,rfl⟩
theorem ydC_len (x:Yd) (h:∃it,x.o = .ok it):(ydC x).length=9:=by
 obtain⟨it,h⟩:=h;unfold ydC;rw[h];rfl
theorem fault_chain {w w3:World} {x0 x1 x2:Value} (m2:w3.heap[w.heap.size]?=some (.cells #[x0] 53 (0,0))) (m3:w3.heap[w.heap.size+1]?=some (.cells #[x1,x2] 31 (0,0))) (g:Gr w w3) (v c p:Value) :
    (((w3.setCell ⟨w.heap.size,0,none⟩ v).setCell ⟨w.heap.size+1,0,none⟩ c).setCell ⟨w.heap.size+1,1,none⟩ p).heap[w.heap.size]?=some (.cells #[v] 53 (0,0)) ∧
    (((w3.setCell ⟨w.heap.size,0,none⟩ v).setCell ⟨w.heap.size+1,0,none⟩ c).setCell ⟨w.heap.size+1,1,none⟩ p).heap[w.heap.size+1]?=some (.cells #[c,p] 31 (0,0)) ∧
    KeepsOthers w3 (((w3.setCell ⟨w.heap.size,0,none⟩ v).setCell ⟨w.heap.size+1,0,none⟩ c).setCell ⟨w.heap.size+1,1,none⟩ p)∧Gr w (((w3.setCell ⟨w.heap.size,0,none⟩ v).setCell ⟨w.heap.size+1,0,none⟩ c).setCell ⟨w.heap.size+1,1,none⟩ p) ∧
    (∀k,w.heap.size+1<k→(((w3.setCell ⟨w.heap.size,0,none⟩ v).setCell ⟨w.heap.size+1,0,none⟩ c).setCell ⟨w.heap.size+1,1,none⟩ p).heap[k]?=w3.heap[k]?):=by
 have h1:(w3.setCell ⟨w.heap.size,0,none⟩ v).heap[w.heap.size]?=some (.cells #[v] 53 (0,0)):=by rw[block_setCell m2];rfl
 have h2:(w3.setCell ⟨w.heap.size,0,none⟩ v).heap[w.heap.size+1]?=some (.cells #[x1,x2] 31 (0,0)):=by rw[Below.heap_setCell _ _ _ _ (by simp)];exact m3
 have h3:((w3.setCell ⟨w.heap.size,0,none⟩ v).setCell ⟨w.heap.size+1,0,none⟩ c).heap[w.heap.size+1]?=some (.cells #[c,x2] 31 (0,0)):=by rw[block_setCell h2];rfl
 refine⟨?_,?_,((KeepsOthers.setCell _ _ _).trans (KeepsOthers.setCell _ _ _)).trans (KeepsOthers.setCell _ _ _),((g.setCell (p:=⟨w.heap.size,0,none⟩) (Nat.le_refl _) _).setCell (p:=⟨w.heap.size+1,0,none⟩) (Nat.le_succ _) _).setCell (p:=⟨w.heap.size+1,1,none⟩) (Nat.le_succ _) _,fun k hk=>?_⟩
 · rw[Below.heap_setCell _ _ _ _ (by simp),Below.heap_setCell _ _ _ _ (by simp)];exact h1
 · rw[block_setCell h3];rfl
 rw[Below.heap_setCell _ _ _ _ (by simp;omega),Below.heap_setCell _ _ _ _ (by simp;omega),Below.heap_setCell _ _ _ _ (by simp;omega)]
def AllPost (s:ByteArray) (w:World) (X:Pl.Res (List Pl.It)) (e:Ending) (w':World):Prop:=match X with
 | .non=>True
 | .bad c p=>e = .returned (.tuple #[nilV,fv c p])∧c≠0∧Gr w w'
 | .ok l=>∃(v:Value) (xs:List Yd),e = .returned (.tuple #[v,f0])∧xs.map (·.o)=l.map .ok∧RowC w' w.heap.size 59 9 v xs.length (xs.flatMap ydC)∧(∀x∈xs,∀it,x.o = .ok it→ItM w' w.heap.size it x.kv x.sv x.nv)∧Gr w w'
set_option maxRecDepth 100000 in
theorem tl_All (T:Nat→UInt8 × UInt8) (s:ByteArray) (hs:s.size≤20000000) (w:World) (hQ:RW T w) (X:Pl.Res (List Pl.It)) (hX:Pl.allS ⟨Pl.strS T,Pl.scalS⟩ (bs s)=X) :
    Calls Tryz.prog 15 #[.string s] w (AllPost s w X):=by
 have HX:=Lib.hid hX;have HQ:=Lib.hid hQ;clear hX hQ;refine (callsIn_wide (n:=6)).1 ?_;refine callsIn_of_wp_marks Tryz.func15 rfl trivial ?_ rfl;simp only[Tryz.ntmps15,List.size_toArray,List.length_cons,List.length_nil,Nat.reduceAdd,Nat.reduceSub,Array.replicate_succ,Array.replicate_zero,List.push_toArray,List.append_toArray,List.nil_append,List.cons_append]
 gi_wp2_with (refine⟨trivial,?_⟩;gi_at_call 35;refine (callsIn_wide.2 (tl_each s _)).mono ?_;rintro e w' ⟨rfl,rfl⟩)
 obtain⟨W0,hW0⟩:∃W0,((((w.alloc (.cells #[nilV] 53)).alloc (.cells #[.int .i64 0,.int .i64 0] 31)).alloc (.cells #[nilV] 53)).alloc (.cells #[.string s] 9))=W0:=⟨_,rfl⟩
 have hsz:W0.heap.size=w.heap.size+1+1+1+1:=by rw[←hW0];simp only[World.size_alloc]
 have hG0:Gr w W0:=by rw[←hW0];exact ((((Gr.refl w).alloc _).alloc _).alloc _).alloc _
 have b1:W0.heap[w.heap.size]?=some (.cells #[nilV] 53 (0,0)):=by
  rw[←hW0];exact ((((Gr.refl (w.alloc _)).alloc _).alloc _).alloc _).block (by simp) |>.trans (heap_alloc_new w _)
 have b2:W0.heap[w.heap.size+1]?=some (.cells #[.int .i64 0,.int .i64 0] 31 (0,0)):=by
  rw[←hW0];refine (((Gr.refl ((w.alloc _).alloc _)).alloc _).alloc _).block (by simp) |>.trans ?_;have:=heap_alloc_new (w.alloc (.cells #[nilV] 53)) (.cells #[.int .i64 0,.int .i64 0] 31);simp only[World.size_alloc]at this;exact this
 have b3:W0.heap[w.heap.size+2]?=some (.cells #[nilV] 53 (0,0)):=by
  rw[←hW0];refine ((Gr.refl (((w.alloc _).alloc _).alloc _)).alloc _).block (by simp) |>.trans ?_;have:=heap_alloc_new ((w.alloc (.cells #[nilV] 53)).alloc (.cells #[.int .i64 0,.int .i64 0] 31)) (.cells #[nilV] 53);simp only[World.size_alloc]at this;exact this
 have b4:W0.heap[w.heap.size+3]?=some (.cells #[.string s] 9 (0,0)):=by
  rw[←hW0];have:=heap_alloc_new (((w.alloc (.cells #[nilV] 53)).alloc (.cells #[.int .i64 0,.int .i64 0] 31)).alloc (.cells #[nilV] 53)) (.cells #[.string s] 9);simp only[World.size_alloc]at this;exact this
 have hI0:AllI w (w.heap.size+3) s nilV [] W0:=⟨fun x hx=>(by cases hx),b1,b2,b4,b3,nilRow _ _ _ _,fun x hx=>(by cases hx),hG0⟩
 rw[hW0];clear hW0;refine range_ownK (C:=fun _=>False) (fun r h=>h.elim) (KR:=EachK w (w.heap.size+3)) eachK_trans (fun W l o o' hl ho _=>eachK_put (by omega) (by omega)) rfl (by omega) (gf:=53) (lb:=#[.pointer (some ⟨w.heap.size+3,0,none⟩)]) rfl trivial (enters_of Tryz.func53 (by kernel_rfl) rfl)
  (each_seq T 5 (by omega) s hs (w.heap.size+3) w W0 hG0 HQ.out b4) (fun pre x W0=>YdG.turns _ pre x W0) (fun _=>rfl)
  (fun pre W=>∃ov,AllI w (w.heap.size+3) s ov pre W) (fun c pre W=>c = .ret∧AllX w pre W) (fun pre A B row ⟨ov,h⟩ hg hr=>⟨ov,AllI.turns w W0 (by omega) _ s ov pre A B row h hg hr⟩) (fun c pre A B row h hg hr=>⟨h.1,AllX.turns w W0 (by omega) pre A B row h.2 hg hr⟩) ⟨_,hI0⟩
  (fun x W=>{ tmps:=#[.string s,undef,.pointer (some ⟨w.heap.size,0,none⟩),.pointer (some ⟨w.heap.size+1,0,none⟩),.pointer (some ⟨w.heap.size+1+1,0,none⟩),.pointer (some ⟨W.heap.size,0,none⟩),.pointer (some ⟨W.heap.size+1,0,none⟩),.string s,.func (.func 53) #[] #[.pointer (some ⟨w.heap.size+1+1+1,0,none⟩)],ydV x,ydF x,undef,undef,undef,undef,undef,undef,undef,undef,undef,undef,undef],defers:=[] })
  (fun x W=>(W.alloc (ydO x)).alloc (ydFO x)) (fun x W=>((Below.refl _ W).alloc (Nat.le_refl _) _).alloc (by simp) _) (fun x W hW=>eachK_gr (((Gr.refl W).alloc _).alloc _) (by omega) (by omega)) ?assign ?body ?done ?stop
 case assign =>
  rintro l ⟨o,⟨ka,kn,kc⟩,⟨sa,sn,sc⟩,⟨na,nn,nc⟩⟩ W K hK;cases o with
  | ok it =>
   dsimp only [ydEnc,ydV,ydF,ydO,ydFO]at hK ⊢
   gi_wp2
   exact hK
  | bad c p =>
   dsimp only [ydEnc,ydV,ydF,ydO,ydFO]at hK ⊢
   gi_wp2
   exact hK
 case body =>
  rintro l pre x W1 We W ⟨ov,hI1⟩ hse hbr1 hbr2 hsW hlen hG;have hIe:AllI w (w.heap.size+3) s ov pre We:=hbr1 _ (fun _=>AllI.turns w W0 (by omega) _ s ov pre) hI1;have hIf:AllI w (w.heap.size+3) s ov pre ((We.alloc (ydO x)).alloc (ydFO x)):=AllI.turns w W0 (by omega) _ s ov pre _ _ none hIe (grown_gr (((Gr.refl We).alloc _).alloc _)) (fun r e=>by cases e);have hI:AllI w (w.heap.size+3) s ov pre W:=hbr2 _ (fun _=>AllI.turns w W0 (by omega) _ s ov pre) hIf;have kp:∀(k:Nat) (o:Obj),((We.alloc (ydO x)).alloc (ydFO x)).heap[k]?=some o→o.isCells=true→W.heap[k]?=some o:=fun k o ho hc =>
   hbr2 (fun V=>V.heap[k]?=some o) (fun _ A B row h hg hr=>(hg.block k (Array.getElem?_eq_some_iff.1 h).1 (fun e=>by
    rcases hr k e.symm with h0|⟨_,o',ho',hc'⟩
    · exact h0
    rw[h]at ho';cases ho';rw[hc]at hc';cases hc')).trans h) ho
  have n0:((We.alloc (ydO x)).alloc (ydFO x)).heap[We.heap.size]?=some (ydO x):=(((Gr.refl _).alloc _).block (by simp)).trans (heap_alloc_new We _);have n1:((We.alloc (ydO x)).alloc (ydFO x)).heap[We.heap.size+1]?=some (ydFO x):=by
   have:=heap_alloc_new (We.alloc (ydO x)) (ydFO x)
   simpa using this
  have hwe:w.heap.size+4≤We.heap.size:=by have:=(Array.getElem?_eq_some_iff.1 hIe.bB).1;omega
  simp only[World.size_alloc]at hsW;obtain⟨o,⟨ka,kn,kc⟩,⟨sa,sn,sc⟩,⟨na,nn,nc⟩⟩:=x;cases o with
  | bad c p =>
   have q1:=kp _ _ n1 rfl;have hc:c≠0:=hG;have r0:W.cell? ⟨We.heap.size+1,0,none⟩=some (.int .i64 c):=by rw[cell_of_block q1];rfl
   have r1:W.cell? ⟨We.heap.size+1,1,none⟩=some (.int .i64 p):=by rw[cell_of_block q1];rfl
   have HI:=Lib.hid hI;clear kp n0 n1 q1 hbr1 hbr2 hI1 hIe hIf hG hI;dsimp only [ydV,ydF]
   gi_wp2_with fail
   refine⟨trivial,?_⟩
   gi_wp2_with fail
   refine (CallsIn.inRound l (callsIn_wide.2 (tl_fine_no c p (by omega) _))).mono ?_;rintro e w3 ⟨rfl,g3⟩;have p0:w3.cell? ⟨We.heap.size+1,0,none⟩=some (.int .i64 c):=(g3.use.1 _ _ (by omega)).trans r0;have p1:w3.cell? ⟨We.heap.size+1,1,none⟩=some (.int .i64 p):=(g3.use.1 _ _ (by omega)).trans r1;have m2:=(g3.block (by have:=(Array.getElem?_eq_some_iff.1 HI.out.b2).1;omega)).trans HI.out.b2;have m3:=(g3.block (by have:=(Array.getElem?_eq_some_iff.1 HI.out.b3).1;omega)).trans HI.out.b3;have c2:w3.cell? ⟨w.heap.size,0,none⟩=some nilV:=by rw[cell_of_block m2];rfl
   have c3:w3.cell? ⟨w.heap.size+1,0,none⟩=some (.int .i64 0):=by rw[cell_of_block m3];rfl
   have c4:w3.cell? ⟨w.heap.size+1,1,none⟩=some (.int .i64 0):=by rw[cell_of_block m3];rfl
   have f2:∀o,w3.frozen? ⟨w.heap.size,o,none⟩=false:=fun o=>unfrozen_of_block m2 o
   have f3:∀o,w3.frozen? ⟨w.heap.size+1,o,none⟩=false:=fun o=>unfrozen_of_block m3 o
   clear r0 r1
   gi_wp2_with fail
   obtain⟨x1,x2,x3,x4,_⟩:=fault_chain m2 m3 (HI.out.gr.trans g3) nilV (.int .i64 c) (.int .i64 p)
   gi_region
   all_goals gi_wp2_with fail
   all_goals exact⟨((KeepsOthers.of_gr g3).trans x3).trans (KeepsOthers.drew _),rfl,pre,_,c,p,rfl,HI.out.fine,rfl,hc,x1,x2,x4.drew⟩
  | ok it =>
   have q0:=kp _ _ n0 rfl;have q1:=kp _ _ n1 rfl;have r0:W.cell? ⟨We.heap.size+1,0,none⟩=some (.int .i64 0):=by rw[cell_of_block q1];rfl
   have r1:W.cell? ⟨We.heap.size+1,1,none⟩=some (.int .i64 0):=by rw[cell_of_block q1];rfl
   have HI:=Lib.hid hI;have HG:=Lib.hid hG;have HI1:=Lib.hid hI1;have hsW1:W1.heap.size≤W.heap.size:=by omega
   clear kp n0 n1 q1 hbr1 hbr2 hI1 hIe hIf hG hI;dsimp only [ydV,ydF]
   gi_wp2_with fail
   refine⟨trivial,?_⟩
   gi_wp2_with fail
   refine (CallsIn.inRound l (callsIn_wide.2 (tl_fine_yes _))).mono ?_;rintro e w3 ⟨rfl,g3⟩;have e1:=HI.out.box;have e2:=HI.out.row;have q0':=(g3.block (Array.getElem?_eq_some_iff.1 q0).1).trans q0;have s0:w3.cell? ⟨We.heap.size,0,none⟩=some (.int .u8 it.kind):=by rw[cell_of_block q0'];rfl
   have s1:w3.cell? ⟨We.heap.size,1,none⟩=some (.int .i64 it.a):=by rw[cell_of_block q0'];rfl
   have s2:w3.cell? ⟨We.heap.size,2,none⟩=some (.int .i64 it.b):=by rw[cell_of_block q0'];rfl
   have s3:w3.cell? ⟨We.heap.size,3,none⟩=some (.slice ka kn kc):=by rw[cell_of_block q0'];rfl
   have s4:w3.cell? ⟨We.heap.size,4,none⟩=some (.slice sa sn sc):=by rw[cell_of_block q0'];rfl
   have s5:w3.cell? ⟨We.heap.size,5,none⟩=some (.int .i64 it.va):=by rw[cell_of_block q0'];rfl
   have s6:w3.cell? ⟨We.heap.size,6,none⟩=some (.int .i64 it.vb):=by rw[cell_of_block q0'];rfl
   have s7:w3.cell? ⟨We.heap.size,7,none⟩=some (.slice na nn nc):=by rw[cell_of_block q0'];rfl
   have s8:w3.cell? ⟨We.heap.size,8,none⟩=some (.int .i64 it.root):=by rw[cell_of_block q0'];rfl
   have e1':=(g3.block (Array.getElem?_eq_some_iff.1 e1).1).trans e1;have co:w3.cell? ⟨w.heap.size+1+1,0,none⟩=some ov:=by rw[cell_of_block e1'];rfl
   have hln:=Pl.seqF_len ⟨Pl.strS T,Pl.scalS⟩ (bs s) ((bs s).length+1) 0;have hlen2:pre.length≤s.size+1:=by have:=bs_length s;unfold Pl.seqS at hlen;omega
   obtain⟨iI,hiI⟩:=info_parts infoItem;obtain⟨g,cap,w8,hr,h2,h3,h4,h5⟩:=run_append_lies (P:=Tryz.prog) (w3.alloc (itO it.kind it.a it.b (.slice ka kn kc) (.slice sa sn sc) it.va it.vb (.slice na nn nc) it.root)) 53 53 (w.heap.size+3+1) 59 iI itZ 9 120 Tryz.underlying53 hiI.1 hiI.2.1 hiI.2.2.1 hiI.2.2.2 (by rfl) (by decide)
    ov pre.length (pre.flatMap ydC) (ownsRow_of_block e2 fun k e=>((g3.alloc _).block (e2.lt k e).2)) ⟨w3.heap.size,0,none⟩ 1 1 (ydC ⟨.ok it,⟨ka,kn,kc⟩,⟨sa,sn,sc⟩,⟨na,nn,nc⟩⟩) (by rfl) (World.news_of_block (heap_alloc_new w3 _)) (by simp[ydC,Value.oneCell']) (by decide) (by unfold maxLen;omega) (by omega) (by have:=g3.size;simp;omega) _ rfl
   have HIN:=Lib.hid (AllI.more rfl HI1.out HI.out hsW1 g3 _ ⟨.ok it,⟨ka,kn,kc⟩,⟨sa,sn,sc⟩,⟨na,nn,nc⟩⟩ it rfl HG.out h2 h3 h4);have f4:w8.frozen? ⟨w.heap.size+1+1,0,none⟩=false:=unfrozen_of_block HIN.out.2.2.2.2 0;have d4:w8.cell? ⟨w.heap.size+1+1,0,none⟩=some ov:=by rw[cell_of_block HIN.out.2.2.2.2];rfl
   clear h2 h3 h4 h5 e1 e2 e1' q0 q0' hln hiI
   gi_wp2_with (gi_at_builtin;refine wpListIn_append_run rfl (.tmp 15) (.tmp 17) 53 rfl _ _ _ rfl rfl hr ?_)
   exact⟨HIN.out.2.1,⟨HIN.out.2.2.1,HIN.out.2.2.2.1⟩,_,HIN.out.1⟩
 case done =>
  rintro D xs W hD hxs ⟨ov,hI⟩ hK;obtain⟨ll,hl⟩:=fine_list xs hI.fine;have hall:X = .ok ll:=by
   rw[←HX.out];exact (Pl.seq_all _ (Pl.envT_ok T) (bs s) (by rw[bs_length];exact hs) ((bs s).length+1) 0 [] (by omega) (by omega)).1 ll (by rw[←hl];exact hxs.symm)
  subst hall;have co:W.cell? ⟨w.heap.size+1+1,0,none⟩=some ov:=by rw[cell_of_block hI.box];rfl
  have c2:W.cell? ⟨w.heap.size,0,none⟩=some nilV:=by rw[cell_of_block hI.b2];rfl
  have c3:W.cell? ⟨w.heap.size+1,0,none⟩=some (.int .i64 0):=by rw[cell_of_block hI.b3];rfl
  have c4:W.cell? ⟨w.heap.size+1,1,none⟩=some (.int .i64 0):=by rw[cell_of_block hI.b3];rfl
  have f2:∀o,W.frozen? ⟨w.heap.size,o,none⟩=false:=fun o=>unfrozen_of_block hI.b2 o
  have f3:∀o,W.frozen? ⟨w.heap.size+1,o,none⟩=false:=fun o=>unfrozen_of_block hI.b3 o
  obtain⟨a,k,hcv⟩:=clip_litI hI.row;have HC:=Lib.hid (clip_items ov hI.row);rw[hcv]at HC;have HI:=Lib.hid hI;have HLL:=Lib.hid hl;clear hI hl hxs
  gi_wp2_with (refine⟨trivial,?_⟩;gi_at_call 37;refine (callsIn_wide.2 (HC.out _)).mono ?_;rintro e w1 ⟨rfl,rfl⟩)
  obtain⟨x1,x2,x3,x4,x5⟩:=fault_chain HI.out.b2 HI.out.b3 HI.out.gr (.slice a k k) (.int .i64 0) (.int .i64 0);obtain⟨W2,hW2⟩:∃W2,(((W.setCell ⟨w.heap.size,0,none⟩ (.slice a k k)).setCell ⟨w.heap.size+1,0,none⟩ (.int .i64 0)).setCell ⟨w.heap.size+1,1,none⟩ (.int .i64 0))=W2:=⟨_,rfl⟩
  rw[hW2]at x1 x2 x3 x4 x5 ⊢;have hz2:W2.heap.size=W.heap.size:=by rw[←hW2];simp[World.setCell]
  clear hW2;have hK2:=x3.same D _ hK rfl;have y2:W2.cell? ⟨w.heap.size,0,none⟩=some (.slice a k k):=by rw[cell_of_block x1];rfl
  have y3:W2.cell? ⟨w.heap.size+1,0,none⟩=some (.int .i64 0):=by rw[cell_of_block x2];rfl
  have y4:W2.cell? ⟨w.heap.size+1,1,none⟩=some (.int .i64 0):=by rw[cell_of_block x2];rfl
  refine⟨by simp,.inl ⟨_,_,rfl,run_takeDeferred hK2,?_⟩⟩;have d2:=cell_kept y2 (grownBy_putObj' _ D (.deferred none)) (fun r e=>by cases e;exact⟨_,hK2,rfl⟩);have d3:=cell_kept y3 (grownBy_putObj' _ D (.deferred none)) (fun r e=>by cases e;exact⟨_,hK2,rfl⟩);have d4:=cell_kept y4 (grownBy_putObj' _ D (.deferred none)) (fun r e=>by cases e;exact⟨_,hK2,rfl⟩);have hcells:∀(j:Nat) (o:Obj),w.heap.size+1<j→W.heap[j]?=some o→o.isCells=true→(W2.putObj D (.deferred none)).heap[j]?=some o:=fun j o hj ho hc=>by
   refine (World.putObj_heap_other (fun e=>?_)).trans ((x5 j hj).trans ho);subst e;rw[hK]at ho;cases ho;cases hc
  refine⟨.tuple #[.slice a k k,f0],?_,⟨_,xs,rfl,HLL.out,?_,fun y hy it ho=>?_,?_⟩⟩
  · simp[results,Tryz.f15,go_sem,d2,d3,d4]
  · rw[←hcv];exact ((rowC_clip HI.out.row).keptC fun j o hj=>hcells j o (by omega)).low (by omega)
  · obtain⟨lo,hi,p1,p2,_⟩:=HI.out.its y hy it ho;exact (p2.kept (by simp[World.putObj];omega) fun j o q1 _=>hcells j o (by omega)).it.low (by omega)
  exact Below.trans x4 (belowK_b (w:=w) (Nat.le_refl _) W2 D _ _ (by omega) hK2 rfl rfl)
 case stop =>
  rintro D c pre W hD ⟨suf,hsuf⟩ ⟨rfl,p0,x,c,p,rfl,h2,h3,h4,h5,h6,h7⟩ hK;obtain⟨ll,hl⟩:=fine_list p0 h2;have hall:X = .bad c p:=by
   rw[←HX.out];have hp:Pl.seqS ⟨Pl.strS T,Pl.scalS⟩ (bs s)=ll.map .ok ++ .bad c p::suf:=by
    rw[←hsuf,List.map_append,hl,List.map_singleton,h3];simp
   have:=Pl.seq_fault _ (Pl.envT_ok T) (bs s) (by rw[bs_length];exact hs) ((bs s).length+1) 0 [] (by omega) (by omega) ll c p suf hp;exact this
  subst hall;have c2:W.cell? ⟨w.heap.size,0,none⟩=some nilV:=by rw[cell_of_block h5];rfl
  have c3:W.cell? ⟨w.heap.size+1,0,none⟩=some (.int .i64 c):=by rw[cell_of_block h6];rfl
  have c4:W.cell? ⟨w.heap.size+1,1,none⟩=some (.int .i64 p):=by rw[cell_of_block h6];rfl
  clear h2 h3 h5 h6 hl hsuf
  gi_wp2
  refine⟨by simp,.inl ⟨_,_,rfl,run_takeDeferred hK,?_⟩⟩;have d2:=cell_kept c2 (grownBy_putObj' _ D (.deferred none)) (fun r e=>by cases e;exact⟨_,hK,rfl⟩);have d3:=cell_kept c3 (grownBy_putObj' _ D (.deferred none)) (fun r e=>by cases e;exact⟨_,hK,rfl⟩);have d4:=cell_kept c4 (grownBy_putObj' _ D (.deferred none)) (fun r e=>by cases e;exact⟨_,hK,rfl⟩);refine⟨.tuple #[nilV,fv c p],?_,⟨rfl,h4,Below.trans h7 (belowK_b (w:=w) (Nat.le_refl _) W D _ _ (by omega) hK rfl rfl)⟩⟩;simp[results,Tryz.f15,go_sem,d2,d3,d4]
end Go.Proofs.YtkplelejagpkmaaGreatDoor
namespace Go.Proofs.YtkplelejagpkmaaGreatDoor
open Go.RowKit Go.Shelf Go.Joins
attribute [local go_sem] Oper.semAt_some
variable {Tb:Nat→UInt8 × UInt8}
set_option maxRecDepth 100000 in
theorem lb_fails (w:World) (hw:RW Tb w) (s:ByteArray) (hs:s.size≤20000000) (h0:0<s.size) (p:Nat) (hX:Pl.itemS ⟨Pl.strS Tb,Pl.scalS⟩ (bs s) 0 = .bad 3 p) :
    Calls Tryz.prog 28 #[.string s,.int .i64 0,.int .i64 p] w fun e w'=>e = .returned (.bool true)∧Gr w w':=by
 have HR:=Lib.hid (tl_Read Tb s hs 0 0 rfl h0 w hw _ hX (by simp));clear hX;go_enter Tryz.func28,Tryz.ntmps28;go_wp2_with fail;refine HR.out.mono ?_;rintro e w1 ⟨rfl,hc,g1⟩;go_wp2_with fail
 go_ret
 exact⟨rfl,Gr.auto⟩
abbrev lx1:ByteArray:=⟨#[97,32,61,32,49,32,35,32,120,10,91,98,93]⟩
abbrev lx2:ByteArray:=⟨#[97,32,61,32,49,32,98]⟩
abbrev lx3:ByteArray:=⟨#[91,32,91,97,93,93]⟩
def li1:Pl.It:=⟨1,0,10,[([97],0,1)],4,5,0,[⟨4,[49],[],[],[],(4,5),0⟩]⟩
def li2:Pl.It:=⟨2,10,13,[([98],11,12)],0,0,0,[]⟩
theorem pl_lx1:Pl.allS ⟨Pl.strS Tb,Pl.scalS⟩ (bs lx1) = .ok [li1,li2]:=by kernel_rfl
theorem pl_lx2:Pl.itemS ⟨Pl.strS Tb,Pl.scalS⟩ (bs lx2) 0 = .bad 3 6:=by kernel_rfl
theorem pl_lx3:Pl.itemS ⟨Pl.strS Tb,Pl.scalS⟩ (bs lx3) 0 = .bad 3 2:=by kernel_rfl
theorem newRow1 (w:World) (s:ByteArray):RowC (w.alloc (.cells #[.string s] 9)) w.heap.size 9 1 (.slice (some ⟨w.heap.size,0,none⟩) 1 1) 1 (keysV [bs s]) :=
 rowC_of ⟨rfl,.inr ⟨w.heap.size,1,#[.string s],rfl,Nat.le_refl _,heap_alloc_new w _,Nat.le_refl _,by decide,rfl,by simp[keysV,strV_bs]⟩⟩
set_option maxRecDepth 100000 in
theorem lb_lives (w:World) (hw:RW Tb w):Calls Tryz.prog 13 #[] w fun e w'=>e = .returned (.bool true)∧Gr w w':=by
 have HW:=Lib.hid hw;have H1:=Lib.hid (tl_All Tb lx1 (by decide) w hw _ pl_lx1);clear hw;go_enter Tryz.func13,Tryz.ntmps13;go_wp2_with fail;refine H1.out.mono ?_;rintro e w1 ⟨v,xs,rfl,hxs,hrow,hits,g1⟩;rcases xs with _|⟨x1,_|⟨x2,_|⟨x3,xs⟩⟩⟩ <;> simp at hxs;obtain⟨o1,o2⟩:=hxs;obtain⟨g,cp,hv,_,_⟩:=hrow.form (by simp);have hc:=hrow.cells (g:=g) (by rw[hv];rfl);have hgl:=(hrow.lt g (by rw[hv];rfl)).2;have m1:=hits x1 (by simp) _ o1;have m2:=hits x2 (by simp) _ o2;simp only[List.length_cons,List.length_nil,Nat.zero_add,Nat.reduceAdd]at hv;subst hv;have c0:w1.cell? ⟨g,0,none⟩=some (.int .u8 1):=hc 0 _ (by simp[ydC,o1,o2];rfl);have c1:w1.cell? ⟨g,1,none⟩=some (.int .i64 0):=hc 1 _ (by simp[ydC,o1,o2];rfl);have c2:w1.cell? ⟨g,2,none⟩=some (.int .i64 10):=hc 2 _ (by simp[ydC,o1,o2];rfl);have c3:w1.cell? ⟨g,3,none⟩=some x1.kv:=hc 3 _ (by simp[ydC,o1,o2]);have c5:w1.cell? ⟨g,5,none⟩=some (.int .i64 4):=hc 5 _ (by simp[ydC,o1,o2];rfl);have c6:w1.cell? ⟨g,6,none⟩=some (.int .i64 5):=hc 6 _ (by simp[ydC,o1,o2];rfl);have c9:w1.cell? ⟨g,9,none⟩=some (.int .u8 2):=hc 9 _ (by simp[ydC,o1,o2];rfl);have c10:w1.cell? ⟨g,10,none⟩=some (.int .i64 10):=hc 10 _ (by simp[ydC,o1,o2];rfl);have c11:w1.cell? ⟨g,11,none⟩=some (.int .i64 13):=hc 11 _ (by simp[ydC,o1,o2];rfl);have c12:w1.cell? ⟨g,12,none⟩=some x2.kv:=hc 12 _ (by simp[ydC,o1,o2]);obtain⟨oo1,⟨ka1,kn1,kc1⟩,sl1,nl1⟩:=x1;obtain⟨oo2,⟨ka2,kn2,kc2⟩,sl2,nl2⟩:=x2;have r1:=m1.k;have r2:=m2.k;have HR1:=Lib.hid r1;have HR2:=Lib.hid r2;dsimp only [Sl.v,Yd.kv]at c3 c12;clear hc hrow hits m1 m2 r1 r2 o1 o2;have HG1:=Lib.hid g1;clear g1;go_wp2_with fail;refine (la_sameK _ (b1:=w.heap.size) (b2:=w1.heap.size+1) (n:=1) (ws:=[[97]]) rfl (HR1.out.of_block fun k e=>((((Gr.refl w1).alloc _).alloc _).block (HR1.out.lt k e).2)) (by simpa using newRow1 (w1.alloc (.cells #[.int .i64 0,.int .i64 0] 31)) ⟨#[97]⟩) (by decide)).mono ?_;rintro e w2 ⟨rfl,g2⟩;have hg12:Gr w1 w2:=(((Gr.refl w1).alloc _).alloc _).trans g2;have hu:=hg12.use.1;have d9:=(hu g 9 hgl).trans c9;have d10:=(hu g 10 hgl).trans c10;have d11:=(hu g 11 hgl).trans c11;have d12:=(hu g 12 hgl).trans c12;have HG2:=Lib.hid (HG1.out.trans hg12);have HR3:=Lib.hid (HR2.out.of_block fun k e=>hg12.block (HR2.out.lt k e).2);clear c0 c1 c2 c3 c5 c6 c9 c10 c11 c12 hu hg12 g2 HR1 HR2 HG1;go_wp2_with fail;refine (la_sameK _ (b1:=w.heap.size) (b2:=w2.heap.size) (n:=1) (ws:=[[98]]) rfl (HR3.out.of_block fun k e=>(((Gr.refl w2).alloc _).block (HR3.out.lt k e).2)) (newRow1 w2 ⟨#[98]⟩) (by decide)).mono ?_;rintro e w3 ⟨rfl,g3⟩;have HG3:=Lib.hid (HG2.out.trans (((Gr.refl w2).alloc _).trans g3));clear g3 HR3 d9 d10 d11 d12 HG2;go_wp2_with fail;refine (lb_fails w3 (HW.out.gr HG3.out) lx2 (by decide) (by decide) 6 pl_lx2).mono ?_;rintro e w4 ⟨rfl,g4⟩;have HG4:=Lib.hid (HG3.out.trans g4);clear g4 HG3;go_wp2_with fail;refine (lb_fails w4 (HW.out.gr HG4.out) lx3 (by decide) (by decide) 2 pl_lx3).mono ?_;rintro e w5 ⟨rfl,g5⟩;have hg5:=HG4.out.trans g5;clear g5 HG4;go_wp2_with fail;exact bodyPost_ret (v := .bool true) (by simp[results,Tryz.results13,go_sem]) rfl ⟨rfl,hg5⟩
end Go.Proofs.YtkplelejagpkmaaGreatDoor
namespace Go.Proofs.YtkplelejagpkmaaGreatDoor
open Go.RowKit Go.Shelf Go.Joins
variable {Tb:Nat→UInt8 × UInt8}
namespace Pl
end Pl
theorem flat9:∀(xs:List Yd) (_:∀x∈xs,∃it,x.o = .ok it) (i:Nat) (x:Yd),xs[i]?=some x→∀j,j<9→(xs.flatMap ydC)[i*9+j]?=(ydC x)[j]?
 | [],_,i,x,h,_,_=>by simp at h
 | y::xs,hf,i,x,h,j,hj=>by
  have hy:=ydC_len y (hf y (List.mem_cons_self ..));rw[List.flatMap_cons];cases i with
  | zero =>
   simp at h;subst h;rw[Nat.zero_mul,Nat.zero_add,List.getElem?_append_left (by omega)]
  | succ i =>
   rw[List.getElem?_append_right (by omega),hy,show (i+1)*9+j-9=i*9+j by omega];exact flat9 xs (fun z hz=>hf z (List.mem_cons_of_mem _ hz)) i x (by simpa using h) j hj
theorem fine_of {xs:List Yd} {l:List Pl.It} (h:xs.map (·.o)=l.map .ok):∀x∈xs,∃it,x.o = .ok it:=fun x hx=>by
 have h1:x.o∈xs.map (·.o):=List.mem_map_of_mem hx;rw[h]at h1;obtain⟨it,_,e⟩:=List.mem_map.1 h1;exact⟨it,e.symm⟩
theorem o_at {xs:List Yd} {l:List Pl.It} (h:xs.map (·.o)=l.map .ok) {i:Nat} {x:Yd} {it:Pl.It} (hx:xs[i]?=some x) (hi:l[i]?=some it):x.o = .ok it:=by
 have h1:=congrArg (·[i]?) h;simp only[List.getElem?_map,hx,hi,Option.map_some,Option.some.injEq]at h1;exact h1
theorem row_slice {w:World} {base e size n:Nat} {v:Value} {xs:List Value} (h:RowC w base e size v n xs):∃a c,v = .slice a n c:=by
 rcases rowC_form h with⟨rfl,h0⟩|⟨g,cap,rfl,_,_⟩
 · exact⟨_,_,by rw[h0]⟩
 exact⟨_,_,rfl⟩
theorem bs_cut (s:ByteArray) (a b:Nat):bs (s.extract a b)=((bs s).drop a).take (b-a):=by
 simp only[bs,Lib.extract_data]
end Go.Proofs.YtkplelejagpkmaaGreatDoor
namespace Go.Proofs.YtkplelejagpkmaaGreatDoor
open Go.RowKit Go.Shelf Go.Joins
structure RowI (w:World) (base:Nat) (g:Nat) (l:List Pl.It):Prop where
 lt:g<w.heap.size
 at':∀(i:Nat) it,l[i]?=some it→∃(k s n:Sl),ItM w base it k.v s.v n.v∧∀(j:Nat) v,(ydC ⟨.ok it,k,s,n⟩)[j]?=some v→w.cell? ⟨g,i*9+j,none⟩=some v
theorem RowI.gr {w w':World} {base g:Nat} {l:List Pl.It} (h:RowI w base g l) (k:Gr w w'):RowI w' base g l :=
 ⟨Nat.lt_of_lt_of_le h.lt k.size,fun i it hi=>by
  obtain⟨a,b,c,d,e⟩:=h.at' i it hi;exact⟨a,b,c,d.gr k,fun j v hv=>(k.use.1 _ _ h.lt).trans (e j v hv)⟩⟩
theorem AllPost.rows {s:ByteArray} {w w':World} {l:List Pl.It} {e:Ending} (h:AllPost s w (.ok l) e w'):∃(a:Option Addr) (c:Nat),e = .returned (.tuple #[.slice a l.length c,f0])∧Gr w w'∧(l≠[]→∃g,a=some ⟨g,0,none⟩∧RowI w' w.heap.size g l):=by
 obtain⟨v,xs,rfl,hxs,hr,hm,g⟩:=h;have hlen:xs.length=l.length:=by have:=congrArg List.length hxs;simpa using this
 obtain⟨a,c,rfl⟩:=row_slice hr;rw[hlen]at hr ⊢;refine⟨a,c,rfl,g,fun hne=>?_⟩;have hpos:=List.length_pos_iff.2 hne;obtain⟨g0,c0,hv,_,_⟩:=hr.form hpos;have hlt:=(hr.lt g0 (by rw[hv];rfl)).2;have hc:=hr.cells (g:=g0) (by rw[hv];rfl);simp only[Value.slice.injEq]at hv;refine⟨g0,hv.1,hlt,fun i it hi=>?_⟩;have hil:=(List.getElem?_eq_some_iff.1 hi).1;obtain⟨x,hx⟩:∃x,xs[i]?=some x:=⟨_,List.getElem?_eq_getElem (by omega)⟩
 have hxo:=o_at hxs hx hi;obtain⟨xo,k,sv,n⟩:=x;dsimp only at hxo;subst hxo;refine⟨k,sv,n,hm _ (List.mem_of_getElem? hx) it rfl,fun j v hv=>hc _ _ ((flat9 xs (fine_of hxs) i _ hx j ?_).trans hv)⟩;have h9:=(List.getElem?_eq_some_iff.1 hv).1;rw[ydC_len _ ⟨it,rfl⟩]at h9;exact h9
end Go.Proofs.YtkplelejagpkmaaGreatDoor
