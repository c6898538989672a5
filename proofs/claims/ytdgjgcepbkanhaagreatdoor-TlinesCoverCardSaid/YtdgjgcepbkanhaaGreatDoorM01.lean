/-
 The walks and plain laws that the claim rests on, part 1.
-/
import Derived.Test.YtdgjgcepbkanhaaGreatDoorProg
import Derived.WalkKit
import Derived.WalkSpells
import Derived.WalkLawsBesides
import Derived.Lib.Hide
import Derived.Lib.Strings
import Derived.Lib.IndexBytes
import Derived.Deep.QuietTactic
import Derived.BigQuiet
import Derived.Maps.OwnOps
import Derived.Maps.Views
import Derived.Maps.AppendAt
import Derived.Deep.AppendLies
import Derived.Lib.SmallJoins
set_option maxHeartbeats 16000000
set_option linter.all false
set_option linter.unusedVariables false
set_option linter.unusedSimpArgs false
namespace Go.Proofs.YtdgjgcepbkanhaaGreatDoor.Pl
abbrev Bs:=List UInt8
inductive Out (α : Type) where
 | ok (a : α)
 | bad (c:Nat) (p:Nat)
def Out.map {α β : Type} (f : α → β):Out α → Out β
 | .ok a => .ok (f a)
 | .bad c p => .bad c p
def isBlank (c:UInt8):Bool:=c.toNat==32 || c.toNat==9
def blanks (l:Bs):Nat:=(l.takeWhile isBlank).length
def blanksAt (l:Bs) (n:Nat):Nat:=n+blanks (l.drop n)
theorem takeWhile_length_le (p:UInt8→Bool) (l:Bs):(l.takeWhile p).length≤l.length:=by
 induction l with
 | nil=>simp
 | cons a l ih=>simp only[List.takeWhile_cons];split <;> simp <;> omega
theorem takeWhile_dropWhile (p:UInt8→Bool) (l:Bs):(l.takeWhile p).length+(l.dropWhile p).length=l.length:=by
 rw[←List.length_append,List.takeWhile_append_dropWhile]
theorem drop_takeWhile (p:UInt8→Bool) (l:Bs):l.drop (l.takeWhile p).length=l.dropWhile p:=by
 induction l with
 | nil=>simp
 | cons a l ih=>simp only[List.takeWhile_cons,List.dropWhile_cons];split <;> simp_all
theorem blanks_le (l:Bs):blanks l≤l.length:=takeWhile_length_le _ _
theorem blanksAt_le (l:Bs) (n:Nat) (h:n≤l.length):n≤blanksAt l n∧blanksAt l n≤l.length:=by
 unfold blanksAt;have:=blanks_le (l.drop n);simp at this;omega
def ctl (n:Nat):Bool:=decide (n<32) && n != 9 || n==127
def isCtl (c:UInt8):Bool:=ctl c.toNat
def comment:Bs→Nat
 | 35::l=>1+(l.takeWhile fun c => !isCtl c).length
 | _=>0
theorem comment_le (l:Bs):comment l≤l.length:=by
 unfold comment;split
 · have:=takeWhile_length_le (fun c => !isCtl c) ‹_›;simp;omega
 omega
def commentAt (l:Bs) (n:Nat):Nat:=n+comment (l.drop n)
theorem commentAt_le (l:Bs) (n:Nat) (h:n≤l.length):n≤commentAt l n∧commentAt l n≤l.length:=by
 unfold commentAt;have:=comment_le (l.drop n);simp at this;omega
def gapStep (l:Bs):Out Nat :=
 let m:=blanks l+comment (l.drop (blanks l))
 match l.drop m with
 | 13::10::_ => .ok (m+2)
 | 10::_ => .ok (m+1)
 | 13::_ => .bad 3 (m+1)
 | _ => .ok m
def gapF:Nat→Bs→Out Nat
 | 0,_ => .ok 0
 | f+1,l =>
  match gapStep l with
  | .bad c p => .bad c p
  | .ok 0 => .ok 0
  | .ok (n+1) =>
   match gapF f (l.drop (n+1)) with
   | .bad c p => .bad c (n+1+p)
   | .ok k => .ok (n+1+k)
def gap (l:Bs):Out Nat:=gapF (l.length+1) l
def gapAt (l:Bs) (n:Nat):Out Nat :=
 match gap (l.drop n) with
 | .bad c p => .bad c (n+p)
 | .ok k => .ok (n+k)
theorem gapStep_le (l:Bs) (n:Nat) (h:gapStep l = .ok n):n≤l.length:=by
 unfold gapStep at h;have h1:=blanks_le l;have h2:=comment_le (l.drop (blanks l));rw[List.length_drop]at h2;revert h;generalize hm:blanks l+comment (l.drop (blanks l))=m;have h3:m≤l.length:=by omega
 have hl:∀r,l.drop m=r→m+r.length=l.length:=by
  intro r hr;rw[←hr,List.length_drop];omega
 dsimp only
 split
 all_goals intro h
 · rename_i r hr;have:=hl _ hr;simp at this;cases h;omega
 · rename_i r hr;have:=hl _ hr;simp at this;cases h;omega
 · cases h
 cases h;exact h3
theorem gapF_more:∀f g (l:Bs),l.length<f→l.length<g→gapF f l=gapF g l:=by
 intro f
 induction f with
 | zero=>intro g l h;omega
 | succ f ih =>
  intro g l hf hg
  match g,hg with
  | g+1,hg =>
   unfold gapF;cases hs:gapStep l with
   | bad c p=>rfl
   | ok n =>
    cases n with
    | zero=>rfl
    | succ n =>
     have:=gapStep_le l _ hs;simp only;rw[ih g (l.drop (n+1)) (by rw[List.length_drop];omega) (by rw[List.length_drop];omega)]
theorem gap_step (l:Bs):gap l=match gapStep l with
    | .bad c p => .bad c p
    | .ok 0 => .ok 0
    | .ok (n+1) =>
     match gap (l.drop (n+1)) with
     | .bad c p => .bad c (n+1+p)
     | .ok k => .ok (n+1+k):=by
 unfold gap;rw[gapF];cases hs:gapStep l with
 | bad c p=>rfl
 | ok n =>
  cases n with
  | zero=>rfl
  | succ n =>
   have:=gapStep_le l _ hs;simp only;rw[gapF_more l.length ((l.drop (n+1)).length+1) (l.drop (n+1)) (by rw[List.length_drop];omega) (by omega)]
theorem gapAt_bad (l:Bs) (n c p:Nat) (h:gapStep (l.drop n) = .bad c p):gapAt l n = .bad c (n+p):=by
 unfold gapAt;rw[gap_step,h]
theorem gapAt_stop (l:Bs) (n:Nat) (h:gapStep (l.drop n) = .ok 0):gapAt l n = .ok n:=by
 unfold gapAt;rw[gap_step,h];rfl
theorem gapAt_go (l:Bs) (n k:Nat) (h:gapStep (l.drop n) = .ok k) (hk:k≠0):gapAt l n=gapAt l (n+k):=by
 match k,hk with
 | k+1,_ =>
  unfold gapAt;rw[gap_step,h];simp only[List.drop_drop];cases gap (l.drop (n+(k+1))) with
  | bad c p=>simp only;congr 1;omega
  | ok m=>simp only;congr 1;omega
def pre:Bs→Bs→Bool
 | _,[]=>true
 | [],_::_=>false
 | a::l,b::p=>a==b && pre l p
theorem gapAt_gap (l:Bs) (n:Nat) (h:n≤l.length):let m:=commentAt l (blanksAt l n)
    (pre (l.drop m) [13,10]=true→gapAt l n=gapAt l (m+2)) ∧
    (pre (l.drop m) [13,10]=false→pre (l.drop m) [10]=true→gapAt l n=gapAt l (m+1)) ∧
    (pre (l.drop m) [13,10]=false→pre (l.drop m) [10]=false→pre (l.drop m) [13]=true→gapAt l n = .bad 3 (m+1)) ∧
    (pre (l.drop m) [13,10]=false→pre (l.drop m) [10]=false→pre (l.drop m) [13]=false→m=n→gapAt l n = .ok n) ∧
    (pre (l.drop m) [13,10]=false→pre (l.drop m) [10]=false→pre (l.drop m) [13]=false→m≠n→gapAt l n=gapAt l m):=by
 intro m;have hb:=blanksAt_le l n h;have hc:=commentAt_le l (blanksAt l n) hb.2;have hm:m=n+(blanks (l.drop n)+comment ((l.drop n).drop (blanks (l.drop n)))):=by
  show commentAt l (blanksAt l n)=_;unfold commentAt blanksAt;rw[List.drop_drop];omega
 have hd:(l.drop n).drop (blanks (l.drop n)+comment ((l.drop n).drop (blanks (l.drop n))))=l.drop m:=by
  rw[List.drop_drop,hm]
 have hs:gapStep (l.drop n)=match l.drop m with
     | 13::10::_ => .ok (m-n+2)
     | 10::_ => .ok (m-n+1)
     | 13::_ => .bad 3 (m-n+1)
     | _ => .ok (m-n):=by
  unfold gapStep;simp only;rw[hd,show m-n=blanks (l.drop n)+comment ((l.drop n).drop (blanks (l.drop n))) from by omega]
 have hle:n≤m:=by omega
 clear_value m
 generalize l.drop m=r at hs ⊢;refine⟨fun h1=>?_,fun h1 h2=>?_,fun h1 h2 h3=>?_,fun h1 h2 h3 h4=>?_,fun h1 h2 h3 h4=>?_⟩
 · match r,h1,hs with
   | 13::10::_,_,hs=>rw[gapAt_go l n _ hs (by omega)];congr 1;omega
   | [],h1,_=>simp[pre]at h1
   | [a],h1,_=>simp[pre]at h1
   | a::b::r,h1,hs =>
    simp[pre]at h1;obtain⟨rfl,rfl⟩:=h1;rw[gapAt_go l n _ hs (by omega)];congr 1;omega
 · match r,h2,hs with
   | [],h2,_=>simp[pre]at h2
   | a::r,h2,hs =>
    simp[pre]at h2;subst h2;rw[gapAt_go l n _ hs (by omega)];congr 1;omega
 · match r,h1,h3,hs with
   | [],_,h3,_=>simp[pre]at h3
   | [a],_,h3,hs =>
    simp[pre]at h3;subst h3;rw[gapAt_bad l n _ _ hs];congr 1;omega
   | a::b::r,h1,h3,hs =>
    simp[pre]at h3;subst h3;simp[pre]at h1;have:gapStep (l.drop n) = .bad 3 (m-n+1):=by
     rw[hs]
     split
     · rename_i e;simp only[List.cons.injEq]at e;exact absurd e.2.1 h1
     · rename_i e;simp at e
     · rfl
     rename_i _ _ e3;exact absurd rfl (e3 _)
    rw[gapAt_bad l n _ _ this];congr 1;omega
 · have:gapStep (l.drop n) = .ok (m-n):=by
    rw[hs]
    split
    · simp[pre]at h1
    · simp[pre]at h2
    · simp[pre]at h3
    rfl
   rw[h4,Nat.sub_self]at this;rw[gapAt_stop l n this]
 have:gapStep (l.drop n) = .ok (m-n):=by
  rw[hs]
  split
  · simp[pre]at h1
  · simp[pre]at h2
  · simp[pre]at h3
  rfl
 rw[gapAt_go l n _ this (by omega)];congr 1;omega
theorem pre_length (l p:Bs) (h:pre l p=true):p.length≤l.length:=by
 induction p generalizing l with
 | nil=>simp
 | cons b p ih =>
  match l,h with
  | [],h=>simp[pre]at h
  | a::l,h=>simp[pre]at h;have:=ih l h.2;simp;omega
def isPlain (c:UInt8):Bool:=c.toNat==9 || decide (32≤c.toNat) && c.toNat != 127
def long (l:Bs):Bool:=match l with
 | 34::34::34::_=>true
 | 39::39::39::_=>true
 | _=>false
def longAt (l:Bs) (n:Nat):Bool:=long (l.drop n)
inductive SR where
 | go (n:Nat) (tells:Bs) (over:Bool)
 | bad (p:Nat)
def feed:Bs→Out Nat
 | 10::_ => .ok 1
 | 13::10::_ => .ok 2
 | 13::_ => .bad 3 1
 | _ => .ok 0
def itself:Bs→SR
 | [] => .bad 0
 | c::_=>if isPlain c then .go 1 [c] false else .bad 0
end Go.Proofs.YtdgjgcepbkanhaaGreatDoor.Pl
namespace Go.Proofs.YtdgjgcepbkanhaaGreatDoor
open Go.RowKit
abbrev fv (c p:Nat):Value := .agg #[.int .i64 c,.int .i64 p]
abbrev f0:Value := .agg #[.int .i64 0,.int .i64 0]
abbrev bs (s:ByteArray):List UInt8:=s.data.toList
def Gr (w w':World):Prop:=Below w.heap.size w w'
theorem Gr.refl (w:World):Gr w w:=Below.refl _ _
theorem Gr.trans {a b c:World} (h:Gr a b) (k:Gr b c):Gr a c:=Below.trans h (Below.mono k h.size)
theorem Gr.alloc {a b:World} (h:Gr a b) (o:Obj):Gr a (b.alloc o):=Below.alloc h h.size o
theorem Gr.drew {a b:World} (h:Gr a b):Gr a b.drew:=Below.drew h
theorem Gr.drewN {a b:World} (h:Gr a b) (n:Nat):Gr a (b.drewN n):=⟨h.os,h.tape,h.output,h.size,h.block⟩
theorem Gr.setCell {a b:World} (h:Gr a b) {p:Addr} (hp:a.heap.size≤p.block) (v:Value):Gr a (b.setCell p v):=Below.setCell h hp v
theorem Gr.size {a b:World} (h:Gr a b):a.heap.size≤b.heap.size:=Below.size h
theorem Gr.block {a b:World} (h:Gr a b) {k:Nat} (hk:k<a.heap.size):b.heap[k]?=a.heap[k]?:=Below.block h k hk
theorem Gr.use {W w1:World} (hb:Gr W w1):(∀b o,b<W.heap.size→w1.cell? ⟨b,o,none⟩=W.cell? ⟨b,o,none⟩)∧(∀b o,b<W.heap.size→w1.frozen? ⟨b,o,none⟩=W.frozen? ⟨b,o,none⟩)∧W.heap.size≤w1.heap.size :=
 ⟨fun b o h=>Below.cell hb (p:=⟨b,o,none⟩) h,fun b o h=>Below.frozen hb (p:=⟨b,o,none⟩) h,Below.size hb⟩
theorem quiet_any {P:Program} {f:FuncId} {args:Array Value} {W W0:World} {v:Value} (h:Calls P f args W fun e w'=>e = .returned v∧W=w') (hW:∃n,W=W0.drewN n) :
    Calls P f args W fun e w''=>e = .returned v∧∃m,w''=W0.drewN m :=
 h.mono fun _ _ ⟨he,hm⟩=>⟨he,hW.elim fun n hn=>⟨n,by rw[←hm,hn]⟩⟩
theorem quiet_any2 {P:Program} {f:FuncId} {args:Array Value} {W W0:World} {v:Value} {a:Nat} (h:Calls P f args W fun e w'=>e = .returned v∧W=w') (hW:∃n,W=W0.drewN (a+n)) :
    Calls P f args W fun e w''=>e = .returned v∧∃m,w''=W0.drewN (a+m) :=
 h.mono fun _ _ ⟨he,hm⟩=>⟨he,hW.elim fun n hn=>⟨n,by rw[←hm,hn]⟩⟩
structure St (F F':Nat→Prop) (a b:World):Prop where
 os:b.os=a.os
 tape:b.tape=a.tape
 output:b.output=a.output
 size:a.heap.size≤b.heap.size
 block:∀k,k<a.heap.size→¬F k→b.heap[k]?=a.heap[k]?
 own:∀k,F' k→F k∨a.heap.size≤k
theorem St.refl (F:Nat→Prop) (a:World):St F F a a:=⟨rfl,rfl,rfl,Nat.le_refl _,fun _ _ _=>rfl,fun _ h => .inl h⟩
theorem St.trans {F F' F'':Nat→Prop} {a b c:World} (h:St F F' a b) (k:St F' F'' b c):St F F'' a c :=
 ⟨k.os.trans h.os,k.tape.trans h.tape,k.output.trans h.output,Nat.le_trans h.size k.size,
  fun i hi hn=>(k.block i (Nat.lt_of_lt_of_le hi h.size) (fun hF=>(h.own i hF).elim hn (fun e=>by omega))).trans (h.block i hi hn),
  fun i hi=>(k.own i hi).elim (fun e=>h.own i e) (fun e => .inr (Nat.le_trans h.size e))⟩
theorem Gr.st {F:Nat→Prop} {a b:World} (h:Gr a b):St F F a b :=
 ⟨Below.os h,Below.tape h,Below.output h,Below.size h,fun k hk _=>h.block hk,fun _ h => .inl h⟩
theorem St.gr {F F':Nat→Prop} {a b c:World} (h:St F F' a b) (k:Gr b c):St F F' a c:=h.trans k.st
theorem St.alloc {F F':Nat→Prop} {a b:World} (h:St F F' a b) (o:Obj):St F F' a (b.alloc o):=h.gr ((Gr.refl b).alloc o)
theorem St.drew {F F':Nat→Prop} {a b:World} (h:St F F' a b):St F F' a b.drew:=h.gr (Gr.refl b).drew
theorem St.drewN {F F':Nat→Prop} {a b:World} (h:St F F' a b) (n:Nat):St F F' a (b.drewN n):=h.gr ((Gr.refl b).drewN n)
theorem St.setCell {F F':Nat→Prop} {a b:World} (h:St F F' a b) {p:Addr} (hp:F p.block∨a.heap.size≤p.block) (v:Value):St F F' a (b.setCell p v):=by
 refine⟨h.os,h.tape,h.output,Nat.le_trans h.size (by simp[World.setCell]),fun k hk hn=>?_,h.own⟩;rw[Below.heap_setCell _ _ _ _ (fun e=>by subst e;rcases hp with hp|hp;exact hn hp;omega)];exact h.block k hk hn
theorem St.grown {F F':Nat→Prop} {a b c:World} {row:Option Nat} (h:St F F' a b) (g:b.grownBy c row) (hr:∀k,row=some k→F k∨a.heap.size≤k):St F F' a c:=by
 refine⟨g.os.trans h.os,g.tape.trans h.tape,g.output.trans h.output,Nat.le_trans h.size g.size,fun k hk hn=>?_,h.own⟩;rw[g.block k (Nat.lt_of_lt_of_le hk h.size) (fun e=>(hr k e.symm).elim hn (fun e=>by omega))];exact h.block k hk hn
theorem St.to {F F' F'':Nat→Prop} {a b:World} (h:St F F' a b) (k:∀i,F'' i→F i∨a.heap.size≤i):St F F'' a b:=⟨h.os,h.tape,h.output,h.size,h.block,k⟩
theorem St.use {F F':Nat→Prop} {a b:World} (h:St F F' a b) (k:Nat) (hk:k<a.heap.size) (hn:¬F k):(∀o,b.cell? ⟨k,o,none⟩=a.cell? ⟨k,o,none⟩)∧(∀o,b.frozen? ⟨k,o,none⟩=a.frozen? ⟨k,o,none⟩) :=
 ⟨fun o=>World.cell?_of_block (w:=a) (a:=⟨k,o,none⟩) (h.block k hk hn),fun o=>World.frozen?_of_block (w:=a) (a:=⟨k,o,none⟩) (h.block k hk hn)⟩
theorem St.below {F F':Nat→Prop} {a b w:World} (h:St F F' a b) (g:Gr w a) (hF:∀k,F k→w.heap.size≤k):Gr w b :=
 Below.trans g ⟨h.os,h.tape,h.output,h.size,fun k hk=>h.block k (Nat.lt_of_lt_of_le hk g.size) (fun e=>by have:=hF k e;omega)⟩
theorem ret_bool {a b:Bool} (h:a=b):Ending.returned (.bool a) = .returned (.bool b):=by rw[h]
theorem ret_int {k:IntKind} {a b:Int} (h:a=b):Ending.returned (.int k a) = .returned (.int k b):=by rw[h]
theorem beqs (x y:Nat) (b:Bool) (h:(x==y)=b):((x:Int)==(y:Int))=b∧((x:Int) != (y:Int)) = !b:=by
 cases b
 · simp at h;simp;omega
 simp at h;simp[h]
theorem size_drop (s:ByteArray) (n:Nat):(s.extract n s.size).size=s.size-n:=by simp
theorem bs_extract (s:ByteArray) (n:Nat):bs (s.extract n s.size)=(bs s).drop n:=by
 simp only[bs,Lib.extract_data];rw[List.take_of_length_le (by simp)]
theorem idx_bs (s:ByteArray) (a:Nat) (h:a<s.size):(bs s).drop a=s[a]::(bs s).drop (a+1):=by
 rw[List.drop_eq_getElem_cons (by simpa [bs]using h)];rfl
theorem bs_length (s:ByteArray):(bs s).length=s.size:=by simp[bs]
theorem Gr.auto {a b:World} (h:Gr a b:=by (repeat (first|exact Gr.refl _|assumption|refine Gr.drew ?_|refine Gr.drewN ?_ _|refine Gr.alloc ?_ _|(refine Gr.setCell ?_ (by first|(simp;done)|(simp;omega)) _)|refine Gr.trans ?_ (by assumption)))):Gr a b:=h
theorem St.auto {F F':Nat→Prop} {a b:World} (h:St F F' a b:=by (repeat (first|exact St.refl _ _|assumption|exact Gr.st (by assumption)|refine St.drew ?_|refine St.drewN ?_ _|refine St.alloc ?_ _|(refine St.setCell ?_ (.inr (by first|(simp;done)|(simp;omega))) _)|refine St.trans ?_ (by assumption)|refine St.gr ?_ (by assumption)))):St F F' a b:=h
end Go.Proofs.YtdgjgcepbkanhaaGreatDoor
namespace Go.Proofs.YtdgjgcepbkanhaaGreatDoor.Pl
inductive Res (α : Type) where
 | non
 | ok (a : α)
 | bad (c p:Nat)
structure Nd where
 kind:Nat
 text:Bs
 keys:List Bs
 spots:List (Nat × Nat)
 subs:List Nat
 sp:Int × Int
 owner:Nat
abbrev Nds:=List Nd
structure Env where
 str:Bs→Res (Bs × Nat)
 scal:Bs→Res (Nat × Bs × Nat)
def byteAt (s:Bs) (n:Nat):Nat:=match s[n]? with
 | some c=>c.toNat
 | none=>0
def isBare (c:UInt8):Bool:=decide (97≤c.toNat) && decide (c.toNat≤122) || decide (65≤c.toNat) && decide (c.toNat≤90) || decide (48≤c.toNat) && decide (c.toNat≤57) || c.toNat==95 || c.toNat==45
def bareRun (l:Bs):Nat:=(l.takeWhile isBare).length
def word (E:Env) (s:Bs) (n:Nat):Res (Bs × Nat) :=
 if longAt s n then .ok ([],n+2) else
 if bareRun (s.drop n)=0 then
  match E.str (s.drop n) with
  | .non => .non
  | .bad c p => .bad c (n+p)
  | .ok (t,k) => .ok (t,n+k)
 else .ok ((s.drop n).take (bareRun (s.drop n)),n+bareRun (s.drop n))
abbrev KW:=Bs × Nat × Nat
def keyF (E:Env) (s:Bs):Nat→Nat→List KW→Res (List KW × Nat)
 | 0,_,_ => .non
 | f+1,n,acc =>
  match word E s n with
  | .non => .non
  | .bad c p => .bad c p
  | .ok (t,e) =>
   let a:=blanksAt s e
   if byteAt s a=46 then keyF E s f (blanksAt s (a+1)) (acc++[(t,n,e)])
   else .ok (acc++[(t,n,e)],e)
def keyS (E:Env) (s:Bs) (n:Nat):Res (List KW × Nat):=keyF E s (s.length+2) n []
inductive Sub where
 | non
 | no
 | yes (i:Nat)
def subOf (st:Nds) (t:Nat) (w:Bs):Sub :=
 match st[t]? with
 | none => .non
 | some nd =>
  match nd.keys.findIdx? (fun x=>x==w) with
  | none => .no
  | some j =>
   match nd.subs[j]? with
   | none => .non
   | some i=>if i<st.length then .yes i else .non
def putNd (nd:Nd) (w:Bs) (sp:Nat × Nat) (i:Nat):Nd:={ nd with keys:=nd.keys++[w],spots:=nd.spots++[sp],subs:=nd.subs++[i] }
def putAt (st:Nds) (t:Nat) (w:Bs) (sp:Nat × Nat) (i:Nat):Nds:=st.modify t fun nd=>putNd nd w sp i
def ownerOf (st:Nds) (i:Nat):Nat:=match st[i]? with
 | some nd=>nd.owner
 | none=>0
def leaf (k:Nat) (t:Bs) (a b:Nat):Nd:=⟨k,t,[],[],[],(a,b),0⟩
def listNd (subs:List Nat) (a b:Nat):Nd:=⟨7,[],[],[],subs,(a,b),0⟩
def tabNd:Nd:=⟨8,[],[],[],[],(0,0),0⟩
def dotNd (owner:Nat):Nd:=⟨8,[],[],[],[],(-1,-1),owner⟩
end Go.Proofs.YtdgjgcepbkanhaaGreatDoor.Pl
namespace Go.Proofs.YtdgjgcepbkanhaaGreatDoor
open Go.RowKit Go.Joins
structure NdR where
 nd:Pl.Nd
 kv:Value
 sv:Value
 uv:Value
abbrev strV (l:Pl.Bs):Value := .string ⟨l.toArray⟩
def ndV (r:NdR):List Value:=[.int .u8 r.nd.kind,strV r.nd.text,r.kv,r.sv,r.uv,.int .i64 r.nd.sp.1,.int .i64 r.nd.sp.2]
def ndsV (L:List NdR):List Value:=L.flatMap ndV
def keysV (l:List Pl.Bs):List Value:=l.map strV
def spotsV (l:List (Nat × Nat)):List Value:=l.flatMap fun p=>[.int .i64 p.1,.int .i64 p.2]
def subsV (l:List Nat):List Value:=l.map fun (i:Nat) => .int .i64 i
theorem ndV_length (r:NdR):(ndV r).length=7:=rfl
theorem ndsV_length (L:List NdR):(ndsV L).length=L.length*7:=by
 unfold ndsV
 induction L with
 | nil=>rfl
 | cons r L ih=>rw[List.flatMap_cons,List.length_append,ih,ndV_length,List.length_cons];omega
theorem ndsV_get (L:List NdR) (i j:Nat) (hj:j<7):(ndsV L)[i*7+j]?=(L[i]?).bind fun r=>(ndV r)[j]?:=by
 induction L generalizing i with
 | nil=>simp[ndsV]
 | cons r L ih =>
  have e:ndsV (r::L)=ndV r++ndsV L:=by simp[ndsV]
  rw[e];cases i with
  | zero=>rw[List.getElem?_append_left (by rw[ndV_length];omega)];simp
  | succ i =>
   rw[List.getElem?_append_right (by rw[ndV_length];omega),ndV_length,show (i+1)*7+j-7=i*7+j from by omega,ih];rfl
theorem ndsV_set (L:List NdR) (i j:Nat) (hj:j<7) (v:Value) (r r':NdR) (hr:L[i]?=some r) (he:(ndV r).set j v=ndV r'):(ndsV L).set (i*7+j) v=ndsV (L.set i r'):=by
 induction L generalizing i with
 | nil=>simp at hr
 | cons x L ih =>
  have e:∀(y:NdR) (M:List NdR),ndsV (y::M)=ndV y++ndsV M:=by intro y M;simp[ndsV]
  rw[e];cases i with
  | zero =>
   simp at hr;subst hr;rw[List.set_append_left _ _ (by rw[ndV_length];omega),List.set_cons_zero,e,←he];simp
  | succ i =>
   rw[List.set_append_right _ _ (by rw[ndV_length];omega),ndV_length,show (i+1)*7+j-7=i*7+j from by omega,ih i (by simpa using hr),List.set_cons_succ,e]
def Tagged (own:Nat→Nat) (v:Value) (t:Nat):Prop:=∀k,v.ownBlock=some k→own k=t
def RowC (w:World) (base e size:Nat) (v:Value) (n:Nat) (xs:List Value):Prop :=
 ∃v0,w.ownsRow base e size v0 n xs∧v0.ownBlock=v.ownBlock∧(v=v0∨∃g c,v0 = .slice (some ⟨g,0,none⟩) n c∧v = .slice (some ⟨g,0,none⟩) n n)
structure NdRows (w:World) (base:Nat) (own:Nat→Nat) (i:Nat) (r:NdR):Prop where
 k:w.ownsRow base 9 1 r.kv r.nd.keys.length (keysV r.nd.keys)
 s:w.ownsRow base 38 2 r.sv r.nd.spots.length (spotsV r.nd.spots)
 u:RowC w base 3 1 r.uv r.nd.subs.length (subsV r.nd.subs)
 u8:r.nd.kind=8→w.ownsRow base 3 1 r.uv r.nd.subs.length (subsV r.nd.subs)
 tk:Tagged own r.kv (4+3*i)
 ts:Tagged own r.sv (5+3*i)
 tu:Tagged own r.uv (6+3*i)
abbrev mapD:=DataW Unit
def Opens (D:mapD) (L:List NdR):Prop:=Maps.IsMap D∧(∀i:Nat,L.length≤i→D.atKey (.int .i64 i) (.lit (.int .i64 0)) = .lit (.int .i64 0)) ∧
 ∀(i:Nat) r,L[i]?=some r→D.atKey (.int .i64 i) (.lit (.int .i64 0)) = .lit (.int .i64 r.nd.owner)
def cntO (L:List NdR):Nat:=(L.filter fun r=>r.nd.owner != 0).length
theorem cntO_append (L M:List NdR):cntO (L++M)=cntO L+cntO M:=by simp[cntO]
theorem cntO_le (L:List NdR):cntO L≤L.length:=List.length_filter_le _ _
theorem cntO_set:∀(L:List NdR) (i:Nat) (r r':NdR),L[i]?=some r→cntO (L.set i r')+cntO [r]=cntO L+cntO [r']
 | [],i,_,_,h=>by simp at h
 | x::L,0,r,r',h=>by
  simp only[List.getElem?_cons_zero,Option.some.injEq]at h;subst h;rw[List.set_cons_zero,←List.singleton_append,←List.singleton_append (l:=L),cntO_append,cntO_append];omega
 | x::L,i+1,r,r',h=>by
  have:=cntO_set L i r r' (by simpa using h);rw[List.set_cons_succ,←List.singleton_append,←List.singleton_append (l:=L),cntO_append,cntO_append];omega
theorem cntO_one (r r':NdR) (h:r'.nd.owner=r.nd.owner):cntO [r']=cntO [r]:=by
 simp only[cntO,List.filter_cons,List.filter_nil,h];cases r.nd.owner != 0 <;> rfl
theorem cntO_same (L:List NdR) (i:Nat) (r r':NdR) (hr:L[i]?=some r) (h:r'.nd.owner=r.nd.owner):cntO (L.set i r')=cntO L:=by
 have:=cntO_set L i r r' hr;have:=cntO_one r r' h;omega
structure RdV (w:World) (R B base:Nat) (s:ByteArray) (root:Int) (nv:Value) (L:List NdR) (own:Nat→Nat):Prop where
 blk:w.heap[R]?=some (.cells #[nv,.int .i64 root,.string s,.map (some B)] 75 (0,0))
 oR:own R=1
 oB:own B=2
 nodes:w.ownsRow base 40 7 nv L.length (ndsV L)
 oN:Tagged own nv 3
 map:∃D:mapD,w.ownsMap Tryz.prog 3 (plainElem (H:=Unit) Tryz.prog 3) B (cntO L) D∧Opens D L
 rows:∀(i:Nat) r,L[i]?=some r→NdRows w base own i r
 lt:∀k,own k≠0→base≤k∧k<w.heap.size
def FV (own:Nat→Nat) (k:Nat):Prop:=own k≠0
theorem ownsRow_of_block {w w':World} {base e size n:Nat} {v:Value} {xs:List Value} (h:w.ownsRow base e size v n xs) (hb:∀k,v.ownBlock=some k→w'.heap[k]?=w.heap[k]?):w'.ownsRow base e size v n xs:=by
 refine⟨h.1,?_⟩;rcases h.2 with hn|⟨g,cap,cur,rfl,hbb,hgg,rest⟩
 · exact .inl hn
 exact .inr ⟨g,cap,cur,rfl,hbb,by rw[hb g rfl];exact hgg,rest⟩
theorem RowC.of_block {w w':World} {base e size n:Nat} {v:Value} {xs:List Value} (h:RowC w base e size v n xs) (hb:∀k,v.ownBlock=some k→w'.heap[k]?=w.heap[k]?):RowC w' base e size v n xs:=by
 obtain⟨v0,h1,h2,h3⟩:=h;exact⟨v0,ownsRow_of_block h1 (fun k e=>hb k (by rw[←h2];exact e)),h2,h3⟩
theorem rowC_of {w:World} {base e size n:Nat} {v:Value} {xs:List Value} (h:w.ownsRow base e size v n xs):RowC w base e size v n xs:=⟨v,h,rfl,.inl rfl⟩
theorem RowC.lt {w:World} {base e size n:Nat} {v:Value} {xs:List Value} (h:RowC w base e size v n xs):∀k,v.ownBlock=some k→base≤k∧k<w.heap.size:=by
 obtain⟨v0,h1,h2,_⟩:=h;intro k hk;exact h1.lt k (by rw[h2];exact hk)
theorem RowC.cells {w:World} {base e size n:Nat} {v:Value} {xs:List Value} (h:RowC w base e size v n xs) {g:Nat} (hg:v.ownBlock=some g):∀j u,xs[j]?=some u→w.cell? ⟨g,j,none⟩=some u:=by
 obtain⟨v0,h1,h2,_⟩:=h;intro j u hu;have:=h1.cells (g:=g) (by rw[h2];exact hg) j u hu
 rwa [Addr.add_lit,Nat.zero_add]at this
theorem RowC.form {w:World} {base e size n:Nat} {v:Value} {xs:List Value} (h:RowC w base e size v n xs) (hn:0<n):∃g c,v = .slice (some ⟨g,0,none⟩) n c∧n≤c∧c≤maxLen:=by
 obtain⟨v0,h1,h2,h3⟩:=h;rcases h1.2 with⟨_,h0⟩|⟨g,cap,cur,hv,hbb,hgg,q1,q2,_⟩
 · omega
 rcases h3 with rfl|⟨g',c',e1,e2⟩
 · exact⟨g,cap,hv,q1,q2⟩
 exact⟨g',n,e2,Nat.le_refl _,Nat.le_trans q1 q2⟩
theorem ownsMap_of_block {w w':World} {k b n:Nat} {D:mapD} (h:w.ownsMap Tryz.prog k (plainElem (H:=Unit) Tryz.prog 3) b n D) (hb:w'.heap[b]?=w.heap[b]?):w'.ownsMap Tryz.prog k (plainElem (H:=Unit) Tryz.prog 3) b n D:=by
 obtain⟨es,clock,h1,F,hs,hD⟩:=h;exact⟨es,clock,hb.trans h1,F,hs,hD⟩
theorem NdRows.kept {w w' base own i r} (h:NdRows w base own i r) (hb:∀k,FV own k→w'.heap[k]?=w.heap[k]?):NdRows w' base own i r :=
 ⟨ownsRow_of_block h.k fun k e=>hb k (by unfold FV;rw[h.tk k e];omega),ownsRow_of_block h.s fun k e=>hb k (by unfold FV;rw[h.ts k e];omega),h.u.of_block fun k e=>hb k (by unfold FV;rw[h.tu k e];omega),fun h8=>ownsRow_of_block (h.u8 h8) fun k e=>hb k (by unfold FV;rw[h.tu k e];omega),h.tk,h.ts,h.tu⟩
section
variable {w w':World} {R B base:Nat} {s:ByteArray} {root:Int} {nv:Value} {L:List NdR} {own:Nat→Nat}
theorem RdV.kept (h:RdV w R B base s root nv L own) (hb:∀k,FV own k→w'.heap[k]?=w.heap[k]?) (hz:w.heap.size≤w'.heap.size):RdV w' R B base s root nv L own:=by
 obtain⟨D,h1,h2⟩:=h.map;exact⟨by rw[hb R (by unfold FV;rw[h.oR];omega)];exact h.blk,h.oR,h.oB,ownsRow_of_block h.nodes fun k e=>hb k (by unfold FV;rw[h.oN k e];omega),h.oN,
  ⟨D,ownsMap_of_block h1 (hb B (by unfold FV;rw[h.oB];omega)),h2⟩,fun i r hr=>(h.rows i r hr).kept hb,fun k hk=>⟨(h.lt k hk).1,Nat.lt_of_lt_of_le (h.lt k hk).2 hz⟩⟩
theorem RdV.gr (h:RdV w R B base s root nv L own) (g:Gr w w'):RdV w' R B base s root nv L own:=h.kept (fun k hk=>g.block (h.lt k hk).2) g.size
theorem RdV.alloc (h:RdV w R B base s root nv L own) (o:Obj):RdV (w.alloc o) R B base s root nv L own:=h.gr ((Gr.refl w).alloc o)
theorem RdV.drew (h:RdV w R B base s root nv L own):RdV w.drew R B base s root nv L own:=h.gr (Gr.refl w).drew
theorem RdV.drewN (h:RdV w R B base s root nv L own) (n:Nat):RdV (w.drewN n) R B base s root nv L own:=h.gr ((Gr.refl w).drewN n)
theorem RdV.setCell (h:RdV w R B base s root nv L own) {p:Addr} (hp:¬FV own p.block) (v:Value):RdV (w.setCell p v) R B base s root nv L own :=
 h.kept (fun k hk=>Below.heap_setCell _ _ _ _ (fun e=>by subst e;exact hp hk)) (by simp[World.setCell])
theorem RdV.not_new (h:RdV w R B base s root nv L own) {k:Nat} (hk:w.heap.size≤k):¬FV own k:=fun e=>by have:=h.lt k e;omega
theorem RdV.R_lt (h:RdV w R B base s root nv L own):base≤R∧R<w.heap.size:=h.lt R (by rw[h.oR];omega)
theorem RdV.B_lt (h:RdV w R B base s root nv L own):base≤B∧B<w.heap.size:=h.lt B (by rw[h.oB];omega)
theorem RdV.cells (h:RdV w R B base s root nv L own) :
    w.cell? ⟨R,0,none⟩=some nv∧w.cell? ⟨R,1,none⟩=some (.int .i64 root)∧w.cell? ⟨R,2,none⟩=some (.string s)∧w.cell? ⟨R,3,none⟩=some (.map (some B))∧(∀i,w.frozen? ⟨R,i,none⟩=false) :=
 ⟨by rw[cell_of_block h.blk];rfl,by rw[cell_of_block h.blk];rfl,by rw[cell_of_block h.blk];rfl,by rw[cell_of_block h.blk];rfl,fun i=>unfrozen_of_block h.blk i⟩
theorem RdV.look (h:RdV w R B base s root nv L own) (i:Nat) (hi:i≤9223372036854775807) (r:NdR) (hr:L[i]?=some r) (W:World) (hW:W.heap[B]?=w.heap[B]?) :
    (Instr.lookup 73 (.map (some B)) (.int .i64 i) false).run Tryz.prog W = .ok (.int .i64 r.nd.owner) W:=by
 obtain⟨D,h1,h2⟩:=h.map;have h1':=ownsMap_of_block (w':=W) h1 hW;have hz:(zeroValue 3).run Tryz.prog W = .ok (.int .i64 0) W:=by kernel_rfl
 obtain⟨c,e1,e2,e3⟩:=h1'.lookup_int (Maps.int_keyed Tryz.underlying3) Tryz.underlying73 Tryz.underlying3 hz (Maps.keyOf_int_mk Tryz.underlying3 (show (Lit.int .i64 (i:Int)).wf=true by simp[Lit.wf,IntKind.min,IntKind.max,IntKind.signed,IntKind.bits];omega));rw[h2.2.2 i r hr]at e2;cases e2;exact e1
theorem RdV.form (h:RdV w R B base s root nv L own) (hL:0<L.length):∃g cap cur,nv = .slice (some ⟨g,0,none⟩) L.length cap∧base≤g∧g<w.heap.size∧own g=3∧g≠R∧g≠B ∧
    w.heap[g]?=some (.cells cur 40 (0,0))∧cur.size=cap*7∧L.length≤cap∧cap≤maxLen∧cur.toList.take (L.length*7)=ndsV L:=by
 rcases h.nodes.2 with⟨_,h0⟩|⟨g,cap,cur,hv,hbb,hgg,h1,h2,h3,h4⟩
 · omega
 have ho:own g=3:=h.oN g (by rw[hv];rfl);refine⟨g,cap,cur,hv,hbb,(h.lt g (by omega)).2,ho,fun e=>?_,fun e=>?_,hgg,h3,h1,h2,h4⟩
 · subst e;rw[h.oR]at ho;omega
 subst e;rw[h.oB]at ho;omega
theorem RdV.ndCells (h:RdV w R B base s root nv L own) {g cap:Nat} (hv:nv = .slice (some ⟨g,0,none⟩) L.length cap) (i:Nat) (r:NdR) (hr:L[i]?=some r) :
    w.cell? ⟨g,i*7,none⟩=some (.int .u8 r.nd.kind)∧w.cell? ⟨g,i*7+1,none⟩=some (strV r.nd.text)∧w.cell? ⟨g,i*7+2,none⟩=some r.kv∧w.cell? ⟨g,i*7+3,none⟩=some r.sv∧w.cell? ⟨g,i*7+4,none⟩=some r.uv ∧
    w.cell? ⟨g,i*7+5,none⟩=some (.int .i64 r.nd.sp.1)∧w.cell? ⟨g,i*7+6,none⟩=some (.int .i64 r.nd.sp.2)∧(∀o,w.frozen? ⟨g,o,none⟩=false):=by
 have hL:0<L.length:=by cases L with|nil=>simp at hr|cons=>simp
 have hc:=h.nodes.cells (g:=g) (by rw[hv];rfl);have hj:∀j u,j<7→(ndV r)[j]?=some u→w.cell? ⟨g,i*7+j,none⟩=some u:=by
  intro j u hj hu;have:=hc (i*7+j) u (by rw[ndsV_get _ _ _ hj,hr];exact hu)
  rwa [Addr.add_lit,Nat.zero_add]at this
 obtain⟨g',cap',cur,hv',_,_,_,_,_,hgg,_⟩:=h.form hL;rw[hv]at hv';cases hv';exact⟨hj 0 _ (by omega) rfl,hj 1 _ (by omega) rfl,hj 2 _ (by omega) rfl,hj 3 _ (by omega) rfl,hj 4 _ (by omega) rfl,hj 5 _ (by omega) rfl,hj 6 _ (by omega) rfl,fun o=>unfrozen_of_block hgg o⟩
end
end Go.Proofs.YtdgjgcepbkanhaaGreatDoor
namespace Go.Proofs.YtdgjgcepbkanhaaGreatDoor
open Go.RowKit Go.Joins
theorem nilRow (w:World) (base e size:Nat):w.ownsRow base e size (.slice none 0 0) 0 []:=World.ownsRow_nil _ _ _ _
theorem tag_nil (own:Nat→Nat) (t:Nat):Tagged own (.slice none 0 0) t:=fun k h=>by simp[Value.ownBlock]at h
theorem ownsRow_setCell_ne {w:World} {base e size n:Nat} {v:Value} {xs:List Value} (h:w.ownsRow base e size v n xs) {p:Addr} (hp:∀k,v.ownBlock=some k→k≠p.block) (x:Value):(w.setCell p x).ownsRow base e size v n xs :=
 ownsRow_of_block h fun k hk=>Below.heap_setCell _ _ _ _ (hp k hk)
def NodeMore (w w2:World) (R B base:Nat) (s:ByteArray) (root:Int) (L:List NdR) (own:Nat→Nat) (r:NdR) (nv':Value):Prop :=
 ∃own',RdV w2 R B base s root nv' (L++[r]) own'∧St (fun k=>FV own k∨r.uv.ownBlock=some k) (FV own') w w2∧(∀k,own' k≠0→own k≠0∨r.uv.ownBlock=some k∨w.heap.size≤k)
theorem RdV.appended {w W w1:World} {R B base:Nat} {s:ByteArray} {root:Int} {nv:Value} {L:List NdR} {own:Nat→Nat} (h:RdV w R B base s root nv L own) (g1:Gr w W)
    (r:NdR) (hk:r.kv = .slice none 0 0) (hsv:r.sv = .slice none 0 0) (hk0:r.nd.keys=[]) (hs0:r.nd.spots=[]) (ho0:r.nd.owner=0)
    (hu:RowC w base 3 1 r.uv r.nd.subs.length (subsV r.nd.subs)) (hu8:r.nd.kind=8→w.ownsRow base 3 1 r.uv r.nd.subs.length (subsV r.nd.subs)) (hu0:∀k,r.uv.ownBlock=some k→own k=0∧k<w.heap.size)
    (g cap:Nat) (hrow:w1.ownsRow base 40 7 (.slice (some ⟨g,0,none⟩) (L.length+1) cap) (L.length+1) (ndsV L++ndV r)) (hg:W.grownBy w1 nv.ownBlock)
    (hat:nv.ownBlock=some g∨g=W.heap.size) (hlt:g<w1.heap.size) :
    NodeMore w (w1.setCell ⟨R,0,none⟩ (.slice (some ⟨g,0,none⟩) (L.length+1) cap)) R B base s root L own r (.slice (some ⟨g,0,none⟩) (L.length+1) cap):=by
 have hR:=h.R_lt;have hB:=h.B_lt;have hz:=g1.size;have hz1:=hg.size;have hRB:R≠B:=fun e=>by have h1:=h.oR;rw[e,h.oB]at h1;omega
 have hg0:own g=3∨(own g=0∧w.heap.size≤g):=by
  rcases hat with ha|ha
  · exact .inl (h.oN g ha)
  by_cases e:own g=0
  · exact .inr ⟨e,by omega⟩
  have:=(h.lt g e).2;omega
 have hgR:g≠R:=fun e=>by subst e;rw[h.oR]at hg0;omega
 have hgB:g≠B:=fun e=>by subst e;rw[h.oB]at hg0;omega
 have hold:∀k,k<w.heap.size→k≠R→own k≠3→(w1.setCell ⟨R,0,none⟩ (.slice (some ⟨g,0,none⟩) (L.length+1) cap)).heap[k]?=w.heap[k]?:=by
  intro k hk hkR h3;rw[Below.heap_setCell _ _ _ _ (by simpa using hkR),hg.block k (by omega) (fun e=>h3 (h.oN k e.symm)),g1.block hk]
 have hu1:∀k,r.uv.ownBlock=some k→k≠g:=fun k e e2=>by
  have:=hu0 k e;subst e2;omega
 refine⟨fun k=>if r.uv.ownBlock=some k then 6+3*L.length else if k=g then 3 else own k,⟨?_,?_,?_,?_,?_,?_,?_,?_⟩,?_,?_⟩
 · have hb:w1.heap[R]?=some (.cells #[nv,.int .i64 root,.string s,.map (some B)] 75 (0,0)):=by
    rw[hg.block R (by omega) (fun e=>by have:=h.oN R e.symm;rw[h.oR]at this;omega),g1.block hR.2];exact h.blk
   simpa using block_setCell (i:=0) hb (.slice (some ⟨g,0,none⟩) (L.length+1) cap)
 · have:r.uv.ownBlock≠some R:=fun e=>by have:=hu0 R e;rw[h.oR]at this;omega
   simp only[this,if_false];rw[if_neg (Ne.symm hgR)];exact h.oR
 · have:r.uv.ownBlock≠some B:=fun e=>by have:=hu0 B e;rw[h.oB]at this;omega
   simp only[this,if_false];rw[if_neg (Ne.symm hgB)];exact h.oB
 · have e:ndsV (L++[r])=ndsV L++ndV r:=by simp[ndsV]
   rw[e,List.length_append,List.length_singleton];exact ownsRow_setCell_ne hrow (fun k hk=>by simp[Value.ownBlock]at hk;subst hk;exact hgR) _
 · intro k hk;simp[Value.ownBlock]at hk;subst hk;have:r.uv.ownBlock≠some g:=fun e=>hu1 g e rfl
   simp only[this,if_false,if_true]
 · obtain⟨D,h1,h2,h3,h4⟩:=h.map;refine⟨D,?_,h2,?_,?_⟩
   · exact ownsMap_of_block (h1.mono (by rw[cntO_append];omega)) (hold B hB.2 (Ne.symm hRB) (by rw[h.oB];omega))
   · intro i hi;exact h3 i (by simp at hi;omega)
   intro i x hx;rw[List.getElem?_append]at hx
   split at hx
   · exact h4 i x hx
   have:i=L.length:=by
    have:=List.getElem?_eq_some_iff.1 hx;obtain⟨h5,_⟩:=this;simp at h5;omega
   subst this;simp at hx;subst hx;rw[h3 L.length (Nat.le_refl _),ho0];rfl
 · intro i x hx;rw[List.getElem?_append]at hx
   split at hx
   · rename_i hi
     have hr:=h.rows i x hx;have tag:∀v t,Tagged own v t→t≠0→t≠3→Tagged (fun k=>if r.uv.ownBlock=some k then 6+3*L.length else if k=g then 3 else own k) v t:=by
      intro v t ht h0 h3 k hk;have h5:=ht k hk;have h6:r.uv.ownBlock≠some k:=fun e=>by have:=hu0 k e;omega
      have h7:k≠g:=fun e=>by subst e;omega
      simp only[h6,if_false];rw[if_neg h7];exact h5
     have kp:∀ {e size n v xs t},w.ownsRow base e size v n xs→Tagged own v t→4≤t→(w1.setCell ⟨R,0,none⟩ (.slice (some ⟨g,0,none⟩) (L.length+1) cap)).ownsRow base e size v n xs:=by
      intro e size n v xs t ho ht h4;refine ownsRow_of_block ho fun k hk=>hold k ?_ ?_ ?_
      · exact (h.lt k (by rw[ht k hk];omega)).2
      · intro e;subst e;have:=ht k hk;rw[h.oR]at this;omega
      rw[ht k hk];omega
     have kc:∀ {e size n v xs t},RowC w base e size v n xs→Tagged own v t→4≤t→RowC (w1.setCell ⟨R,0,none⟩ (.slice (some ⟨g,0,none⟩) (L.length+1) cap)) base e size v n xs:=by
      intro e size n v xs t ho ht h4;refine ho.of_block fun k hk=>hold k ?_ ?_ ?_
      · exact (h.lt k (by rw[ht k hk];omega)).2
      · intro e;subst e;have:=ht k hk;rw[h.oR]at this;omega
      rw[ht k hk];omega
     exact⟨kp hr.k hr.tk (by omega),kp hr.s hr.ts (by omega),kc hr.u hr.tu (by omega),fun h8=>kp (hr.u8 h8) hr.tu (by omega),tag _ _ hr.tk (by omega) (by omega),tag _ _ hr.ts (by omega) (by omega),tag _ _ hr.tu (by omega) (by omega)⟩
   have hiL:i=L.length:=by
    obtain⟨h5,_⟩:=List.getElem?_eq_some_iff.1 hx;simp at h5;omega
   subst hiL;simp at hx;subst hx;refine⟨by rw[hk,hk0];exact nilRow _ _ _ _,by rw[hsv,hs0];exact nilRow _ _ _ _,?_,?_,by rw[hk];exact tag_nil _ _,by rw[hsv];exact tag_nil _ _,?_⟩
   · refine hu.of_block fun k e=>hold k (hu0 k e).2 (fun e2=>?_) (by rw[(hu0 k e).1];omega)
     have:=(hu0 k e).1;subst e2;rw[h.oR]at this;omega
   · intro h8;refine ownsRow_of_block (hu8 h8) fun k e=>hold k (hu0 k e).2 (fun e2=>?_) (by rw[(hu0 k e).1];omega)
     have:=(hu0 k e).1;subst e2;rw[h.oR]at this;omega
   intro k e;simp only[e,if_true]
 · intro k hk;have hs2:(w1.setCell ⟨R,0,none⟩ (.slice (some ⟨g,0,none⟩) (L.length+1) cap)).heap.size=w1.heap.size:=by simp[World.setCell]
   rw[hs2]
   split at hk
   · rename_i e
     have h5:=(hu0 k e).2;exact⟨(hu.lt k e).1,by omega⟩
   split at hk
   · rename_i e
     subst e;refine⟨?_,hlt⟩;rcases hrow.2 with⟨h6,_⟩|⟨g5,c5,u5,h6,h7,_⟩
     · cases h6
     cases h6;exact h7
   have:=h.lt k hk;exact⟨this.1,by omega⟩
 · refine⟨?_,?_,?_,?_,?_,?_⟩
   · exact hg.os.trans (Below.os g1)
   · exact hg.tape.trans (Below.tape g1)
   · exact hg.output.trans (Below.output g1)
   · have:(w1.setCell ⟨R,0,none⟩ (.slice (some ⟨g,0,none⟩) (L.length+1) cap)).heap.size=w1.heap.size:=by simp[World.setCell]
     omega
   · intro k hk hn;refine hold k hk (fun e=>hn (.inl ?_)) (fun e=>hn (.inl ?_))
     · subst e;unfold FV;rw[h.oR];omega
     unfold FV;omega
   intro k hk;unfold FV at hk
   replace hk:(if r.uv.ownBlock=some k then 6+3*L.length else if k=g then 3 else own k)≠0:=hk
   split at hk
   · rename_i e;exact .inl (.inr e)
   split at hk
   · rename_i e
     subst e;rcases hg0 with h5|h5
     · exact .inl (.inl (by unfold FV;omega))
     exact .inr h5.2
   exact .inl (.inl hk)
 intro k hk
 replace hk:(if r.uv.ownBlock=some k then 6+3*L.length else if k=g then 3 else own k)≠0:=hk
 split at hk
 · rename_i e;exact .inr (.inl e)
 split at hk
 · rename_i e
   subst e;rcases hg0 with h5|h5
   · exact .inl (by omega)
   exact .inr (.inr h5.2)
 exact .inl hk
end Go.Proofs.YtdgjgcepbkanhaaGreatDoor
