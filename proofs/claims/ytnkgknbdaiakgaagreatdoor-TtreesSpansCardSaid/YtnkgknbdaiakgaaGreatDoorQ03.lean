/- The proof's part 03. -/
import Derived.Test.YtnkgknbdaiakgaaGreatDoorQ01
import Derived.Test.YtnkgknbdaiakgaaGreatDoorProg
import Derived.Lib.Hide
import Derived.Lib.IndexBytes
set_option maxHeartbeats 16000000
set_option linter.all false
namespace Go.Proofs.YtnkgknbdaiakgaaGreatDoor
open Pl Go.RowKit
abbrev fv(c p:Nat):Value := .agg #[c,p]
abbrev f0:Value := .agg #[(0:Int),(0:Int)]
abbrev bs(s:ByteArray):List UInt8:=s.data.toList
def Gr(w w':World):Prop:=Below w w w'
theorem Gr.refl(w:World):Gr w w:=Below.refl _ _
theorem Gr.trans{a b c:World}(h:Gr a b)(k:Gr b c):Gr a c:=Below.trans h (Below.mono k h.size)
theorem Gr.alloc{a b:World}(h:Gr a b)(o:Obj):Gr a (b.alloc o):=Below.alloc h h.size o
theorem Gr.drew{a b:World}(h:Gr a b):Gr a b.drew:=Below.drew h
theorem Gr.drewN{a b:World}(h:Gr a b)(n:Nat):Gr a (b.drewN n):=⟨h.os,h.tape,h.output,h.size,h.block⟩
theorem Gr.setCell{a b:World}(h:Gr a b){p:Addr}(hp:a.heap.size<=p.block)(v:Value):Gr a (b.setCell p v):=Below.setCell h hp v
theorem Gr.size{a b:World}(h:Gr a b):a.heap.size<=b.heap.size:=Below.size h
theorem Gr.block{a b:World}(h:Gr a b){k:Nat}(hk:k<a.heap.size):b.heap[k]?=a.heap[k]?:=Below.block h k hk
theorem Gr.use{W w1:World}(hb:Gr W w1):(∀b o,b<W.heap.size->w1.cell? ⟨b,o,none⟩=W.cell? ⟨b,o,none⟩)/\(∀b o,b<W.heap.size->w1.frozen? ⟨b,o,none⟩=W.frozen? ⟨b,o,none⟩)/\W.heap.size<=w1.heap.size :=
 ⟨λ b o h=>Below.cell hb (p:=⟨b,o,none⟩) h,λ b o h=>Below.frozen hb (p:=⟨b,o,none⟩) h,Below.size hb⟩
theorem O5j{P:Program}{f:FuncId}{args:Array Value}{W W0:World}{v:Value}(h:Calls P f args W λ e w'=>e=.returned v/\W=w')(hW:∃n,W=W0.drewN n):Calls P f args W λ e Hl=>e=.returned v/\∃m,Hl=W0.drewN m :=
 h.mono λ _ _ ⟨he,hm⟩=>⟨he,hW.elim λ n hn=>⟨n,by rw[<-hm,hn]⟩⟩
theorem O36{P:Program}{f:FuncId}{args:Array Value}{W W0:World}{v:Value}{a:Nat}(h:Calls P f args W λ e w'=>e=.returned v/\W=w')(hW:∃n,W=W0.drewN (a+n)):Calls P f args W λ e Hl=>e=.returned v/\∃m,Hl=W0.drewN (a+m) :=
 h.mono λ _ _ ⟨he,hm⟩=>⟨he,hW.elim λ n hn=>⟨n,by rw[<-hm,hn]⟩⟩
structure St(F F':Nat->Prop)(a b:World):Prop where
 os:b.os=a.os
 tape:b.tape=a.tape
 output:b.output=a.output
 size:a.heap.size<=b.heap.size
 block:∀k,k<a.heap.size->¬F k->b.heap[k]?=a.heap[k]?
 own:∀k,F' k->F k\/a.heap.size<=k
theorem St.refl(F:Nat->Prop)(a:World):St F F a a:=⟨rfl,rfl,rfl,U12 _,λ _ _ _=>rfl,λ _ h => .inl h⟩
theorem St.trans{F F' BX:Nat->Prop}{a b c:World}(h:St F F' a b)(k:St F' BX b c):St F BX a c :=
 ⟨k.os.trans h.os,k.tape.trans h.tape,k.output.trans h.output,U1l h.size k.size,
  λ i hi hn=>(k.block i (U13 hi h.size) (λ hF=>(h.own i hF).elim hn (λ e=>by omega))).trans (h.block i hi hn),
  λ i hi=>(k.own i hi).elim (λ e=>h.own i e) (λ e => .inr (U1l h.size e))⟩
theorem Gr.st{F:Nat->Prop}{a b:World}(h:Gr a b):St F F a b :=
 ⟨Below.os h,Below.tape h,Below.output h,Below.size h,λ k hk _=>h.block hk,λ _ h => .inl h⟩
theorem St.gr{F F':Nat->Prop}{a b c:World}(h:St F F' a b)(k:Gr b c):St F F' a c:=h.trans k.st
theorem St.alloc{F F':Nat->Prop}{a b:World}(h:St F F' a b)(o:Obj):St F F' a (b.alloc o):=h.gr ((Gr.refl b).alloc o)
theorem St.drew{F F':Nat->Prop}{a b:World}(h:St F F' a b):St F F' a b.drew:=h.gr (Gr.refl b).drew
theorem St.drewN{F F':Nat->Prop}{a b:World}(h:St F F' a b)(n:Nat):St F F' a (b.drewN n):=h.gr ((Gr.refl b).drewN n)
theorem St.setCell{F F':Nat->Prop}{a b:World}(h:St F F' a b){p:Addr}(hp:F p.block\/a.heap.size<=p.block)(v:Value):St F F' a (b.setCell p v):=by
 refine⟨h.os,h.tape,h.output,U1l h.size (by simp[World.setCell]),λ k hk hn=>?_,h.own⟩;rw[U15 _ _ _ _ (λ e=>by subst e;rcases hp with hp|hp;exact hn hp;omega)];exact h.block k hk hn
theorem St.grown{F F':Nat->Prop}{a b c:World}{row:Option Nat}(h:St F F' a b)(g:b.grownBy c row)(hr:∀k,row=some k->F k\/a.heap.size<=k):St F F' a c:=by
 refine⟨g.os.trans h.os,g.tape.trans h.tape,g.output.trans h.output,U1l h.size g.size,λ k hk hn=>?_,h.own⟩;rw[g.block k (U13 hk h.size) (λ e=>(hr k e.symm).elim hn (λ e=>by omega))];exact h.block k hk hn
theorem St.to{F F' BX:Nat->Prop}{a b:World}(h:St F F' a b)(k:∀i,BX i->F i\/a.heap.size<=i):St F BX a b:=⟨h.os,h.tape,h.output,h.size,h.block,k⟩
theorem St.use{F F':Nat->Prop}{a b:World}(h:St F F' a b)(k:Nat)(hk:k<a.heap.size)(hn:¬F k):(∀o,b.cell? ⟨k,o,none⟩=a.cell? ⟨k,o,none⟩)/\(∀o,b.frozen? ⟨k,o,none⟩=a.frozen? ⟨k,o,none⟩) :=
 ⟨λ o=>U1r (w:=a) (a:=⟨k,o,none⟩) (h.block k hk hn),λ o=>U33 (w:=a) (a:=⟨k,o,none⟩) (h.block k hk hn)⟩
theorem St.below{F F':Nat->Prop}{a b w:World}(h:St F F' a b)(g:Gr w a)(hF:∀k,F k->w.heap.size<=k):Gr w b :=
 Below.trans g ⟨h.os,h.tape,h.output,h.size,λ k hk=>h.block k (U13 hk g.size) (λ e=>by have:=hF k e;omega)⟩
theorem O3l{a b:Bool}(h:a=b):Ending.returned (.bool a)=.returned (.bool b):=by rw[h]
theorem O2q{k:IntKind}{a b:Int}(h:a=b):Ending.returned (.int k a)=.returned (.int k b):=by rw[h]
theorem V1u(x y:Nat)(b:Bool)(h:(x==y)=b):((x:Int)==(y:Int))=b/\((x:Int) != (y:Int)) = !b:=by
 cases b
 simp at h;simp;omega
 simp at h;simp[h]
theorem O9e(s:ByteArray)(n:Nat):(s.extract n s.size).size=s.size-n:=Yb
theorem O4(s:ByteArray)(n:Nat):bs (s.extract n s.size)=(bs s).drop n:=by
 simp only[bs,U36];rw[List.take_of_length_le Yb]
theorem O8(s:ByteArray)(a:Nat)(h:a<s.size):(bs s).drop a=s[a]::(bs s).drop (a+1):=by
 rw[U1u (by simpa [bs]using h)];rfl
theorem O0(s:ByteArray):(bs s).length=s.size:=by simp[bs]
theorem Gr.auto{a b:World}(h:Gr a b:=by (repeat (first|exact Gr.refl _|assumption|refine Gr.drew ?_|refine Gr.drewN ?_ _|refine Gr.alloc ?_ _|(refine Gr.setCell ?_ Yf _)|refine Gr.trans ?_ Yl))):Gr a b:=h
theorem St.auto{F F':Nat->Prop}{a b:World}(h:St F F' a b:=by (repeat (first|exact St.refl _ _|assumption|exact Gr.st Yl|refine St.drew ?_|refine St.drewN ?_ _|refine St.alloc ?_ _|(refine St.setCell ?_ (.inr Yf) _)|refine St.trans ?_ Yl|refine St.gr ?_ Yl))):St F F' a b:=h
