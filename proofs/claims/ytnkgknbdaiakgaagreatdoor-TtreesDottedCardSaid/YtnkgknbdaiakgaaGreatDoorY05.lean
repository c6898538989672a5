/- The proof's part 05. -/
import Derived.Test.YtnkgknbdaiakgaaGreatDoorY06
import Derived.Lib.SmallJoins
import Derived.Deep.DrawnRows
set_option maxHeartbeats 16000000
set_option linter.all false
set_option maxRecDepth 100000
namespace Go.Proofs.YtnkgknbdaiakgaaGreatDoor
section
open Pl Go.Proofs.Tryz Go.RowKit Go.Joins
structure NdR where
 nd:Pl.Nd
 kv:Value
 sv:Value
 uv:Value
abbrev V3h(l:Pl.Bs):Value := .string ⟨l.toArray⟩
def ndV(r:NdR):List Value:=[.int .u8 r.nd.kind,V3h r.nd.text,r.kv,r.sv,r.uv,.int .i64 r.nd.sp.1,.int .i64 r.nd.sp.2]
def V3a(L:List NdR):List Value:=L.flatMap ndV
def Oj(l:List Pl.Bs):List Value:=l.map V3h
def Oc(l:List (Nat×Nat)):List Value:=l.flatMap λ p=>[.int .i64 p.1,.int .i64 p.2]
def O8(l:List Nat):List Value:=l.map λ(i:Nat) => .int .i64 i
theorem O1f(r:NdR):(ndV r).length=7:=rfl
theorem O4f(L:List NdR):(V3a L).length=L.length*7:=by
 unfold V3a
 induction L with
 |nil=>rfl
 |cons r L ih=>rw[U37,U1c,ih,O1f,U17];omega
theorem O7m(L:List NdR)(i j:Nat)(hj:j<7):(V3a L)[i*7+j]?=(L[i]?).bind λ r=>(ndV r)[j]?:=by
 induction L generalizing i with
 |nil=>simp[V3a]
 |cons r L ih =>
  have e:V3a (r::L)=ndV r++V3a L:=by simp[V3a]
  rw[e];cases i with
  |zero=>rw[U1d (by rw[O1f];omega)];simp
  |succ i =>
   rw[U21 (by rw[O1f];omega),O1f,show (i+1)*7+j-7=i*7+j from by omega,ih];rfl
theorem O1y(L:List NdR)(i j:Nat)(hj:j<7)(v:Value)(r r':NdR)(hr:L[i]?=some r)(he:(ndV r).set j v=ndV r'):(V3a L).set (i*7+j) v=V3a (L.set i r'):=by
 induction L generalizing i with
 |nil=>simp at hr
 |cons x L ih =>
  have e:∀(y:NdR)(M:List NdR),V3a (y::M)=ndV y++V3a M:=by intro y M;simp[V3a]
  rw[e];cases i with
  |zero =>
   simp at hr;subst hr;rw[List.set_append_left _ _ (by rw[O1f];omega),U34,e,<-he];simp
  |succ i =>
   rw[U4i _ _ (by rw[O1f];omega),O1f,show (i+1)*7+j-7=i*7+j from by omega,ih i (by simpa using hr),U3h,e]
def Ok(own:Nat->Nat)(v:Value)(t:Nat):Prop:=∀k,v.ownBlock=some k->own k=t
def V2f(w:World)(base e size:Nat)(v:Value)(n:Nat)(xs:List Value):Prop :=
 ∃v0,w.ownsRow base e size v0 n xs/\v0.ownBlock=v.ownBlock/\(v=v0\/∃g c,v0=.slice (some ⟨g,0,none⟩) n c/\v=.slice (some ⟨g,0,none⟩) n n)
structure V6a(w:World)(base:Nat)(own:Nat->Nat)(i:Nat)(r:NdR):Prop where
 k:w.ownsRow base 9 1 r.kv r.nd.keys.length (Oj r.nd.keys)
 s:w.ownsRow base 38 2 r.sv r.nd.spots.length (Oc r.nd.spots)
 u:V2f w base 3 1 r.uv r.nd.subs.length (O8 r.nd.subs)
 u8:r.nd.kind=8->w.ownsRow base 3 1 r.uv r.nd.subs.length (O8 r.nd.subs)
 tk:Ok own r.kv (4+3*i)
 ts:Ok own r.sv (5+3*i)
 tu:Ok own r.uv (6+3*i)
abbrev V6b:=DataW Unit
def Omb(D:V6b)(L:List NdR):Prop:=Maps.IsMap D/\(∀i:Nat,L.length<=i->D.atKey i (.lit (0:Int))=.lit (0:Int)) /\
 ∀(i:Nat) r,L[i]?=some r->D.atKey i (.lit (0:Int))=.lit r.nd.owner
def V4t(L:List NdR):Nat:=(L.filter λ r=>r.nd.owner != 0).length
theorem O2d(L M:List NdR):V4t (L++M)=V4t L+V4t M:=by simp[V4t]
theorem On0(L:List NdR):V4t L<=L.length:=List.length_filter_le _ _
theorem O7n:∀(L:List NdR)(i:Nat)(r r':NdR),L[i]?=some r->V4t (L.set i r')+V4t [r]=V4t L+V4t [r']
 |[],i,_,_,h=>by simp at h
 | x::L,0,r,r',h=>by
  simp only[U2e,U1f]at h;subst h;rw[U34,<-U4j,<-U4j (l:=L),O2d,O2d];omega
 | x::L,i+1,r,r',h=>by
  have:=O7n L i r r' (by simpa using h);rw[U3h,<-U4j,<-U4j (l:=L),O2d,O2d];omega
theorem Ojz(r r':NdR)(h:r'.nd.owner=r.nd.owner):V4t [r']=V4t [r]:=by
 simp only[V4t,List.filter_cons,List.filter_nil,h];cases r.nd.owner != 0 <;> rfl
theorem Oab(L:List NdR)(i:Nat)(r r':NdR)(hr:L[i]?=some r)(h:r'.nd.owner=r.nd.owner):V4t (L.set i r')=V4t L:=by
 have:=O7n L i r r' hr;have:=Ojz r r' h;omega
structure RdV(w:World)(R B base:Nat)(s:ByteArray)(root:Int)(nv:Value)(L:List NdR)(own:Nat->Nat):Prop where
 blk:w.heap[R]?=some (.cells #[nv,root,.string s,.map (some B)] 80 (0,0))
 oR:own R=1
 oB:own B=2
 nodes:w.ownsRow base 40 7 nv L.length (V3a L)
 oN:Ok own nv 3
 map:∃D:V6b,w.ownsMap prog 3 (plainElem (H:=Unit) prog 3) B (V4t L) D/\Omb D L
 rows:∀(i:Nat) r,L[i]?=some r->V6a w base own i r
 lt:∀k,own k≠0->base<=k/\k<w.heap.size
def FV(own:Nat->Nat)(k:Nat):Prop:=own k≠0
theorem O1{w w':World}{base e size n:Nat}{v:Value}{xs:List Value}(h:w.ownsRow base e size v n xs)(hb:∀k,v.ownBlock=some k->w'.heap[k]?=w.heap[k]?):w'.ownsRow base e size v n xs:=by
 refine⟨h.1,?_⟩;rcases h.2 with hn|⟨g,cap,cur,rfl,cn,xt,rest⟩
 exact .inl hn
 exact .inr ⟨g,cap,cur,rfl,cn,by rw[hb g rfl];exact xt,rest⟩
theorem V2f.of_block{w w':World}{base e size n:Nat}{v:Value}{xs:List Value}(h:V2f w base e size v n xs)(hb:∀k,v.ownBlock=some k->w'.heap[k]?=w.heap[k]?):V2f w' base e size v n xs:=by
 obtain⟨v0,h1,h2,h3⟩:=h;exact⟨v0,O1 h1 (λ k e=>hb k (by rw[<-h2];exact e)),h2,h3⟩
theorem O16{w:World}{base e size n:Nat}{v:Value}{xs:List Value}(h:w.ownsRow base e size v n xs):V2f w base e size v n xs:=⟨v,h,rfl,.inl rfl⟩
theorem V2f.lt{w:World}{base e size n:Nat}{v:Value}{xs:List Value}(h:V2f w base e size v n xs):∀k,v.ownBlock=some k->base<=k/\k<w.heap.size:=by
 obtain⟨v0,h1,h2,_⟩:=h;intro k hk;exact h1.lt k (by rw[h2];exact hk)
theorem V2f.cells{w:World}{base e size n:Nat}{v:Value}{xs:List Value}(h:V2f w base e size v n xs){g:Nat}(hg:v.ownBlock=some g):∀j u,xs[j]?=some u->w.cell? ⟨g,j,none⟩=some u:=by
 obtain⟨v0,h1,h2,_⟩:=h;intro j u hu;have:=h1.cells (g:=g) (by rw[h2];exact hg) j u hu
 rwa [U4g,U1q]at this
theorem V2f.form{w:World}{base e size n:Nat}{v:Value}{xs:List Value}(h:V2f w base e size v n xs)(hn:0<n):∃g c,v=.slice (some ⟨g,0,none⟩) n c/\n<=c/\c<=maxLen:=by
 obtain⟨v0,h1,h2,h3⟩:=h;rcases h1.2 with⟨_,h0⟩|⟨g,cap,cur,hv,cn,xt,q1,q2,_⟩
 omega
 rcases h3 with rfl|⟨g',c',e1,e2⟩
 exact⟨g,cap,hv,q1,q2⟩
 exact⟨g',n,e2,U12 _,U1k q1 q2⟩
theorem Ot{w w':World}{k b n:Nat}{D:V6b}(h:w.ownsMap prog k (plainElem (H:=Unit) prog 3) b n D)(hb:w'.heap[b]?=w.heap[b]?):w'.ownsMap prog k (plainElem (H:=Unit) prog 3) b n D:=by
 exact J41
theorem V6a.kept{w w' base own i r}(h:V6a w base own i r)(hb:∀k,FV own k->w'.heap[k]?=w.heap[k]?):V6a w' base own i r :=
 ⟨O1 h.k λ k e=>hb k (by unfold FV;rw[h.tk k e];omega),O1 h.s λ k e=>hb k (by unfold FV;rw[h.ts k e];omega),h.u.of_block λ k e=>hb k (by unfold FV;rw[h.tu k e];omega),λ h8=>O1 (h.u8 h8) λ k e=>hb k (by unfold FV;rw[h.tu k e];omega),h.tk,h.ts,h.tu⟩
section
variable {w w':World}{R B base:Nat}{s:ByteArray}{root:Int}{nv:Value}{L:List NdR}{own:Nat->Nat}
theorem RdV.kept(h:RdV w R B base s root nv L own)(hb:∀k,FV own k->w'.heap[k]?=w.heap[k]?)(hz:w.heap.size<=w'.heap.size):RdV w' R B base s root nv L own:=by
 obtain⟨D,h1,h2⟩:=h.map;exact⟨by rw[hb R (by unfold FV;rw[h.oR];omega)];exact h.blk,h.oR,h.oB,O1 h.nodes λ k e=>hb k (by unfold FV;rw[h.oN k e];omega),h.oN,
  ⟨D,Ot h1 (hb B (by unfold FV;rw[h.oB];omega)),h2⟩,λ i r hr=>(h.rows i r hr).kept hb,λ k hk=>⟨(h.lt k hk).1,U13 (h.lt k hk).2 hz⟩⟩
theorem RdV.gr(h:RdV w R B base s root nv L own)(g:Gr w w'):RdV w' R B base s root nv L own:=h.kept (λ k hk=>g.block (h.lt k hk).2) g.size
theorem RdV.alloc(h:RdV w R B base s root nv L own)(o:Obj):RdV (w.alloc o) R B base s root nv L own:=h.gr ((Gr.refl w).alloc o)
theorem RdV.drew(h:RdV w R B base s root nv L own):RdV w.drew R B base s root nv L own:=h.gr (Gr.refl w).drew
theorem RdV.drewN(h:RdV w R B base s root nv L own)(n:Nat):RdV (w.drewN n) R B base s root nv L own:=h.gr ((Gr.refl w).drewN n)
theorem RdV.setCell(h:RdV w R B base s root nv L own){p:Addr}(hp:¬FV own p.block)(v:Value):RdV (w.setCell p v) R B base s root nv L own :=
 h.kept (λ k hk=>U14 _ _ _ _ (λ e=>by subst e;exact hp hk)) (by simp[World.setCell])
theorem RdV.not_new(h:RdV w R B base s root nv L own){k:Nat}(hk:w.heap.size<=k):¬FV own k:=λ e=>by have:=h.lt k e;omega
theorem RdV.R_lt(h:RdV w R B base s root nv L own):base<=R/\R<w.heap.size:=h.lt R (by rw[h.oR];omega)
theorem RdV.B_lt(h:RdV w R B base s root nv L own):base<=B/\B<w.heap.size:=h.lt B (by rw[h.oB];omega)
theorem RdV.cells(h:RdV w R B base s root nv L own):w.cell? R=some nv/\w.cell? ⟨R,1,none⟩=some (.int .i64 root)/\w.cell? ⟨R,2,none⟩=some (.string s)/\w.cell? ⟨R,3,none⟩=some (.map (some B))/\(∀i,w.frozen? ⟨R,i,none⟩=false) :=
 ⟨by rw[cell_of_block h.blk];rfl,by rw[cell_of_block h.blk];rfl,by rw[cell_of_block h.blk];rfl,by rw[cell_of_block h.blk];rfl,λ i=>unfrozen_of_block h.blk i⟩
theorem RdV.look(h:RdV w R B base s root nv L own)(i:Nat)(hi:i<=9223372036854775807)(r:NdR)(hr:L[i]?=some r)(W:World)(hW:W.heap[B]?=w.heap[B]?):(Instr.lookup 78 (.map (some B)) i false).run prog W=.ok r.nd.owner W:=by
 obtain⟨D,h1,h2⟩:=h.map;have pv:=Ot (w':=W) h1 hW;have hz:(zeroValue 3).run prog W=.ok (0:Int) W:=Yc;obtain⟨c,e1,e2,e3⟩:=pv.lookup_int (Maps.int_keyed underlying3) underlying78 underlying3 hz (U4k underlying3 (show (Lit.int .i64 (i:Int)).wf=true by simp[Lit.wf,IntKind.min,IntKind.max,IntKind.signed,IntKind.bits];omega));rw[h2.2.2 i r hr]at e2;cases e2;exact e1
theorem RdV.form(h:RdV w R B base s root nv L own)(hL:0<L.length):∃g cap cur,nv=.slice (some ⟨g,0,none⟩) L.length cap/\base<=g/\g<w.heap.size/\own g=3/\g≠R/\g≠B /\w.heap[g]?=some (.cells cur 40 (0,0))/\cur.size=cap*7/\L.length<=cap/\cap<=maxLen/\cur.toList.take (L.length*7)=V3a L:=by
 exact J42
theorem RdV.ndCells(h:RdV w R B base s root nv L own){g cap:Nat}(hv:nv=.slice g L.length cap)(i:Nat)(r:NdR)(hr:L[i]?=some r):w.cell? ⟨g,i*7,none⟩=some (.int .u8 r.nd.kind)/\w.cell? ⟨g,i*7+1,none⟩=some (V3h r.nd.text)/\w.cell? ⟨g,i*7+2,none⟩=some r.kv/\w.cell? ⟨g,i*7+3,none⟩=some r.sv/\w.cell? ⟨g,i*7+4,none⟩=some r.uv /\w.cell? ⟨g,i*7+5,none⟩=some (.int .i64 r.nd.sp.1)/\w.cell? ⟨g,i*7+6,none⟩=some (.int .i64 r.nd.sp.2)/\(∀o,w.frozen? ⟨g,o,none⟩=false):=by
 exact J143
end
theorem Or(w:World)(base e size:Nat):w.ownsRow base e size (.slice none 0 0) 0 []:=World.ownsRow_nil _ _ _ _
theorem O6x(own:Nat->Nat)(t:Nat):Ok own (.slice none 0 0) t:=λ k h=>by simp[Value.ownBlock]at h
theorem Od{w:World}{base e size n:Nat}{v:Value}{xs:List Value}(h:w.ownsRow base e size v n xs){p:Addr}(hp:∀k,v.ownBlock=some k->k≠p.block)(x:Value):(w.setCell p x).ownsRow base e size v n xs :=
 O1 h λ k hk=>U14 _ _ _ _ (hp k hk)
def O7r(w w2:World)(R B base:Nat)(s:ByteArray)(root:Int)(L:List NdR)(own:Nat->Nat)(r:NdR)(nv':Value):Prop :=
 ∃own',RdV w2 R B base s root nv' (L++[r]) own'/\St (λ k=>FV own k\/r.uv.ownBlock=some k) (FV own') w w2/\(∀k,own' k≠0->own k≠0\/r.uv.ownBlock=some k\/w.heap.size<=k)
theorem RdV.appended{w W w1:World}{R B base:Nat}{s:ByteArray}{root:Int}{nv:Value}{L:List NdR}{own:Nat->Nat}(h:RdV w R B base s root nv L own)(g1:Gr w W)(r:NdR)(hk:r.kv=.slice none 0 0)(kT:r.sv=.slice none 0 0)(dp:r.nd.keys=[])(fe:r.nd.spots=[])(Ey:r.nd.owner=0)(hu:V2f w base 3 1 r.uv r.nd.subs.length (O8 r.nd.subs))(Ez:r.nd.kind=8->w.ownsRow base 3 1 r.uv r.nd.subs.length (O8 r.nd.subs))(kD:∀k,r.uv.ownBlock=some k->own k=0/\k<w.heap.size)(g cap:Nat)(bZ:w1.ownsRow base 40 7 (.slice g (L.length+1) cap) (L.length+1) (V3a L++ndV r))(hg:W.grownBy w1 nv.ownBlock)(cR:nv.ownBlock=some g\/g=W.heap.size)(aa:g<w1.heap.size):O7r w (w1.setCell R (.slice g (L.length+1) cap)) R B base s root L own r (.slice g (L.length+1) cap):=by
 have hR:=h.R_lt;have hB:=h.B_lt;have hz:=g1.size;have ax:=hg.size;have vk:R≠B:=λ e=>by have h1:=h.oR;rw[e,h.oB]at h1;omega
 have ei:own g=3\/(own g=0/\w.heap.size<=g):=by
  exact J55
 have nY:g≠R:=λ e=>by subst e;rw[h.oR]at ei;omega
 have ti:g≠B:=λ e=>by subst e;rw[h.oB]at ei;omega
 refine Z170 ?_;intro cC;have GG:∀k,r.uv.ownBlock=some k->k≠g:=λ k e e2=>by
  have:=kD k e;subst e2;omega
 refine⟨λ k=>if r.uv.ownBlock=some k then 6+3*L.length else if k=g then 3 else own k,⟨?_,?_,?_,?_,?_,?_,?_,?_⟩,?_,?_⟩
 have hb:w1.heap[R]?=some (.cells #[nv,root,.string s,.map (some B)] 80 (0,0)):=by
  exact J54
 exact J53
 have:r.uv.ownBlock≠some R:=λ e=>by have:=kD R e;rw[h.oR]at this;omega
 simp only[this,U2c];rw[U1b (U3p nY)];exact h.oR
 have:r.uv.ownBlock≠some B:=λ e=>by have:=kD B e;rw[h.oB]at this;omega
 simp only[this,U2c];rw[U1b (U3p ti)];exact h.oB
 have e:V3a (L++[r])=V3a L++ndV r:=by simp[V3a]
 rw[e,U1c,U25];exact J52
 intro k hk;simp[Value.ownBlock]at hk;subst hk;have:r.uv.ownBlock≠some g:=λ e=>GG g e rfl
 simp only[this,U2c,U2i]
 obtain⟨D,h1,h2,h3,h4⟩:=h.map;refine⟨D,?_,h2,?_,?_⟩;exact Ot (h1.mono (by rw[O2d];omega)) (cC B hB.2 (U3p vk) (by rw[h.oB];omega));intro i hi;exact h3 i (by simp at hi;omega)
 intro i x hx;rw[U3r]at hx
 split at hx;exact h4 i x hx
 have:i=L.length:=by
  have:=U16.1 hx;obtain⟨h5,_⟩:=this;simp at h5;omega
 subst this;simp at hx;subst hx;rw[h3 L.length (U12 _),Ey];rfl
 intro i x hx;rw[U3r]at hx
 split at hx
 rename_i hi
 have hr:=h.rows i x hx;have GH:∀v t,Ok own v t->t≠0->t≠3->Ok (λ k=>if r.uv.ownBlock=some k then 6+3*L.length else if k=g then 3 else own k) v t:=by
  intro v t ht h0 h3 k hk;have h5:=ht k hk;have h6:r.uv.ownBlock≠some k:=λ e=>by have:=kD k e;omega
  have h7:k≠g:=λ e=>by subst e;omega
  simp only[h6,U2c];rw[U1b h7];exact h5
 have kp:∀ {e size n v xs t},w.ownsRow base e size v n xs->Ok own v t->4<=t->(w1.setCell R (.slice g (L.length+1) cap)).ownsRow base e size v n xs:=by
  intro e size n v xs t ho ht h4;refine O1 ho λ k hk=>cC k ?_ ?_ ?_
  exact (h.lt k (by rw[ht k hk];omega)).2;intro e;subst e;have:=ht k hk;rw[h.oR]at this;omega
  rw[ht k hk];omega
 have kc:∀ {e size n v xs t},V2f w base e size v n xs->Ok own v t->4<=t->V2f (w1.setCell R (.slice g (L.length+1) cap)) base e size v n xs:=by
  intro e size n v xs t ho ht h4;refine ho.of_block λ k hk=>cC k ?_ ?_ ?_
  exact (h.lt k (by rw[ht k hk];omega)).2;intro e;subst e;have:=ht k hk;rw[h.oR]at this;omega
  rw[ht k hk];omega
 exact⟨kp hr.k hr.tk Ya,kp hr.s hr.ts Ya,kc hr.u hr.tu Ya,λ h8=>kp (hr.u8 h8) hr.tu Ya,GH _ _ hr.tk Ya Ya,GH _ _ hr.ts Ya Ya,GH _ _ hr.tu Ya Ya⟩
 have GJ:i=L.length:=by
  obtain⟨h5,_⟩:=U16.1 hx;simp at h5;omega
 subst GJ;simp at hx;subst hx;refine⟨by rw[hk,dp];exact Or _ _ _ _,by rw[kT,fe];exact Or _ _ _ _,?_,?_,by rw[hk];exact O6x _ _,by rw[kT];exact O6x _ _,?_⟩
 refine hu.of_block λ k e=>cC k (kD k e).2 (λ e2=>?_) (by rw[(kD k e).1];omega)
 have:=(kD k e).1;subst e2;rw[h.oR]at this;omega
 intro h8;refine O1 (Ez h8) λ k e=>cC k (kD k e).2 (λ e2=>?_) (by rw[(kD k e).1];omega)
 have:=(kD k e).1;subst e2;rw[h.oR]at this;omega
 intro k e;simp only[e,U2i]
 intro k hk;have eM:(w1.setCell R (.slice g (L.length+1) cap)).heap.size=w1.heap.size:=by simp[World.setCell]
 rw[eM]
 split at hk
 rename_i e
 have h5:=(kD k e).2;exact⟨(hu.lt k e).1,Ya⟩
 exact J153
 refine⟨?_,?_,?_,?_,?_,?_⟩;exact hg.os.trans (Below.os g1);exact hg.tape.trans (Below.tape g1);exact hg.output.trans (Below.output g1)
 have:(w1.setCell R (.slice g (L.length+1) cap)).heap.size=w1.heap.size:=by simp[World.setCell]
 omega;exact J176
 intro k hk;unfold FV at hk
 replace hk:(if r.uv.ownBlock=some k then 6+3*L.length else if k=g then 3 else own k)≠0:=hk
 split at hk;rename_i e;exact .inl (.inr e)
 exact J171
 intro k hk
 replace hk:(if r.uv.ownBlock=some k then 6+3*L.length else if k=g then 3 else own k)≠0:=hk
 split at hk;rename_i e;exact .inr (.inl e)
 exact J180
structure V24(w0 W:World)(base:Nat)(F:Nat->Prop)(kv sv uv:Value)(nk ns nu:Nat)(xk xs xu:List Value):Prop where
 st:St F (λ _=>False) w0 W
 k:W.ownsRow base 9 1 kv nk xk
 s:W.ownsRow base 38 2 sv ns xs
 u:W.ownsRow base 3 1 uv nu xu
 fk:∀b,kv.ownBlock=some b->F b\/w0.heap.size<=b
 fs:∀b,sv.ownBlock=some b->F b\/w0.heap.size<=b
 fu:∀b,uv.ownBlock=some b->F b\/w0.heap.size<=b
 ks:∀b,kv.ownBlock=some b->sv.ownBlock≠some b
 ku:∀b,kv.ownBlock=some b->uv.ownBlock≠some b
 su:∀b,sv.ownBlock=some b->uv.ownBlock≠some b
structure V3i(W:World)(b:Nat)(cs:Array Value)(T:TypeId)(kv sv uv:Value):Prop where
 blk:W.heap[b]?=some (.cells cs T (0,0))
 k:kv.ownBlock≠some b
 s:sv.ownBlock≠some b
 u:uv.ownBlock≠some b
section
variable {w0 W w1:World}{base:Nat}{F:Nat->Prop}{kv sv uv:Value}{nk ns nu:Nat}{xk xs xu:List Value}
theorem St.grownF{F F':Nat->Prop}{a b c:World}{row:Option Nat}(h:St F F' a b)(g:b.grownBy c row)(hr:∀k,row=some k->F k\/a.heap.size<=k):St F F' a c:=h.grown g hr
theorem V24.size(h:V24 w0 W base F kv sv uv nk ns nu xk xs xu):w0.heap.size<=W.heap.size:=h.st.size
theorem V24.alloc(h:V24 w0 W base F kv sv uv nk ns nu xk xs xu)(o:Obj):V24 w0 (W.alloc o) base F kv sv uv nk ns nu xk xs xu :=
 ⟨h.st.alloc o,h.k.alloc o,h.s.alloc o,h.u.alloc o,h.fk,h.fs,h.fu,h.ks,h.ku,h.su⟩
theorem V24.drew(h:V24 w0 W base F kv sv uv nk ns nu xk xs xu):V24 w0 W.drew base F kv sv uv nk ns nu xk xs xu :=
 ⟨h.st.drew,h.k,h.s,h.u,h.fk,h.fs,h.fu,h.ks,h.ku,h.su⟩
theorem V24.newB(h:V24 w0 W base F kv sv uv nk ns nu xk xs xu)(cs:Array Value)(T:TypeId):V3i (W.alloc (.cells cs T)) W.heap.size cs T kv sv uv :=
 ⟨U1z _ _,λ e=>by have:=(h.k.lt _ e).2;omega,λ e=>by have:=(h.s.lt _ e).2;omega,λ e=>by have:=(h.u.lt _ e).2;omega⟩
theorem V3i.lt{b:Nat}{cs:Array Value}{T:TypeId}(h:V3i W b cs T kv sv uv):b<W.heap.size:=(U1a.1 h.blk).1
theorem V3i.alloc{b:Nat}{cs:Array Value}{T:TypeId}(h:V3i W b cs T kv sv uv)(o:Obj):V3i (W.alloc o) b cs T kv sv uv :=
 ⟨((Gr.refl W).alloc o).block h.lt |>.trans h.blk,h.k,h.s,h.u⟩
theorem V3i.drew{b:Nat}{cs:Array Value}{T:TypeId}(h:V3i W b cs T kv sv uv):V3i W.drew b cs T kv sv uv:=⟨h.blk,h.k,h.s,h.u⟩
theorem O1r{base e size n:Nat}{v:Value}{xs:List Value}(h:W.ownsRow base e size v n xs){row:Option Nat}(hg:W.grownBy w1 row)(a8:∀b,row=some b->v.ownBlock≠some b):w1.ownsRow base e size v n xs :=
 h.kept hg (by cases hv:v.ownBlock with
  |none=>exact .inl rfl
  |some b=>exact .inr (λ e=>a8 b e.symm hv))
theorem V24.appK(h:V24 w0 W base F kv sv uv nk ns nu xk xs xu){g cap:Nat}{ys:List Value}(ho:w1.ownsRow base 9 1 (.slice g (nk+1) cap) (nk+1) ys)(hg:W.grownBy w1 kv.ownBlock)(cR:kv.ownBlock=some g\/g=W.heap.size):V24 w0 w1 base F (.slice g (nk+1) cap) sv uv (nk+1) ns nu ys xs xu:=by
 have er:F g\/w0.heap.size<=g:=by
  rcases cR with e|e
  exact h.fk g e
  exact .inr (by have:=h.size;omega)
 have hs:sv.ownBlock≠some g:=by
  rcases cR with e|e
  exact h.ks g e
  intro e2;have:=(h.s.lt g e2).2;omega
 have hu:uv.ownBlock≠some g:=by
  rcases cR with e|e
  exact h.ku g e
  intro e2;have:=(h.u.lt g e2).2;omega
 exact⟨h.st.grown hg h.fk,ho,O1r h.s hg h.ks,O1r h.u hg h.ku,λ b e=>by simp[Value.ownBlock]at e;subst e;exact er,h.fs,h.fu,
  λ b e=>by simp[Value.ownBlock]at e;subst e;exact hs,λ b e=>by simp[Value.ownBlock]at e;subst e;exact hu,h.su⟩
theorem V24.appS(h:V24 w0 W base F kv sv uv nk ns nu xk xs xu){g cap:Nat}{ys:List Value}(ho:w1.ownsRow base 38 2 (.slice g (ns+1) cap) (ns+1) ys)(hg:W.grownBy w1 sv.ownBlock)(cR:sv.ownBlock=some g\/g=W.heap.size):V24 w0 w1 base F kv (.slice g (ns+1) cap) uv nk (ns+1) nu xk ys xu:=by
 have er:F g\/w0.heap.size<=g:=by
  rcases cR with e|e
  exact h.fs g e
  exact .inr (by have:=h.size;omega)
 have hk:kv.ownBlock≠some g:=by
  rcases cR with e|e
  intro e2;exact h.ks g e2 e
  intro e2;have:=(h.k.lt g e2).2;omega
 have hu:uv.ownBlock≠some g:=by
  rcases cR with e|e
  exact h.su g e
  intro e2;have:=(h.u.lt g e2).2;omega
 exact⟨h.st.grown hg h.fs,O1r h.k hg (λ b e e2=>h.ks b e2 e),ho,O1r h.u hg h.su,h.fk,λ b e=>by simp[Value.ownBlock]at e;subst e;exact er,h.fu,
  λ b e e2=>by simp[Value.ownBlock]at e2;subst e2;exact hk e,h.ku,λ b e=>by simp[Value.ownBlock]at e;subst e;exact hu⟩
theorem V24.appU(h:V24 w0 W base F kv sv uv nk ns nu xk xs xu){g cap:Nat}{ys:List Value}(ho:w1.ownsRow base 3 1 (.slice g (nu+1) cap) (nu+1) ys)(hg:W.grownBy w1 uv.ownBlock)(cR:uv.ownBlock=some g\/g=W.heap.size):V24 w0 w1 base F kv sv (.slice g (nu+1) cap) nk ns (nu+1) xk xs ys:=by
 have er:F g\/w0.heap.size<=g:=by
  rcases cR with e|e
  exact h.fu g e
  exact .inr (by have:=h.size;omega)
 have hk:kv.ownBlock≠some g:=by
  rcases cR with e|e
  intro e2;exact h.ku g e2 e
  intro e2;have:=(h.k.lt g e2).2;omega
 have hs:sv.ownBlock≠some g:=by
  rcases cR with e|e
  intro e2;exact h.su g e2 e
  intro e2;have:=(h.s.lt g e2).2;omega
 exact⟨h.st.grown hg h.fu,O1r h.k hg (λ b e e2=>h.ku b e2 e),O1r h.s hg (λ b e e2=>h.su b e2 e),ho,h.fk,h.fs,λ b e=>by simp[Value.ownBlock]at e;subst e;exact er,
  h.ks,λ b e e2=>by simp[Value.ownBlock]at e2;subst e2;exact hk e,λ b e e2=>by simp[Value.ownBlock]at e2;subst e2;exact hs e⟩
theorem V3i.app{b g n cap:Nat}{cs:Array Value}{T:TypeId}(h:V3i W b cs T kv sv uv){v:Value}(hv:v.ownBlock≠some b)(hg:W.grownBy w1 v.ownBlock)(cR:v.ownBlock=some g\/g=W.heap.size):w1.heap[b]?=some (.cells cs T (0,0))/\(Value.slice g n cap).ownBlock≠some b:=by
 refine⟨by rw[hg.block b h.lt (λ e=>hv e.symm)];exact h.blk,λ e=>?_⟩;simp[Value.ownBlock]at e;subst e;rcases cR with e|e
 exact hv e
 have:=h.lt;omega
theorem V3i.appK{b g n cap:Nat}{cs:Array Value}{T:TypeId}(h:V3i W b cs T kv sv uv)(hg:W.grownBy w1 kv.ownBlock)(cR:kv.ownBlock=some g\/g=W.heap.size):V3i w1 b cs T (.slice g n cap) sv uv :=
 ⟨(h.app (n:=n) (cap:=cap) h.k hg cR).1,(h.app h.k hg cR).2,h.s,h.u⟩
theorem V3i.appS{b g n cap:Nat}{cs:Array Value}{T:TypeId}(h:V3i W b cs T kv sv uv)(hg:W.grownBy w1 sv.ownBlock)(cR:sv.ownBlock=some g\/g=W.heap.size):V3i w1 b cs T kv (.slice g n cap) uv :=
 ⟨(h.app (n:=n) (cap:=cap) h.s hg cR).1,h.k,(h.app h.s hg cR).2,h.u⟩
theorem V3i.appU{b g n cap:Nat}{cs:Array Value}{T:TypeId}(h:V3i W b cs T kv sv uv)(hg:W.grownBy w1 uv.ownBlock)(cR:uv.ownBlock=some g\/g=W.heap.size):V3i w1 b cs T kv sv (.slice g n cap) :=
 ⟨(h.app (n:=n) (cap:=cap) h.u hg cR).1,h.k,h.s,(h.app h.u hg cR).2⟩
end
theorem Ox{w:World}{base e size n g cap:Nat}{xs:List Value}(h:w.ownsRow base e size (.slice g n cap) n xs)(j:Nat)(hj:j<xs.length)(x:Value):(w.setCell ⟨g,j,none⟩ x).ownsRow base e size (.slice g n cap) n (xs.set j x):=by
 refine⟨by rw[U2k];exact h.1,?_⟩;have h1:=h.1;rcases h.2 with⟨h2,_⟩|⟨g',pm,cur,h2,h3,h4,h5,h6,h7,h8⟩
 cases h2
 cases h2;refine .inr ⟨g,cap,cur.setIfInBounds j x,rfl,h3,block_setCell h4 x,h5,h6,by simpa using h7,?_⟩;rw[<-h8,Array.toList_setIfInBounds,List.take_set]
def FI(own:Nat->Nat)(i:Nat)(k:Nat):Prop:=own k=4+3*i\/own k=5+3*i\/own k=6+3*i
theorem RdV.start3{w W:World}{R B base:Nat}{s:ByteArray}{root:Int}{nv:Value}{L:List NdR}{own:Nat->Nat}(h:RdV w R B base s root nv L own)(g1:Gr w W)(i:Nat)(r:NdR)(hr:L[i]?=some r)(h8:r.nd.kind=8):V24 w W base (FI own i) r.kv r.sv r.uv r.nd.keys.length r.nd.spots.length r.nd.subs.length (Oj r.nd.keys) (Oc r.nd.spots) (O8 r.nd.subs):=by
 refine Z207 ?_;intro hx kp;refine⟨(g1.st).to (λ _ e=>e.elim),kp hx.k hx.tk Ya,kp hx.s hx.ts Ya,kp (hx.u8 h8) hx.tu Ya,λ b e => .inl (.inl (hx.tk b e)),λ b e => .inl (.inr (.inl (hx.ts b e))),λ b e => .inl (.inr (.inr (hx.tu b e))),?_,?_,?_⟩;intro b e e2;have:=hx.tk b e;have:=hx.ts b e2;omega;intro b e e2;have:=hx.tk b e;have:=hx.tu b e2;omega
 intro b e e2;have:=hx.ts b e;have:=hx.tu b e2;omega
def O9m(w w2:World)(R B base:Nat)(s:ByteArray)(root:Int)(nv:Value)(L:List NdR)(own:Nat->Nat)(i:Nat)(nd:Pl.Nd):Prop :=
 ∃own' kv sv uv,RdV w2 R B base s root nv (L.set i ⟨nd,kv,sv,uv⟩) own'/\St (FV own) (FV own') w w2/\(∀k,own' k≠0->own k≠0\/w.heap.size<=k)
theorem RdV.putDone{w W:World}{R B base:Nat}{s:ByteArray}{root:Int}{L:List NdR}{own:Nat->Nat}{g cap:Nat}(h:RdV w R B base s root (.slice g L.length cap) L own)(i:Nat)(r:NdR)(hr:L[i]?=some r)(nd:Pl.Nd)(bx:nd.kind=r.nd.kind)(cd:nd.text=r.nd.text)(fw:nd.sp=r.nd.sp)(mV:nd.owner=r.nd.owner){kv sv uv:Value}(H:V24 w W base (FI own i) kv sv uv nd.keys.length nd.spots.length nd.subs.length (Oj nd.keys) (Oc nd.spots) (O8 nd.subs)):O9m w (((W.setCell ⟨g,i*7+2,none⟩ kv).setCell ⟨g,i*7+3,none⟩ sv).setCell ⟨g,i*7+4,none⟩ uv) R B base s root (.slice g L.length cap) L own i nd:=by
 have hi:i<L.length:=(U16.1 hr).1;refine Z224 ?_;intro dI aZ hz hR hB WF am;have bY:WF.heap.size=W.heap.size:=by subst am;simp[World.setCell]
 refine Z279 ?_;intro aO;have jx:∀k,k<w.heap.size->k≠g->¬FI own i k->WF.heap[k]?=w.heap[k]?:=λ k hk h1 h2=>(aO k h1).trans (H.st.block k hk h2)
 have Lz:W.ownsRow base 40 7 (.slice g L.length cap) L.length (V3a L) :=
  O1 h.nodes λ k e=>by
   simp[Value.ownBlock]at e;subst e;exact H.st.block g aZ.2 (λ e=>by unfold FI at e;omega)
 refine Z50 ?_;intro ad bO;refine⟨λ k=>if kv.ownBlock=some k then 4+3*i else if sv.ownBlock=some k then 5+3*i else if uv.ownBlock=some k then 6+3*i else own k,kv,sv,uv,?_,?_,?_⟩
 -- tags that are not this node's stay
 refine Z97 ?_;intro tg;have nF:∀k t,own k=t->t<4->¬FI own i k:=λ k t e h4 e2=>by unfold FI at e2;omega
 have vm:∀k,own k≠3->k≠g:=λ k e e2=>by subst e2;exact e dI
 have li:∀{v:Value} {e size n xs},W.ownsRow base e size v n xs->(∀b,v.ownBlock=some b->FI own i b\/w.heap.size<=b)->∀k,v.ownBlock=some k->k≠g:=by
  intro v e size n xs _ hv k hk e2;subst e2;rcases hv k hk with h1|h1
  unfold FI at h1;omega
  omega
 refine⟨?_,?_,?_,?_,?_,?_,?_,?_⟩;rw[jx R hR.2 (vm R (by rw[h.oR];omega)) (nF R 1 h.oR Ya)];exact h.blk;rw[tg R (by rw[h.oR];omega) (nF R 1 h.oR Ya)];exact h.oR;rw[tg B (by rw[h.oB];omega) (nF B 2 h.oB Ya)];exact h.oB;rw[U2k];exact bO;exact J177
 obtain⟨D,h1,h2,h3,h4⟩:=h.map;refine⟨D,Ot (by rw[Oab L i r ⟨nd,kv,sv,uv⟩ hr mV];exact h1) (jx B hB.2 (vm B (by rw[h.oB];omega)) (nF B 2 h.oB Ya)),h2,by rw[U2k];exact h3,λ j x hx=>?_⟩;rw[U2n]at hx
 split at hx
 rename_i dv
 subst dv;cases hx;rw[h4 i r hr];simp only[mV]
 exact h4 j x hx
 intro j x hx;rw[U2n]at hx
 split at hx
 rename_i dv
 subst dv;cases hx;refine⟨O1 H.k λ k e=>aO k (li H.k H.fk k e),O1 H.s λ k e=>aO k (li H.s H.fs k e),O16 (O1 H.u λ k e=>aO k (li H.u H.fu k e)),λ _=>O1 H.u λ k e=>aO k (li H.u H.fu k e),?_,?_,?_⟩;intro k e;simp only at e;simp only[e,U2i];exact J181
 intro k e;simp only at e;have a1:kv.ownBlock≠some k:=λ e2=>H.ku k e2 e
 have a2:sv.ownBlock≠some k:=λ e2=>H.su k e2 e
 simp only[a1,a2,e,U2i,U2c]
 rename_i dv
 have gj:=h.rows j x hx;have kp:∀ {e size n v xs t},w.ownsRow base e size v n xs->Ok own v t->4<=t->(t≠4+3*i/\t≠5+3*i/\t≠6+3*i) ->
     WF.ownsRow base e size v n xs/\Ok (λ k=>if kv.ownBlock=some k then 4+3*i else if sv.ownBlock=some k then 5+3*i else if uv.ownBlock=some k then 6+3*i else own k) v t:=by
  intro e size n v xs t ho ht h4 a8;have hF:∀k,v.ownBlock=some k->¬FI own i k:=λ k e e2=>by have:=ht k e;unfold FI at e2;omega
  refine⟨O1 ho λ k e=>jx k (h.lt k (by rw[ht k e];omega)).2 (vm k (by rw[ht k e];omega)) (hF k e),λ k e=>?_⟩;show (if _ then _ else _)=t;rw[tg k (by rw[ht k e];omega) (hF k e)];exact ht k e
 have a:=kp gj.k gj.tk Ya Ya;have b:=kp gj.s gj.ts Ya Ya;have c:V2f WF base 3 1 x.uv x.nd.subs.length (O8 x.nd.subs)/\_:=⟨gj.u.of_block λ k e=>jx k (h.lt k (by rw[gj.tu k e];omega)).2 (vm k (by rw[gj.tu k e];omega)) (λ e2=>by have:=gj.tu k e;unfold FI at e2;omega),λ h8=>(kp (gj.u8 h8) gj.tu Ya Ya).1⟩
 have ct:Ok (λ k=>if kv.ownBlock=some k then 4+3*i else if sv.ownBlock=some k then 5+3*i else if uv.ownBlock=some k then 6+3*i else own k) x.uv (6+3*j):=λ k e=>by
  show (if _ then _ else _)=_;rw[tg k (by rw[gj.tu k e];omega) (λ e2=>by have:=gj.tu k e;unfold FI at e2;omega)];exact gj.tu k e
 exact⟨a.1,b.1,c.1,c.2,a.2,b.2,ct⟩
 exact J141;exact J56
 exact J125
end
section
open Pl Go.Proofs.Tryz Go.RowKit Go.Joins
attribute [local go_sem ↓] Go.wp_at_zero Go.wp_at_succ
theorem byteAt_lt(s:ByteArray)(n:Nat)(h:n<s.size):V9 (bs s) n=s[n].toNat:=by
 unfold V9;rw[U1h (by rw[O0];exact h)];rfl
theorem O13(s:ByteArray)(n:Nat)(h:¬n<s.size):V9 (bs s) n=0:=by
 unfold V9;rw[U2t (by rw[O0];omega)]
theorem O25(w:World)(R:Nat)(s:ByteArray)(hc:w.cell? ⟨R,2,none⟩=some (.string s))(i:Int)(n:Nat)(hi:i=n):Calls prog 43 #[.pointer (some ⟨R,0,none⟩),i] w λ e w'=>e=.returned (.int .u8 (V9 (bs s) n))/\w=w':=by
 subst hi;by_cases h:n<s.size
 ·rw[byteAt_lt s n h];have hd:decide ((n:Int)<(s.size:Int))=true:=by simp;omega
  go_enter func43,ntmps43;exact J10
 rw[O13 s n h];have hd:decide ((n:Int)<(s.size:Int))=false:=Ye
 go_enter func43,ntmps43;exact J10
theorem Ocu:(prog.info? 40).map (λ i=>(i.zero,i.size,i.bytes))=some (some (.agg #[.int .u8 0,.string ⟨#[]⟩,.slice none 0 0,.slice none 0 0,.slice none 0 0,(0:Int),(0:Int)]),7,112):=Yc
theorem O30{own:Nat->Nat}{v:Value}{t R:Nat}(h:Ok own v t)(hR:own R≠t):some R≠v.ownBlock:=λ e=>hR (h R e.symm)
theorem O9n(w:World)(R B base:Nat)(s:ByteArray)(root:Int)(nv:Value)(L:List NdR)(own:Nat->Nat)(h:RdV w R B base s root nv L own)(hL:L.length<=30000000)(r:NdR)(oc:r.uv.oneCell'=true)(hk:r.kv=.slice none 0 0)(kT:r.sv=.slice none 0 0)(dp:r.nd.keys=[])(fe:r.nd.spots=[])(Ey:r.nd.owner=0)(hu:V2f w base 3 1 r.uv r.nd.subs.length (O8 r.nd.subs))(Ez:r.nd.kind=8->w.ownsRow base 3 1 r.uv r.nd.subs.length (O8 r.nd.subs))(kD:∀k,r.uv.ownBlock=some k->own k=0/\k<w.heap.size)(k:Nat)(t:ByteArray)(kv sv uv:Value)(a b:Int)(hV:ndV r=[.int .u8 k,.string t,kv,sv,uv,.int .i64 a,.int .i64 b]):Calls prog 74 #[.pointer (some ⟨R,0,none⟩),.agg #[.int .u8 k,.string t,kv,sv,uv,a,b]] w λ e w' => e=.returned L.length/\∃nv',O7r w w' R B base s root L own r nv':=by
 obtain⟨i0,hi,dL,ax,aL⟩:=U3u Ocu;obtain⟨c0,c1,c2,c3,fz⟩:=h.cells;have A8:=fz 0;have hR:=h.R_lt;have bA:base<=w.heap.size:=Ya;have GK:∀u∈[(.int .u8 k:Value),.string t,kv,sv,uv,.int .i64 a,.int .i64 b],u.oneCell'=true:=by
  rw[<-hV];intro u hu;simp[ndV,hk,kT]at hu;rcases hu with rfl|rfl|rfl|rfl|rfl|rfl <;> first|rfl|exact oc
 have a8:some R≠nv.ownBlock:=O30 h.oN (by rw[h.oR];omega);have l0:some w.heap.size≠nv.ownBlock:=λ e=>by have:=(h.nodes.lt _ e.symm).2;omega
 have HA:Hid (∀W w1 g cap,Gr w W->w1.ownsRow base 40 7 (.slice (some ⟨g,0,none⟩) (L.length+1) cap) (L.length+1) (V3a L++[.int .u8 k,.string t,kv,sv,uv,.int .i64 a,.int .i64 b])->W.grownBy w1 nv.ownBlock->(nv.ownBlock=some g\/g=W.heap.size)->g<w1.heap.size->O7r w (w1.setCell R (.slice (some ⟨g,0,none⟩) (L.length+1) cap)) R B base s root L own r (.slice (some ⟨g,0,none⟩) (L.length+1) cap)):=by
  rw[<-hV];exact λ W w1 g cap g1 ho hg cR aa=>h.appended g1 r hk kT dp fe Ey hu Ez kD g cap ho hg cR aa
 have HI:=U10 hi;have HZ:=U10 dL;have Bv:=U10 ax;have tj:=U10 aL;have HN:=U10 h.nodes;clear fz hi dL ax aL h hu Ez kD hV hk kT dp fe Ey oc;go_enter func74,ntmps74;go_wp2_with fail;obtain⟨W,hW⟩:=ExZ (w.alloc (.cells #[.int .u8 k,.string t,kv,sv,uv,a,b] 40))
 have bW:∀o,W.cell? ⟨R,o,none⟩=w.cell? ⟨R,o,none⟩:=by subst hW;exact λ o=>((Gr.refl w).alloc _).use.1 R o hR.2
 have dY:∀o,W.frozen? ⟨R,o,none⟩=w.frozen? ⟨R,o,none⟩:=by subst hW;exact λ o=>((Gr.refl w).alloc _).use.2.1 R o hR.2
 have e0:W.cell? R=some nv:=by rw[bW];exact c0
 have e1:W.frozen? R=false:=by rw[dY];exact A8
 have n0:W.cell? w=some (.int .u8 k):=by subst hW;simp
 have n1:W.cell? ⟨w,1,none⟩=some (.string t):=by subst hW;simp
 have n2:W.cell? ⟨w,2,none⟩=some kv:=by subst hW;simp
 have n3:W.cell? ⟨w,3,none⟩=some sv:=by subst hW;simp
 have n4:W.cell? ⟨w,4,none⟩=some uv:=by subst hW;simp
 have n5:W.cell? ⟨w,5,none⟩=some (.int .i64 a):=by subst hW;simp
 have n6:W.cell? ⟨w,6,none⟩=some (.int .i64 b):=by subst hW;simp
 have LN:w.heap.size+1=W.heap.size:=by subst hW;simp
 have GL:Gr w W:=by subst hW;exact (Gr.refl w).alloc _
 have EA:Hid (W.ownsRow base 40 7 nv L.length (V3a L)):=O1 HN.o λ k e=>GL.block (HN.o.lt k e).2
 have HG:=U10 GL;have TZ:w.heap.size<W.heap.size:=Ya;have A9:R<W.heap.size:=Ya;have Pv:base<=W.heap.size:=Ya;have dM:=hR.2;rw[hW];clear hW bW dY GL LN hR
 set_option maxRecDepth 100000 in
 go_region_law
  ((refine step_append_lies _ Yh (.tmp 10) (.tmp 12) 24 Yh base 40 i0 _ 7 112 underlying24 HI.o HZ.o Bv.o tj.o Yh Yd nv L.length (V3a L) (by simp[Act.eval,Act.put]) ((EA.o.alloc _)) ⟨W,0,none⟩ 1 1 [.int .u8 k,.string t,kv,sv,uv,.int .i64 a,.int .i64 b] (by simp[Act.eval,Act.put]) Yh (U2f (U1z _ _)) GK Yd Yl Ya Ye (W.heap.size+1) Yb ?_;intro g cap w1 da fN fg ax;have f3:w1.frozen? R=false:=(fN.frozen_far ⟨R,0,none⟩ Ye a8).trans ((((Gr.refl W).alloc _).drew.use.2.1 R 0 A9).trans e1);have f4:w1.cell? R=some nv:=(fN.cell_far ⟨R,0,none⟩ Ye a8).trans ((((Gr.refl W).alloc _).drew.use.1 R 0 A9).trans e0)))
 all_goals go_wp2_with fail
 all_goals go_ret
 all_goals exact⟨rfl,_,HA.o _ w1 g cap ((HG.o.alloc _).drew) da fN (by simpa using fg) ax⟩
end
section
open Pl Go.Proofs.Tryz Go.RowKit Go.Joins
def O7:Value->Value
 |.slice a n _ => .slice a n n
 |v=>v
theorem O31(v:Value):(O7 v).ownBlock=v.ownBlock:=by
 cases v <;> first|rfl|(rename_i a n c;cases a <;> rfl)
theorem O46(g n cap:Nat)(h:n<=cap)(hc:cap<=9223372036854775807)(w:World):Calls prog 21 #[.slice g n cap] w λ e w'=>e=.returned (.slice g n n)/\w=w':=by
 go_enter func21,ntmps21
 go_wp2
 go_ret
 exact⟨rfl,rfl⟩
theorem O8t(w:World):Calls prog 21 #[.slice none 0 0] w λ e w'=>e=.returned (.slice none 0 0)/\w=w':=by
 go_enter func21,ntmps21
 go_wp2
 go_ret
 exact⟨rfl,rfl⟩
theorem O5k(g n cap:Nat)(h:n<=cap)(hc:cap<=9223372036854775807)(w:World):Calls prog 22 #[.slice g n cap] w λ e w'=>e=.returned (.slice g n n)/\w=w':=by
 go_enter func22,ntmps22
 go_wp2
 go_ret
 exact⟨rfl,rfl⟩
theorem O7f(w:World):Calls prog 22 #[.slice none 0 0] w λ e w'=>e=.returned (.slice none 0 0)/\w=w':=by
 go_enter func22,ntmps22
 go_wp2
 go_ret
 exact⟨rfl,rfl⟩
theorem Oam(g n cap:Nat)(h:n<=cap)(hc:cap<=9223372036854775807)(w:World):Calls prog 26 #[.slice g n cap] w λ e w'=>e=.returned (.slice g n n)/\w=w':=by
 go_enter func26,ntmps26
 go_wp2
 go_ret
 exact⟨rfl,rfl⟩
theorem O8u(w:World):Calls prog 26 #[.slice none 0 0] w λ e w'=>e=.returned (.slice none 0 0)/\w=w':=by
 go_enter func26,ntmps26
 go_wp2
 go_ret
 exact⟨rfl,rfl⟩
theorem O8v(g n cap:Nat)(h:n<=cap)(hc:cap<=9223372036854775807)(w:World):Calls prog 27 #[.slice g n cap] w λ e w'=>e=.returned (.slice g n n)/\w=w':=by
 go_enter func27,ntmps27
 go_wp2
 go_ret
 exact⟨rfl,rfl⟩
theorem O1b{w:World}{base e size n:Nat}{v:Value}{xs:List Value}(h:w.ownsRow base e size v n xs):(v=.slice none 0 0/\n=0)\/∃g cap,v=.slice (some ⟨g,0,none⟩) n cap/\n<=cap/\cap<=9223372036854775807:=by
 rcases h.2 with⟨h1,h2⟩|⟨g,cap,cur,h1,_,_,h2,h3,_⟩
 exact .inl ⟨h1,h2⟩
 exact .inr ⟨g,cap,h1,h2,by simpa [maxLen]using h3⟩
theorem O2l{w:World}{base e size n:Nat}{v:Value}{xs:List Value}(h:w.ownsRow base e size v n xs):V2f w base e size (O7 v) n xs:=by
 rcases O1b h with⟨rfl,h0⟩|⟨g,cap,rfl,_,_⟩
 exact⟨_,h,rfl,.inl rfl⟩
 exact⟨_,h,rfl,.inr ⟨g,cap,rfl,rfl⟩⟩
theorem O3o{w:World}{base e size n:Nat}{v:Value}{xs:List Value}(h:V2f w base e size v n xs):V2f w base e size (O7 v) n xs:=by
 obtain⟨v0,h1,h2,h3⟩:=h;rcases h3 with rfl|⟨g,c,rfl,rfl⟩
 exact O2l h1
 exact⟨_,h1,rfl,.inr ⟨g,c,rfl,rfl⟩⟩
theorem Ou{w:World}{base e size n:Nat}{v:Value}{xs:List Value}(h:V2f w base e size v n xs):(v=.slice none 0 0/\n=0)\/∃g cap,v=.slice (some ⟨g,0,none⟩) n cap/\n<=cap/\cap<=9223372036854775807:=by
 obtain⟨v0,h1,h2,h3⟩:=h;rcases O1b h1 with⟨rfl,h0⟩|⟨g,cap,rfl,q1,q2⟩
 rcases h3 with rfl|⟨g,c,e1,_⟩
 exact .inl ⟨rfl,h0⟩
 cases e1
 rcases h3 with rfl|⟨g',c,e1,rfl⟩
 exact .inr ⟨g,cap,rfl,q1,q2⟩
 cases e1;exact .inr ⟨g,n,rfl,U12 _,U1k q1 q2⟩
section
variable {w0 W W':World}{base:Nat}{F:Nat->Prop}{kv sv uv:Value}{nk ns nu:Nat}{xk xs xu:List Value}
theorem V24.gr(h:V24 w0 W base F kv sv uv nk ns nu xk xs xu)(g:Gr W W'):V24 w0 W' base F kv sv uv nk ns nu xk xs xu :=
 ⟨h.st.gr g,O1 h.k λ k e=>g.block (h.k.lt k e).2,O1 h.s λ k e=>g.block (h.s.lt k e).2,O1 h.u λ k e=>g.block (h.u.lt k e).2,h.fk,h.fs,h.fu,h.ks,h.ku,h.su⟩
theorem V3i.gr{b:Nat}{cs:Array Value}{T:TypeId}(h:V3i W b cs T kv sv uv)(g:Gr W W'):V3i W' b cs T kv sv uv:=⟨(g.block h.lt).trans h.blk,h.k,h.s,h.u⟩
theorem V24.setCell(h:V24 w0 W base F kv sv uv nk ns nu xk xs xu){b i:Nat}(hb:w0.heap.size<=b)(hk:kv.ownBlock≠some b)(hs:sv.ownBlock≠some b)(hu:uv.ownBlock≠some b)(x:Value):V24 w0 (W.setCell ⟨b,i,none⟩ x) base F kv sv uv nk ns nu xk xs xu :=
 ⟨h.st.setCell (.inr hb) x,Od h.k (λ k e e2=>hk (by rw[e,e2])) _,Od h.s (λ k e e2=>hs (by rw[e,e2])) _,Od h.u (λ k e e2=>hu (by rw[e,e2])) _,h.fk,h.fs,h.fu,h.ks,h.ku,h.su⟩
theorem V3i.setOther{b:Nat}{cs:Array Value}{T:TypeId}(h:V3i W b cs T kv sv uv){p:Addr}(hp:p.block≠b)(x:Value):V3i (W.setCell p x) b cs T kv sv uv:=⟨by rw[U14 _ _ _ _ (U3p hp)];exact h.blk,h.k,h.s,h.u⟩
theorem V3i.set{b i:Nat}{cs:Array Value}{T:TypeId}(h:V3i W b cs T kv sv uv)(x:Value):V3i (W.setCell ⟨b,i,none⟩ x) b (cs.setIfInBounds i x) T kv sv uv:=⟨block_setCell h.blk x,h.k,h.s,h.u⟩
theorem V3i.cell{b i:Nat}{cs:Array Value}{T:TypeId}(h:V3i W b cs T kv sv uv){x:Value}(hx:cs[i]?=some x):W.cell? ⟨b,i,none⟩=some x/\W.frozen? ⟨b,i,none⟩=false :=
 ⟨by rw[cell_of_block h.blk];exact hx,unfrozen_of_block h.blk i⟩
end
abbrev O4(c:UInt8):Value := .int .u8 c.toNat
structure RdQ(w:World)(R:Nat)(s:ByteArray)(a:Nat)(q:UInt8)(out:List UInt8)(ov:Value):Prop where
 blk:w.heap[R]?=some (.cells #[.string s,a,O4 q,ov] 136 (0,0))
 own:w.ownsRow (R+1) 5 1 ov out.length (out.map O4)
def FQ(R:Nat)(ov:Value)(k:Nat):Prop:=k=R\/ov.ownBlock=some k
theorem RdQ.lt{w R s a q out ov}(h:RdQ w R s a q out ov):R<w.heap.size:=by
 have:=h.blk;rw[U1a]at this;exact this.1
theorem RdQ.own_lt{w R s a q out ov}(h:RdQ w R s a q out ov){k:Nat}(hk:FQ R ov k):R<=k/\k<w.heap.size:=by
 rcases hk with rfl|hk
 exact⟨U12 _,h.lt⟩
 have:=h.own.lt k hk;omega
theorem RdQ.cells{w R s a q out ov}(h:RdQ w R s a q out ov):w.cell? R=some (.string s)/\w.cell? ⟨R,1,none⟩=some (.int .i64 a)/\w.cell? ⟨R,2,none⟩=some (.int .u8 q.toNat)/\w.cell? ⟨R,3,none⟩=some ov/\(∀i,w.frozen? ⟨R,i,none⟩=false) :=
 ⟨by rw[cell_of_block h.blk];rfl,by rw[cell_of_block h.blk];rfl,by rw[cell_of_block h.blk];rfl,by rw[cell_of_block h.blk];rfl,λ i=>unfrozen_of_block h.blk i⟩
theorem RdQ.kept{w w' R s a q out ov}(h:RdQ w R s a q out ov)(hb:∀k,FQ R ov k->w'.heap[k]?=w.heap[k]?):RdQ w' R s a q out ov:=by
 refine⟨by rw[hb R (.inl rfl)];exact h.blk,h.own.1,?_⟩;rcases h.own.2 with hn|⟨g,cap,cur,rfl,hg,hh,r⟩
 exact .inl hn
 exact .inr ⟨g,cap,cur,rfl,hg,by rw[hb g (.inr rfl)];exact hh,r⟩
theorem RdQ.gr{w w' R s a q out ov}(h:RdQ w R s a q out ov)(g:Gr w w'):RdQ w' R s a q out ov :=
 h.kept λ _ hk=>g.block (h.own_lt hk).2
theorem RdQ.alloc{w R s a q out ov}(h:RdQ w R s a q out ov)(o:Obj):RdQ (w.alloc o) R s a q out ov:=h.gr ((Gr.refl w).alloc o)
theorem RdQ.drew{w R s a q out ov}(h:RdQ w R s a q out ov):RdQ w.drew R s a q out ov:=h.gr (Gr.refl w).drew
theorem RdQ.drewN{w R s a q out ov}(h:RdQ w R s a q out ov)(n:Nat):RdQ (w.drewN n) R s a q out ov:=h.gr ((Gr.refl w).drewN n)
theorem RdQ.setCell{w R s a q out ov}(h:RdQ w R s a q out ov){p:Addr}(hp:¬FQ R ov p.block)(v:Value):RdQ (w.setCell p v) R s a q out ov :=
 h.kept λ k hk=>U14 _ _ _ _ (λ e=>by subst e;exact hp hk)
theorem RdQ.setAt{w R s a q out ov}(h:RdQ w R s a q out ov)(b:Nat):RdQ (w.setCell ⟨R,1,none⟩ b) R s b q out ov:=by
 refine⟨?_,h.own.1,?_⟩;have:=block_setCell (i:=1) h.blk b;exact J4
 rcases h.own.2 with hn|⟨g,cap,cur,rfl,hg,hh,r⟩
 exact .inl hn
 exact .inr ⟨g,cap,cur,rfl,hg,by rw[U14 _ _ _ _ Ye];exact hh,r⟩
theorem O5a(w:World)(v:Value)(t:TypeId)(n:Nat)(hn:n=w.heap.size):∀j u,[v][j]?=some u->(w.alloc (.cells #[v] t)).cell? ⟨n,0+j,none⟩=some u:=by
 subst hn;intro j u hu;have:=cell_one_new w v t j u hu;rw[U4g]at this;exact this
theorem Oma:(prog.info? 5).map (λ i=>(i.zero,i.size,i.bytes))=some (some (.int .u8 0),1,1):=Yc
theorem O3p(w:World)(R:Nat)(s:ByteArray)(a:Nat)(q:UInt8)(out:List UInt8)(ov:Value)(h:RdQ w R s a q out ov)(i:Int)(m:Nat)(hi:i=m)(ha:a+m<=30000000)(nb:List UInt8)(tb vo c:Nat)(a8:nb≠[])(GN:tb≠R)(ma:∀j u,(nb.map O4)[j]?=some u->w.cell? ⟨tb,vo+j,none⟩=some u)(ad:out.length+nb.length<=30000000):Calls prog 241 #[.pointer (some ⟨R,0,none⟩),i,.slice (some ⟨tb,vo,none⟩) nb.length c] w λ e w' => e=.returned (.tuple #[])/\∃aG,RdQ w' R s (a+m) q (out++nb) aG/\St (FQ R ov) (FQ R aG) w w':=by
 subst hi;obtain⟨i0,hi,dL,ax,aL⟩:=U3u Oma;refine Z232 ?_;intro c0 c1 c2 c3 fz aa;have EB:=fz 1;have T':=fz 3;have HA:Hid (RdQ (w.setCell ⟨R,1,none⟩ (.int .i64 (a+m:Nat))) R s (a+m) q out ov):=h.setAt (a+m);have HI:=U10 hi;have HZ:=U10 dL;have Bv:=U10 ax;have tj:=U10 aL;have HN:Hid (∀j u,(nb.map O4)[j]?=some u->(w.setCell ⟨R,1,none⟩ (.int .i64 (a+m:Nat))).cell? ((⟨tb,vo,none⟩:Addr).add j)=some u):=by
  intro j u hu;rw[U4g,U1p _ _ _ _ (by intro e;exact GN (U2b Addr.block e).symm)];exact ma j u hu
 have eQ:0<nb.length:=by cases nb with|nil=>exact absurd rfl a8|cons=>simp
 have HS:=U10 h;clear fz ma hi dL ax aL h;go_enter func241,ntmps241
 set_option maxRecDepth 100000 in
 go_wp2_with (at_builtin;refine U3z _ rfl (.tmp 18) (.tmp 19) 22 rfl (R+1) 5 i0 (.int .u8 0) 1 1 underlying22 HI.o HZ.o Bv.o tj.o rfl Yd ov out.length (out.map O4) rfl HA.o.own ⟨tb,vo,none⟩ nb.length c (nb.map O4) rfl Yb HN.o Yj eQ Yl Ya (by simp[World.setCell];omega) _ rfl ?_;intro g cap w1 da fN fg ax;have hr:=λ o=>U1r (w:=w.setCell ⟨R,1,none⟩ (.int .i64 (a+m:Nat))) (a:=⟨R,o,none⟩) (fN.block R (by simp[World.setCell];exact aa) (λ e=>by have:=HA.o.own.lt R e.symm;omega));have EC:=λ o=>U33 (w:=w.setCell ⟨R,1,none⟩ (.int .i64 (a+m:Nat))) (a:=⟨R,o,none⟩) (fN.block R (by simp[World.setCell];exact aa) (λ e=>by have:=HA.o.own.lt R e.symm;omega));have e3:w1.cell? ⟨R,3,none⟩=some ov:=(hr 3).trans HA.o.cells.2.2.2.1;have f3:w1.frozen? ⟨R,3,none⟩=false:=(EC 3).trans (HA.o.cells.2.2.2.2 3);have H1:=U10 (show _/\_/\_ from ⟨da,fN,fg⟩);clear da fN fg hr EC);obtain⟨da,fN,fg⟩:=H1.o;have hA:=HA.o;have Bw:w1.heap[R]?=some (.cells #[.string s,.int .i64 (a+m:Nat),O4 q,ov] 136 (0,0)):=by
  rw[fN.block R (by simp[World.setCell];exact aa) (λ e=>by have:=hA.own.lt R e.symm;omega)];exact hA.blk
 go_end0
 refine⟨rfl,.slice g (out.length+nb.length) cap,⟨?_,?_⟩,?_⟩;have:=block_setCell (i:=3) Bw (.slice g (out.length+nb.length) cap);exact J4;have:=ownsRow_setCell_below da (a:=⟨R,3,none⟩) (Nat.lt_succ_self R) (.slice g (out.length+nb.length) cap);exact J4
 have h1:St (FQ R ov) (FQ R ov) w (w.setCell ⟨R,1,none⟩ (.int .i64 (a+m:Nat))):=(St.refl _ _).setCell (.inl (.inl rfl)) _;have h2:=h1.grown fN (λ k hk => .inl (.inr hk));have h3:=h2.setCell (p:=⟨R,3,none⟩) (.inl (.inl rfl)) (.slice g (out.length+nb.length) cap);have e:(↑a + ↑m:Int)=((a+m:Nat):Int):=Ya;refine St.to (by simpa [e]using h3) (λ k hk=>?_);rcases hk with rfl|hk
 exact .inl (.inl rfl)
 simp only[Value.ownBlock,U1f]at hk;subst hk;rcases fg with fg|fg
 exact .inl (.inr fg)
 exact .inr (by rw[fg];simp[World.setCell])
theorem RdQ.auto{w w2:World}{R:Nat}{s:ByteArray}{a:Nat}{q:UInt8}{out:List UInt8}{ov:Value}(k:RdQ w R s a q out ov)(h:RdQ w R s a q out ov->RdQ w2 R s a q out ov:=by intro k;(repeat (first|exact k|refine RdQ.drew ?_|refine RdQ.drewN ?_ _|refine RdQ.alloc ?_ _|refine RdQ.setCell ?_ Ym _|refine RdQ.gr ?_ Ym))):RdQ w2 R s a q out ov:=h k
theorem Of8:(prog.info? 9).map (λ i=>(i.zero,i.size,i.bytes))=some (some (.string ⟨#[]⟩),1,16):=Yc
theorem Ocv:(prog.info? 38).map (λ i=>(i.zero,i.size,i.bytes))=some (some (.agg #[(0:Int),(0:Int)]),2,16):=Yc
theorem O6y:(prog.info? 3).map (λ i=>(i.zero,i.size,i.bytes))=some (some (.int .i64 0),1,8):=Yc
def Vdh(g i T0:Nat)(r:NdR)(a b:Nat)(w':World):Prop :=
 w'.cell? ⟨g,i*7+2,none⟩=some r.kv/\w'.cell? ⟨g,i*7+3,none⟩=some r.sv/\w'.cell? ⟨g,i*7+4,none⟩=some r.uv/\w'.cell? T0=some (.int .i64 a)/\w'.cell? ⟨T0,1,none⟩=some (.int .i64 b)
def Va4(w:World)(own:Nat->Nat)(g i:Nat)(r:NdR):Prop :=
 g<w.heap.size/\own g=3/\w.cell? ⟨g,i*7+2,none⟩=some r.kv/\w.cell? ⟨g,i*7+3,none⟩=some r.sv/\w.cell? ⟨g,i*7+4,none⟩=some r.uv/\(∀o,w.frozen? ⟨g,o,none⟩=false)
section
variable {w V:World}{base g i T0:Nat}{own:Nat->Nat}{r:NdR}{a b:Nat}{kv sv uv:Value}{nk ns nu:Nat}{xk xs xu:List Value}
theorem O4u(H:V24 w V base (FI own i) kv sv uv nk ns nu xk xs xu)(hc:Va4 w own g i r):V.cell? ⟨g,i*7+2,none⟩=some r.kv/\V.cell? ⟨g,i*7+3,none⟩=some r.sv/\V.cell? ⟨g,i*7+4,none⟩=some r.uv/\(∀o,V.frozen? ⟨g,o,none⟩=false):=by
 obtain⟨h1,h2,h3,h4,h5,h6⟩:=hc;have hu:=H.st.use g h1 (λ e=>by unfold FI at e;omega);exact⟨(hu.1 _).trans h3,(hu.1 _).trans h4,(hu.1 _).trans h5,λ o=>(hu.2 o).trans (h6 o)⟩
theorem O18(H:V24 w V base (FI own i) kv sv uv nk ns nu xk xs xu)(N:V3i V T0 #[a,b] 38 kv sv uv)(hc:Va4 w own g i r):Vdh g i T0 r a b V:=by
 obtain⟨h1,h2,h3,_⟩:=O4u H hc;exact⟨h1,h2,h3,by rw[cell_of_block N.blk];rfl,by rw[cell_of_block N.blk];rfl⟩
end
theorem Opx(s:ByteArray):(⟨(bs s).toArray⟩:ByteArray)=s:=by cases s;simp[bs]
theorem Ono(s:ByteArray):V3h (bs s)=.string s:=by show Value.string _=_;rw[Opx]
theorem Oiq(w:World)(R B base:Nat)(s:ByteArray)(root:Int)(nv:Value)(L:List NdR)(own:Nat->Nat)(h:RdV w R B base s root nv L own)(hL:L.length<=30000000)(i:Nat)(r:NdR)(hr:L[i]?=some r)(h8:r.nd.kind=8)(jN:r.nd.keys.length<=30000000)(iM:r.nd.spots.length<=30000000)(tp:r.nd.subs.length<=30000000)(key:ByteArray)(a b n:Nat):Calls prog 103 #[.pointer (some ⟨R,0,none⟩),i,.string key,.agg #[a,b],n] w λ e w' => e=.returned (.tuple #[])/\O9m w w' R B base s root nv L own i (V12 r.nd (bs key) (a,b) n):=by
 have hi:i<L.length:=(U16.1 hr).1;obtain⟨g,cap,cur,rfl,px,aZ,dI,nY,ti,lj,il,ED,eF,jQ⟩:=h.form Ya;obtain⟨c0,c1,c2,c3,fz⟩:=h.cells;obtain⟨n0,n1,n2,n3,n4,n5,n6,nf⟩:=h.ndCells rfl i r hr;have HC:Hid (Va4 w own g i r):=⟨aZ,dI,n2,n3,n4,nf⟩
 have hR:=h.R_lt;have bA:base<=w.heap.size:=Ya;have mQ:Hid (∀V kv sv uv,V24 w V base (FI own i) kv sv uv (r.nd.keys.length+1) (r.nd.spots.length+1) (r.nd.subs.length+1) (Oj r.nd.keys++[.string key]) (Oc r.nd.spots++[.int .i64 a,.int .i64 b]) (O8 r.nd.subs++[.int .i64 n]) ->
     O9m w (((V.setCell ⟨g,i*7+2,none⟩ kv).setCell ⟨g,i*7+3,none⟩ sv).setCell ⟨g,i*7+4,none⟩ uv) R B base s root (.slice g L.length cap) L own i (V12 r.nd (bs key) (a,b) n)):=by
  intro V kv sv uv H;refine h.putDone i r hr (V12 r.nd (bs key) (a,b) n) rfl rfl rfl rfl ?_;exact J60
 refine Z100 ?_;intro bv iK k1 k2 k3 k4 iS s1 s2 s3 s4 iU u1 u2 u3 u4 fH dX cQ nQ eY;clear h8 k1 k2 k3 k4 s1 s2 s3 s4 u1 u2 u3 u4 fz h lj il jQ hr n0 n1 n2 n3 n4 n5 n6 nf;go_enter func103,ntmps103;exact J191
def O19(R:Nat)(s:ByteArray)(a:Nat)(q:UInt8)(out:List UInt8)(ov:Value)(w:World)(sr:Pl.SR)(e:Ending)(w':World):Prop :=
 match sr with
 |.go n t over=>e=.returned (.tuple #[.bool over,f0])/\∃aG,RdQ w' R s (a+n) q (out++t) aG/\St (FQ R ov) (FQ R aG) w w'
 |.bad p=>e=.returned (.tuple #[.bool false,fv 3 (a+p)])/\∃F',St (FQ R ov) F' w w'
theorem Oby(w:World)(R:Nat)(s:ByteArray)(a:Nat)(q:UInt8)(out:List UInt8)(ov:Value)(h:RdQ w R s a q out ov)(aa:a<s.size)(hs:s.size<=20000000)(hp:V2r s[a]=false):Calls prog 240 #[.pointer (some ⟨R,0,none⟩)] w λ e w'=>e=.returned (.tuple #[.bool false,fv 3 a])/\Gr w w':=by
 refine Z232 ?_;intro c0 c1 c2 c3 fz hR;have HP:=U10 hp;clear fz h hp c3;go_enter func240,ntmps240;go_wp2_with fail
 go_quiet (fail)
 go_wp2_with (first|(go_at_call 51;refine (O54 _ _).mono ?_;rw[HP.o];rintro e w1 ⟨rfl,rfl⟩)|(go_at_call 63;refine (O1i _ a rfl _).mono ?_;rintro e w1 ⟨rfl,g1⟩;obtain⟨ah,ap,ax⟩:=g1.use));exact U11 (v:=.tuple #[.bool false,fv 3 a]) (by simp[results,results240,go_sem,ah]) rfl ⟨rfl,Gr.auto⟩
theorem Oay(w:World)(R:Nat)(s:ByteArray)(a:Nat)(q:UInt8)(out:List UInt8)(ov:Value)(h:RdQ w R s a q out ov)(aa:a<s.size)(hs:s.size<=20000000)(ho:out.length<=a)(hp:V2r s[a]=true):Calls prog 240 #[.pointer (some ⟨R,0,none⟩)] w λ e w'=>e=.returned (.tuple #[.bool false,f0])/\∃aG,RdQ w' R s (a+1) q (out++[s[a]]) aG/\St (FQ R ov) (FQ R aG) w w':=by
 refine Z232 ?_;intro c0 c1 c2 c3 fz hR;have HP:=U10 hp;have HS:=U10 h;clear fz h hp c3;go_enter func240,ntmps240;go_wp2_with fail
 go_quiet (fail)
 go_wp2_with (first|(go_at_call 51;refine (O54 _ _).mono ?_;rw[HP.o];rintro e w1 ⟨rfl,rfl⟩));refine (O3p _ R s a q out ov (RdQ.auto HS.o) 1 1 rfl Ya [s[a]] (w.heap.size+1) 0 1 Yb Ya (O5a _ _ _ _ Yb) Ye).mono ?_;rintro e w1 ⟨rfl,aG,hr,a9⟩;have aR:=a9.use w.heap.size Ye (λ hF=>by have:=HS.o.own_lt hF;omega);have hz:=a9.size;simp at hz;obtain⟨ah,ap⟩:=aR;refine Z161 ?_;intro HR HT;clear hr a9;go_wp2_with fail;refine U11 (v:=.tuple #[.bool false,f0]) (by simp[results,results240,go_sem,ah]) rfl ⟨rfl,aG,?_,?_⟩
 have eX:¬FQ R aG w.heap.size:=λ hF=>by
  rcases HT.o.own _ hF with hF|hF
  have:=HS.o.own_lt hF;omega
  simp at hF;omega
 exact RdQ.auto HR.o
 exact J31
theorem Ohn(w:World)(R:Nat)(s:ByteArray)(a:Nat)(q:UInt8)(out:List UInt8)(ov:Value)(h:RdQ w R s a q out ov)(aa:a<s.size)(hs:s.size<=20000000)(hp:((s[a]).toNat==q.toNat)=false):Calls prog 238 #[.pointer (some ⟨R,0,none⟩)] w λ e w'=>e=.returned (.bool false)/\Gr w w':=by
 refine Z232 ?_;intro c0 c1 c2 c3 fz hR;obtain⟨b1,b2⟩:=V1q _ _ _ hp;clear fz h hp c3;go_enter func238,ntmps238;go_wp2_with fail
 go_quiet (fail)
 exact J3
theorem O8c(w:World)(R:Nat)(s:ByteArray)(a:Nat)(q:UInt8)(out:List UInt8)(ov:Value)(h:RdQ w R s a q out ov)(aa:a<s.size)(hs:s.size<=20000000)(hp:((s[a]).toNat==q.toNat)=true):Calls prog 238 #[.pointer (some ⟨R,0,none⟩)] w λ e w'=>e=.returned (.bool true)/\RdQ w' R s (a+1) q out ov/\St (FQ R ov) (FQ R ov) w w':=by
 refine Z232 ?_;intro c0 c1 c2 c3 fz hR;obtain⟨b1,b2⟩:=V1q _ _ _ hp;have EB:=fz 1;have HS:=U10 h;have HP:=U10 hp;clear fz h hp c3;go_enter func238,ntmps238;go_wp2_with fail
 go_quiet (fail)
 go_wp2_with fail
 go_ret
 have e:(↑a+1:Int)=((a+1:Nat):Int):=Ya;rw[e];exact⟨rfl,by first|exact (HS.o.setAt (a+1)).drewN _|exact (HS.o.setAt (a+1)),by first|exact ((St.refl _ _).setCell (.inl (.inl rfl)) _).drewN _|exact ((St.refl _ _).setCell (.inl (.inl rfl)) _)⟩
theorem Omv(s:ByteArray)(a:Nat)(aa:a<s.size):Pl.feed ((bs s).drop a)=if (s[a].toNat==10)=true then .ok 1 else if (s[a].toNat==13)=true then (if Pl.pre ((bs s).drop (a+1)) [10]=true then .ok 2 else .bad 3 1) else .ok 0:=by
 rw[O9 s a aa];generalize (bs s).drop (a+1)=l;generalize s[a]=c;by_cases de:c=10;subst de;simp[Pl.feed]
 by_cases fC:c=13
 ·subst fC;cases l with
  |nil=>simp[Pl.feed,Pl.pre]
  |cons b l =>
   by_cases hb:b=10;subst hb;simp[Pl.feed,Pl.pre]
   have:Pl.feed (13::b::l)=.bad 3 1:=by
    unfold Pl.feed;split <;> simp_all
   rw[this];simp[Pl.pre,hb]
 have:Pl.feed (c::l)=.ok 0:=by
  unfold Pl.feed;split <;> simp_all
 have e1:¬c.toNat=10:=λ e=>de (by rw[<-U20,e];rfl)
 have e2:¬c.toNat=13:=λ e=>fC (by rw[<-U20,e];rfl)
 rw[this];simp[e1,e2]
theorem O6q(w:World)(R:Nat)(s:ByteArray)(a:Nat)(q:UInt8)(out:List UInt8)(ov:Value)(h:RdQ w R s a q out ov)(aa:a<s.size)(hs:s.size<=20000000) :
    Calls prog 65 #[.pointer (some ⟨R,0,none⟩)] w λ e w'=>(match Pl.feed ((bs s).drop a) with
     |.ok n=>e=.returned (.tuple #[n,f0])
     |.bad c p=>e=.returned (.tuple #[(0:Int),fv c (a+p)]))/\Gr w w':=by
 refine Z232 ?_;intro c0 c1 c2 c3 fz hR;rw[Omv s a aa];have HS:=U10 h;clear fz h c3;cases de:(s[a].toNat==10)
 ·obtain⟨b1,b2⟩:=V1q _ 10 _ de;cases fC:(s[a].toNat==13)
  ·obtain⟨b3,b4⟩:=V1q _ 13 _ fC;clear de fC;simp only[U1v,U2c];go_enter func65,ntmps65;go_wp2_with fail
   go_quiet (fail)
   go_wp2_with fail
   go_quiet (fail)
   go_wp2_with fail;exact U11 (v:=.tuple #[(0:Int),f0]) (by simp[results,results65,go_sem]) rfl ⟨rfl,Gr.auto⟩
  obtain⟨b3,b4⟩:=V1q _ 13 _ fC;clear de fC;cases hp:Pl.pre ((bs s).drop (a+1)) [10]
  ·simp only[U1v,U2c,U2i];have HP:=U10 hp;clear hp;have hw:=U1i ((a:Int)+1) Ya;refine Z126 ?_;intro bx cd fw;go_enter func65,ntmps65;go_wp2_with fail
   go_quiet (fail)
   go_wp2_with fail
   go_quiet (fail)
   go_wp2_with fail
   go_quiet ((go_at_call 56;exact O3d (O6 s ⟨#[10]⟩ (a+1) false HP.o _) ⟨_,rfl⟩))
   clear hw bx cd fw;go_wp2_with (go_at_call 63;refine (O1i _ (a+1) Ya _).mono ?_;rintro e w1 ⟨rfl,g1⟩;obtain⟨ah,ap,ax⟩:=g1.use);exact U11 (v:=.tuple #[(0:Int),fv 3 (a+1)]) (by simp[results,results65,go_sem,ah]) rfl ⟨rfl,Gr.auto⟩
  simp only[U1v,U2c,U2i];have HP:=U10 hp;clear hp;have hw:=U1i ((a:Int)+1) Ya;refine Z126 ?_;intro bx cd fw;go_enter func65,ntmps65;go_wp2_with fail
  go_quiet (fail)
  go_wp2_with fail
  go_quiet (fail)
  go_wp2_with fail
  go_quiet ((go_at_call 56;exact O3d (O6 s ⟨#[10]⟩ (a+1) true HP.o _) ⟨_,rfl⟩))
  clear hw bx cd fw;go_wp2_with fail;exact U11 (v:=.tuple #[(2:Int),f0]) (by simp[results,results65,go_sem]) rfl ⟨rfl,Gr.auto⟩
 obtain⟨b1,b2⟩:=V1q _ 10 _ de;clear de;simp only[U2i];go_enter func65,ntmps65;go_wp2_with fail
 go_quiet (fail)
 go_wp2_with fail;exact U11 (v:=.tuple #[(1:Int),f0]) (by simp[results,results65,go_sem]) rfl ⟨rfl,Gr.auto⟩
theorem Oju(w:World)(R:Nat)(s:ByteArray)(a:Nat)(q:UInt8)(out:List UInt8)(ov:Value)(h:RdQ w R s a q out ov)(aa:a<s.size)(hs:s.size<=20000000)(ho:out.length<=a) :
    Calls prog 250 #[.pointer (some ⟨R,0,none⟩)] w λ e w'=>match V3z q ((bs s).drop a) with
     |.go n t over=>e=.returned (.bool over)/\∃aG,RdQ w' R s (a+n) q (out++t) aG/\St (FQ R ov) (FQ R aG) w w'
     |.bad _=>False:=by
 obtain⟨X,hX⟩:∃X:Ending->World->Prop,X=λ e w'=>match V3z q ((bs s).drop a) with
     |.go n t over=>e=.returned (.bool over)/\∃aG,RdQ w' R s (a+n) q (out++t) aG/\St (FQ R ov) (FQ R aG) w w'
     |.bad _=>False:=⟨_,rfl⟩
 rw[<-hX];have HX:=U10 hX;clear hX;obtain⟨c0,c1,c2,c3,fz⟩:=h.cells;have EB:=fz 1;have hR:=h.lt;have HS:=U10 h;clear fz h;go_enter func250,ntmps250;go_wp2_with fail
 go_loopw [3] (λ n wr=>∃k:Nat,n=.int .i64 k/\k<=5/\k<=Pl.run q ((bs s).drop a)/\∃m,wr=w.drewN m) (λ n _=>5-(intOf n).toNat)
 case atStart=>exact⟨0,rfl,Ya,Ya,0,rfl⟩
 case round =>
  obtain⟨k,rfl,Bx,gl,m,rfl⟩:=hrel;have hw:=U1i ((a:Int)+k) Ya;have bx:(0:Int)<=(a:Int)+k:=Ya;have fw:((a:Int)+k).toNat=a+k:=Ya
  rcases V99 q (bs s) a k (by rw[O0];omega) gl with⟨h1,h2,h3,h4⟩|fh
  ·have pv:a+k<s.size:=by rw[<-O0];exact h1
   obtain⟨b1,b2⟩:=V1q _ _ _ (show ((s[a+k]'pv).toNat==q.toNat)=true from h3);have vp:decide ((k:Int)<5)=true:=Ye;clear h3;have cd:(a:Int)+k<(s.size:Int):=Ya
   go_wp2_with fail
   go_quiet (fail)
   clear hw;go_wp2_with fail
   go_roundw
   case rel=>exact⟨k+1,by go_num,Ya,h4,_,rfl⟩
   case measure=>simp[intOf];omega
  obtain⟨hM,a9⟩:=fh Bx;have HM:=U10 hM;clear hM fh;rcases a9 with h1|⟨h1,h2⟩|⟨h1,h2,h3⟩
  all_goals first
   |(have Pw:=h3;have pv:a+k<s.size:=by { rw[<-O0];exact h1 };obtain⟨b1,b2⟩:=V1q _ _ _ (show ((s[a+k]'pv).toNat==q.toNat)=false from h3);clear h3 Pw;have vp:decide ((k:Int)<5)=true:=by { simp;omega };have cd:(a:Int)+k<(s.size:Int):=by omega)
   |(have GO:=h2;rw[O0]at h1;have vp:decide ((k:Int)<5)=false:=by { simp;omega };have Px:decide ((a:Int)+k<(s.size:Int))=true:=by { simp;omega })
   |(rw[O0]at h1;have Px:decide ((a:Int)+k<(s.size:Int))=false:=by { simp;omega })
  all_goals
   go_wp2_with fail
   go_quiet (fail)
   clear hw;by_cases hk:3<=k
   ·have rP:decide (3<=(k:Int))=true:=by simp;omega
    go_wp2_with fail
    go_loopw [48] (λ i wr=>∃(j:Nat)(py:Value),i=.int .i64 j/\j<=(k-3)/\RdQ wr R s (a+j) q (out++List.replicate j q) py/\St (FQ R ov) (FQ R py) w wr) (λ i _=>(k-3)-(intOf i).toNat)
    case atStart=>exact⟨0,ov,rfl,Ya,by simpa using (HS.o.drewN _),St.auto⟩
    case round =>
     obtain⟨j,py,rfl,hj,fd,dy⟩:=hrel;obtain⟨d0,d1,d2,d3,gz⟩:=fd.cells;have Py:=gz 1;have aS:=fd.lt;have HD:=U10 fd;have HT:=U10 dy;clear fd dy gz c0 c1 c2 c3 d0 d3;by_cases rQ:j<(k-3)
     ·go_wp2_with fail;refine (O3p _ R s (a+j) q (out++List.replicate j q) py (RdQ.auto HD.o) 1 1 rfl Ya [q] wr.heap.size 0 1 Yb Ya (O5a _ _ _ _ Yb) Ye).mono ?_;rintro e w1 ⟨rfl,GQ,cL,aM⟩;have aP:=U10 cL;have gd:=U10 aM;clear cL aM;go_wp2_with fail
      go_roundw
      case rel =>
       refine⟨j+1,GQ,by go_num,Ya,?_,?_⟩;have:=aP.o;rw[U3f,show List.replicate j q++[q]=List.replicate (j+1) q from by rw[U4p]]at this;exact this
       have h1:=HT.o;have h2:=gd.o;exact St.auto
      case measure=>simp[intOf];omega
     have GR:¬(j:Int)<((k:Int)-3):=Ya;go_wp2_with fail;have e3:j=k-3:=Ya;have fd:=HD.o;have dy:=HT.o;rw[HX.o];unfold V3z;rw[HM.o];simp only;rw[U18 hk];have e4:(↑a + ↑j+3:Int)=((a+k:Nat):Int):=Ya;rw[e3]at fd;refine⟨rfl,py,?_,?_⟩;rw[e4];exact fd.setAt (a+k)
     exact dy.setCell (.inl (.inl rfl)) _
   first
    |(exfalso;omega)
    | (have rP:decide (3<=(k:Int))=false:=by simp;omega
       go_wp2_with fail
       go_loopw [48] (λ i wr=>∃(j:Nat)(py:Value),i=.int .i64 j/\j<=k/\RdQ wr R s (a+j) q (out++List.replicate j q) py/\St (FQ R ov) (FQ R py) w wr) (λ i _=>k-(intOf i).toNat)
       case atStart=>exact⟨0,ov,rfl,Ya,by simpa using (HS.o.drewN _),St.auto⟩
       case round =>
        obtain⟨j,py,rfl,hj,fd,dy⟩:=hrel;obtain⟨d0,d1,d2,d3,gz⟩:=fd.cells;have Py:=gz 1;have aS:=fd.lt;have HD:=U10 fd;have HT:=U10 dy;clear fd dy gz c0 c1 c2 c3 d0 d3;by_cases rQ:j<k
        ·go_wp2_with fail;refine (O3p _ R s (a+j) q (out++List.replicate j q) py (RdQ.auto HD.o) 1 1 rfl Ya [q] wr.heap.size 0 1 Yb Ya (O5a _ _ _ _ Yb) Ye).mono ?_;rintro e w1 ⟨rfl,GQ,cL,aM⟩;have aP:=U10 cL;have gd:=U10 aM;clear cL aM;go_wp2_with fail
         go_roundw
         case rel =>
          refine⟨j+1,GQ,by go_num,Ya,?_,?_⟩;have:=aP.o;rw[U3f,show List.replicate j q++[q]=List.replicate (j+1) q from by rw[U4p]]at this;exact this
          have h1:=HT.o;have h2:=gd.o;exact St.auto
         case measure=>simp[intOf];omega
        have GR:¬(j:Int)<(k:Int):=Ya;go_wp2_with fail;have e3:j=k:=Ya;have fd:=HD.o;have dy:=HT.o;rw[HX.o];unfold V3z;rw[HM.o];simp only;rw[U1b hk];rw[e3]at fd;exact⟨rfl,py,fd,dy⟩)
def O5c(R:Nat)(s:ByteArray)(a:Nat)(q:UInt8)(out:List UInt8)(ov:Value)(w:World)(c:Option Pl.SR)(e:Ending)(w':World):Prop :=
 match c with
 |none=>e=.returned (.tuple #[.bool false,.bool false,f0])/\Gr w w'
 |some (.go n t over)=>e=.returned (.tuple #[.bool true,.bool over,f0])/\∃aG,RdQ w' R s (a+n) q (out++t) aG/\St (FQ R ov) (FQ R aG) w w'
 |some (.bad p)=>e=.returned (.tuple #[.bool true,.bool false,fv 3 (a+p)])/\Gr w w'
theorem Ojv(q:UInt8)(l:List UInt8):∃n t b,V3z q l=.go n t b:=by
 unfold V3z;simp only;split <;> exact⟨_,_,_,rfl⟩
theorem Obh{w:World}{b:Nat}{x y u v:Value}(h0:w.cell? b=some u)(h1:w.cell? ⟨b,1,none⟩=some v):((w.setCell b x).setCell ⟨b,1,none⟩ y).cell? b=some x/\((w.setCell b x).setCell ⟨b,1,none⟩ y).cell? ⟨b,1,none⟩=some y:=by
 refine⟨?_,?_⟩;exact J33
 exact J32
theorem Ooz{w:World}{b:Nat}{x y u v:Value}(h0:w.cell? b=some u)(h1:w.cell? ⟨b,1,none⟩=some v):((w.setCell b x).setCell ⟨b,1,none⟩ y).drew.cell? b=some x/\((w.setCell b x).setCell ⟨b,1,none⟩ y).drew.cell? ⟨b,1,none⟩=some y:=Obh h0 h1
theorem O9d(w:World)(R:Nat)(s:ByteArray)(a:Nat)(q:UInt8)(out:List UInt8)(ov:Value)(h:RdQ w R s a q out ov)(aa:a<s.size)(hs:s.size<=20000000)(ho:out.length<=a)(hm:(s[a].toNat==q.toNat)=true):Calls prog 249 #[.pointer (some ⟨R,0,none⟩)] w (O5c R s a q out ov w (V1m q ((bs s).drop a))):=by
 have eF:V1m q ((bs s).drop a)=some (V3z q ((bs s).drop a)):=by
  rw[O9 s a aa];unfold V1m;simp only;rw[U18 hm]
 obtain⟨n,t,b,xF⟩:=Ojv q ((bs s).drop a);rw[eF,xF];obtain⟨X,hX⟩:∃X:Ending->World->Prop,X=O5c R s a q out ov w (some (.go n t b)):=⟨_,rfl⟩
 rw[<-hX];have HX:=U10 hX;have HM:=U10 xF;obtain⟨b1,b2⟩:=V1q _ _ _ hm;refine Z232 ?_;intro c0 c1 c2 c3 fz hR;have HS:=U10 h;clear fz h hm xF eF hX c3;go_enter func249,ntmps249;go_wp2_with fail
 go_quiet (fail)
 go_wp2_with fail
 go_region_held3 (λ w'=>w'.cell? w=some (.int .i64 0)/\w'.cell? ⟨w,1,none⟩=some (.int .i64 0)) (first|go_keep|exact Obh Ym Ym|exact Ooz Ym Ym)
  (first|(go_at_call 250;refine (Oju _ R s a q out ov (RdQ.auto HS.o) aa hs ho).mono ?_;rw[HM.o];rintro e w1 ⟨rfl,aG,hr,a9⟩;have aR:=a9.use w.heap.size Yb (λ hF=>by have:=HS.o.own_lt hF;omega);obtain⟨ah,ap⟩:=aR;have e0:w1.cell? w=some (.int .i64 0):=(by rw[ah];simp[go_sem]);have e1:w1.cell? ⟨w,1,none⟩=some (.int .i64 0):=(by rw[ah];simp[go_sem]);have e2:w1.frozen? w=false:=(by rw[ap];simp[go_sem]);have e3:w1.frozen? ⟨w,1,none⟩=false:=(by rw[ap];simp[go_sem]);clear ah ap;have HR:=U10 hr;have HT:=U10 a9;clear hr a9))
 all_goals go_wp2_with fail
 refine U11 (v:=.tuple #[.bool true,.bool b,f0]) (by simp[results,results249,go_sem,e0,e1]) rfl ?_;rw[HX.o];have a9:=HT.o;have eX:¬FQ R aG w.heap.size:=λ hF=>by
  rcases HT.o.own _ hF with hF|hF
  have:=HS.o.own_lt hF;omega
  simp at hF;omega
 exact⟨rfl,aG,RdQ.auto HR.o,St.auto⟩
theorem O9e(w:World)(R:Nat)(s:ByteArray)(a:Nat)(q:UInt8)(out:List UInt8)(ov:Value)(h:RdQ w R s a q out ov)(aa:a<s.size)(hs:s.size<=20000000)(hm:(s[a].toNat==q.toNat)=false)(hf:Pl.feed ((bs s).drop a)=.ok 0):Calls prog 249 #[.pointer (some ⟨R,0,none⟩)] w λ e w'=>e=.returned (.tuple #[.bool false,.bool false,f0])/\Gr w w':=by
 have HF:=U10 hf;obtain⟨b1,b2⟩:=V1q _ _ _ hm;refine Z232 ?_;intro c0 c1 c2 c3 fz hR;have HS:=U10 h;clear fz h hm hf c3;go_enter func249,ntmps249;go_wp2_with fail
 go_quiet (fail)
 go_wp2_with fail;refine Z290 ?_;refine Z85 ?_;intro w1 g1 ah ap ax;have e0:w1.cell? w=some (.int .i64 0):=(by rw[ah _ _ Yb];simp[go_sem])
 have e1:w1.cell? ⟨w,1,none⟩=some (.int .i64 0):=(by rw[ah _ _ Yb];simp[go_sem])
 have e2:w1.frozen? w=false:=(by rw[ap _ _ Yb];simp[go_sem])
 have e3:w1.frozen? ⟨w,1,none⟩=false:=(by rw[ap _ _ Yb];simp[go_sem])
 clear ah ap;go_wp2_with fail;refine Z125 ?_;intro k2 k3 g2;generalize (w1.setCell w (0:Int)).setCell ⟨w,1,none⟩ (0:Int)=W2 at *;obtain⟨m0,m1⟩:=k2;have m2:=(k3 0).trans e2;have m3:=(k3 1).trans e3;clear e0 e1 e2 e3 k3 ax
 set_option maxRecDepth 100000 in
 go_still_tail 10,Yc
 go_wp2_with fail;exact U11 (v:=.tuple #[.bool false,.bool false,f0]) (by simp[results,results249,go_sem,m0,m1]) rfl ⟨rfl,Gr.auto⟩
theorem Oaz(w:World)(R:Nat)(s:ByteArray)(a:Nat)(q:UInt8)(out:List UInt8)(ov:Value)(h:RdQ w R s a q out ov)(aa:a<s.size)(hs:s.size<=20000000)(hm:(s[a].toNat==q.toNat)=false)(hf:Pl.feed ((bs s).drop a)=.bad 3 1):Calls prog 249 #[.pointer (some ⟨R,0,none⟩)] w λ e w'=>e=.returned (.tuple #[.bool true,.bool false,fv 3 (a+1)])/\Gr w w':=by
 have HF:=U10 hf;obtain⟨b1,b2⟩:=V1q _ _ _ hm;refine Z232 ?_;intro c0 c1 c2 c3 fz hR;have HS:=U10 h;clear fz h hm hf c3;go_enter func249,ntmps249;go_wp2_with fail
 go_quiet (fail)
 go_wp2_with fail;refine Z290 ?_;refine Z85 ?_;intro w1 g1 ah ap ax;have e0:w1.cell? w=some (.int .i64 0):=(by rw[ah _ _ Yb];simp[go_sem])
 have e1:w1.cell? ⟨w,1,none⟩=some (.int .i64 0):=(by rw[ah _ _ Yb];simp[go_sem])
 have e2:w1.frozen? w=false:=(by rw[ap _ _ Yb];simp[go_sem])
 have e3:w1.frozen? ⟨w,1,none⟩=false:=(by rw[ap _ _ Yb];simp[go_sem])
 clear ah ap;go_wp2_with fail;have k2:=Obh (x:=.int .i64 3) (y:=.int .i64 ((a:Int)+1)) e0 e1;have k3:∀o,((w1.setCell w (3:Int)).setCell ⟨w,1,none⟩ (.int .i64 ((a:Int)+1))).frozen? ⟨w,o,none⟩=w1.frozen? ⟨w,o,none⟩:=by
  exact J34
 have g2:Gr w ((w1.setCell w (3:Int)).setCell ⟨w,1,none⟩ (.int .i64 ((a:Int)+1))):=Gr.auto;generalize (w1.setCell w (3:Int)).setCell ⟨w,1,none⟩ (.int .i64 ((a:Int)+1))=W2 at *;obtain⟨m0,m1⟩:=k2;have m2:=(k3 0).trans e2;have m3:=(k3 1).trans e3;clear e0 e1 e2 e3 k3 ax
 set_option maxRecDepth 100000 in
 go_still_tail 10,Yc
 go_wp2_with fail;exact U11 (v:=.tuple #[.bool true,.bool false,fv 3 (a+1)]) (by simp[results,results249,go_sem,m0,m1]) rfl ⟨rfl,Gr.auto⟩
attribute [local go_sem ↓] Go.wp_at_zero Go.wp_at_succ
theorem Ojw(w:World)(R:Nat)(s:ByteArray)(a:Nat)(q:UInt8)(out:List UInt8)(ov:Value)(h:RdQ w R s a q out ov)(i:Int)(m:Nat)(hi:i=m)(ha:a+m<=30000000)(nb:List UInt8)(tb vo c l:Nat)(hl:l=nb.length)(a8:nb≠[])(GN:tb≠R)(ma:∀j u,(nb.map O4)[j]?=some u->w.cell? ⟨tb,vo+j,none⟩=some u)(ad:out.length+nb.length<=30000000):Calls prog 241 #[.pointer (some ⟨R,0,none⟩),i,.slice (some ⟨tb,vo,none⟩) l c] w λ e w' => e=.returned (.tuple #[])/\∃aG,RdQ w' R s (a+m) q (out++nb) aG/\St (FQ R ov) (FQ R aG) w w':=by
 subst hl;exact O3p w R s a q out ov h i m hi ha nb tb vo c a8 GN ma ad
theorem RdQ.bytes{w R s a q out ov}(h:RdQ w R s a q out ov)(e:TypeId)(x:ByteArray):RdQ (Lib.bytesWorld w e x) R s a q out ov:=h.gr (below_bytesWorld _ _ _ _ (U12 _))
theorem Gr.bytes{a b:World}(h:Gr a b)(e:TypeId)(x:ByteArray):Gr a (Lib.bytesWorld b e x):=h.trans (below_bytesWorld _ _ _ _ (U12 _))
theorem Ojx(s:ByteArray)(a n:Nat)(h:a+n<=s.size):bs (s.extract a (a+n))=((bs s).drop a).take n:=by
 simp only[bs,U3b];congr 1;omega
theorem Ofy(W:World)(s:ByteArray)(a n:Nat)(h:a+n<=s.size)(b:Nat)(hb:b=W.heap.size):∀j u,((((bs s).drop a).take n).map O4)[j]?=some u->(Lib.bytesWorld W 5 (s.extract a (a+n))).cell? ⟨b,0+j,none⟩=some u:=by
 subst hb;intro j u hu;rw[<-Ojx s a n h]at hu;have hj:j<(s.extract a (a+n)).size:=by
  have:=(U16.1 hu).1;rw[U1n,O0]at this;exact this
 rw[U1q,U3e _ _ _ j hj,<-hu];rw[U1m,U1j];have:(bs (s.extract a (a+n)))[j]?=some ((bs (s.extract a (a+n)))[j]'(by rw[O0];exact hj)):=U1h _;rw[this];rfl
theorem Obz(w:World)(R:Nat)(s:ByteArray)(a:Nat)(q:UInt8)(out:List UInt8)(ov:Value)(h:RdQ w R s a q out ov)(aa:a<s.size)(hs:s.size<=20000000)(ho:out.length<=a)(hm:(s[a].toNat==q.toNat)=false)(n:Nat)(hn:0<n)(LM:a+n<=s.size)(hf:Pl.feed ((bs s).drop a)=.ok n):Calls prog 249 #[.pointer (some ⟨R,0,none⟩)] w λ e w'=>e=.returned (.tuple #[.bool true,.bool false,f0])/\∃aG,RdQ w' R s (a+n) q (out++((bs s).drop a).take n) aG/\St (FQ R ov) (FQ R aG) w w':=by
 have HF:=U10 hf;obtain⟨b1,b2⟩:=V1q _ _ _ hm;refine Z232 ?_;intro c0 c1 c2 c3 fz hR;have HS:=U10 h;have hw:=U1i ((a:Int)+n) Ya;have bx:(0:Int)<=(a:Int)+n:=Ya;have cd:(a:Int)+n<=(s.size:Int):=Ya;have fw:((a:Int)+n).toNat=a+n:=Ya;have dE:=λ(w:World)(s:ByteArray)=>U3g (P:=prog) w 9 22 5 s underlying9 underlying22 underlying5
 clear fz h hm hf c3;go_enter func249,ntmps249;go_wp2_with fail
 go_quiet (fail)
 go_wp2_with fail;refine Z290 ?_;refine Z85 ?_;intro w1 g1 ah ap ax;have e0:w1.cell? w=some (.int .i64 0):=(by rw[ah _ _ Yb];simp[go_sem])
 have e1:w1.cell? ⟨w,1,none⟩=some (.int .i64 0):=(by rw[ah _ _ Yb];simp[go_sem])
 have e2:w1.frozen? w=false:=(by rw[ap _ _ Yb];simp[go_sem])
 have e3:w1.frozen? ⟨w,1,none⟩=false:=(by rw[ap _ _ Yb];simp[go_sem])
 clear ah ap;go_wp2_with fail;refine Z125 ?_;intro k2 k3 g2;have aL:((w1.setCell w (0:Int)).setCell ⟨w,1,none⟩ (0:Int)).heap.size=w1.heap.size:=by simp[World.setCell]
 generalize (w1.setCell w (0:Int)).setCell ⟨w,1,none⟩ (0:Int)=W2 at *;obtain⟨m0,m1⟩:=k2;have m2:=(k3 0).trans e2;have m3:=(k3 1).trans e3;have j9:w.heap.size+1<=W2.heap.size:=Ya
 have tq:=HS.o.gr g2;obtain⟨d0,d1,d2,d3,dz⟩:=tq.cells;have xG:=tq.lt;have kA:=U10 tq;clear e0 e1 e2 e3 k3 ax aL tq dz d3 c0 c1 c2;have bY:n=(((bs s).drop a).take n).length:=by
  rw[U2d,U15,O0];omega
 have By:=U10 bY;clear bY;have HD:Hid (RdQ W2.drew R s a q out ov):=kA.o.drew
 set_option maxRecDepth 100000 in
 go_region_with (go_at_call 241;refine (Ojw _ R s a q out ov (HD.o.bytes _ _) n n rfl Ya (((bs s).drop a).take n) _ 0 _ _ By.o (by intro e;have:=By.o;rw[e]at this;simp at this;omega) Ya (Ofy _ s a n Ya _ Yb) (by rw[<-By.o];omega)).mono ?_;rintro e w3 ⟨rfl,aG,hr,a9⟩;have HR:=U10 hr;have HT:=U10 a9;clear hr a9)
 all_goals (
  have hu:=HT.o.use w.heap.size (by rw[Lib.bytesWorld_size];simp;omega) (λ hF=>by have:=HS.o.own_lt hF;omega);have xH:=Lib.bytesWorld_at_old W2.drew 5 (s.extract a (a+n)) w.heap.size Ye;have p0:w3.cell? w=some (.int .i64 0):=(hu.1 0).trans ((U1r (w:=W2.drew) (a:=w) xH).trans m0);have p1:w3.cell? ⟨w,1,none⟩=some (.int .i64 0):=(hu.1 1).trans ((U1r (w:=W2.drew) (a:=⟨w,1,none⟩) xH).trans m1);have p2:w3.frozen? w=false:=(hu.2 0).trans ((U33 (w:=W2.drew) (a:=w) xH).trans m2);have p3:w3.frozen? ⟨w,1,none⟩=false:=(hu.2 1).trans ((U33 (w:=W2.drew) (a:=⟨w,1,none⟩) xH).trans m3);have eX:¬FQ R aG w.heap.size:=λ hF=>by
   rcases HT.o.own _ hF with hF|hF
   have:=HS.o.own_lt hF;omega
   rw[Lib.bytesWorld_size]at hF;simp at hF;omega
  have U0:Gr w (Lib.bytesWorld W2.drew 5 (s.extract a (a+n))):=g2.drew.bytes _ _;have EE:decide (0<(n:Int))=true:=Ye;clear hu xH m0 m1 m2 m3 d0 d1 d2 hw;go_wp2_with fail
  set_option maxRecDepth 100000 in
  go_still_tail 10,Yc
  go_wp2_with fail;refine U11 (v:=.tuple #[.bool true,.bool false,f0]) (by simp[results,results249,go_sem,p0,p1]) rfl ⟨rfl,aG,RdQ.auto HR.o,?_⟩;have a9:=HT.o;exact St.auto)
end
section
open Pl Go.Proofs.Tryz Go.RowKit Go.Joins
theorem Ohp(w:World)(R:Nat)(s:ByteArray)(a:Nat)(q:UInt8)(out:List UInt8)(ov:Value)(h:RdQ w R s a q out ov)(aa:a<s.size)(hs:s.size<=20000000)(ho:out.length<=a):Calls prog 249 #[.pointer (some ⟨R,0,none⟩)] w (O5c R s a q out ov w (V1m q ((bs s).drop a))):=by
 cases hm:(s[a].toNat==q.toNat)
 ·have hc:∀X,Pl.feed ((bs s).drop a)=X->V1m q ((bs s).drop a)=match X with
      |.ok 0=>none
      |.ok (n+1)=>some (.go (n+1) (((bs s).drop a).take (n+1)) false)
      |.bad _ p=>some (.bad p):=by
   intro X hX;rw[O9 s a aa]at hX⊢;unfold V1m;simp only;rw[U1b (by rw[hm];simp),hX]
   all_goals (cases X with
    |bad=>rfl
    |ok n=>cases n <;> rfl)
  cases hf:Pl.feed ((bs s).drop a) with
  |bad c p =>
   rw[hc _ hf];obtain⟨rfl,rfl⟩:=V4m _ _ _ hf;exact Oaz w R s a q out ov h aa hs hm hf
  |ok n =>
   rw[hc _ hf];cases n with
   |zero=>exact O9e w R s a q out ov h aa hs hm hf
   |succ n =>
    have hl:=V47 _ _ hf;rw[U15,O0]at hl;exact Obz w R s a q out ov h aa hs ho hm (n+1) Ya Ya hf
 exact O9d w R s a q out ov h aa hs ho hm
theorem Ohq(s:ByteArray)(a:Nat)(aa:a<s.size):V32 ((bs s).drop a)=if V2r s[a]=true then .go 1 [s[a]] false else .bad 0:=by
 rw[O9 s a aa];rfl
theorem Oa8(w:World)(R:Nat)(s:ByteArray)(a:Nat)(q:UInt8)(out:List UInt8)(ov:Value)(h:RdQ w R s a q out ov)(aa:a<s.size)(hs:s.size<=20000000)(ho:out.length<=a):Calls prog 240 #[.pointer (some ⟨R,0,none⟩)] w (O19 R s a q out ov w (V32 ((bs s).drop a))):=by
 rw[Ohq s a aa];cases hp:V2r s[a]
 rw[U1b Yb];exact (Oby w R s a q out ov h aa hs hp).mono λ e w' ⟨he,hg⟩=>⟨he,_,hg.st⟩
 rw[U18 rfl];exact Oay w R s a q out ov h aa hs ho hp
theorem O8d(w:World)(R:Nat)(s:ByteArray)(a:Nat)(q:UInt8)(out:List UInt8)(ov:Value)(h:RdQ w R s a q out ov)(aa:a<s.size)(hs:s.size<=20000000)(ho:out.length<=a):Calls prog 239 #[.agg #[.pointer (some ⟨R,0,none⟩)]] w (O19 R s a q out ov w (V56 q ((bs s).drop a))):=by
 have ce:V56 q ((bs s).drop a)=if (s[a].toNat==q.toNat)=true then .go 1 [] true else V32 ((bs s).drop a):=by
  rw[O9 s a aa];rfl
 rw[ce];have hR:=h.lt;cases hm:(s[a].toNat==q.toNat)
 ·rw[U1b Yb];refine Z244 ?_;intro X hX HX;have HS:=U10 h;have HM:=U10 hm;clear hX h hm ce;go_enter func239,ntmps239;go_wp2_with fail;refine Z318 ?_;intro w1 g1 ah ap ax;go_wp2_with fail;cases X with
  |bad p =>
   refine Z197 ?_;rintro e w2 ⟨rfl,F',a9⟩;have hu:=a9.use (w.heap.size+1) Ya (λ hF=>by have:=HS.o.own_lt hF;omega);have aL:=a9.size;obtain⟨aE,dj⟩:=hu;have HT:=U10 a9;clear a9;go_wp2_with fail;refine U11 (v:=.tuple #[.bool false,fv 3 (a+p)]) (by simp[results,results239,go_sem,aE,ah]) rfl ⟨rfl,F',?_⟩;exact J31
  |go n t over =>
   refine Z197 ?_;rintro e w2 ⟨rfl,aG,hr,a9⟩;have hu:=a9.use (w.heap.size+1) Ya (λ hF=>by have:=HS.o.own_lt hF;omega);have aL:=a9.size;obtain⟨aE,dj⟩:=hu;refine Z161 ?_;intro HR HT;have eX:¬FQ R aG (w.heap.size+1):=λ hF=>by
    rcases HT.o.own _ hF with hF|hF
    have:=HS.o.own_lt hF;omega
    omega
   clear hr a9;go_wp2_with fail;refine U11 (v:=.tuple #[.bool over,f0]) (by simp[results,results239,go_sem,aE,ah]) rfl ⟨rfl,aG,RdQ.auto HR.o,?_⟩;exact J31
 rw[U18 rfl];have HS:=U10 h;have HM:=U10 hm;clear h hm ce;go_enter func239,ntmps239;go_wp2_with fail;refine (O8c _ R s a q out ov (RdQ.auto HS.o) aa hs HM.o).mono ?_;rintro e w2 ⟨rfl,hr,a9⟩;refine Z220 ?_;intro hu;have aL:=a9.size;simp at aL;obtain⟨aE,dj⟩:=hu;have HR:=U10 hr;have HT:=U10 a9;have eX:¬FQ R ov (w.heap.size+1):=λ hF=>by have:=HS.o.own_lt hF;omega
 clear hr a9;go_wp2_with fail;refine U11 (v:=.tuple #[.bool true,f0]) (by simp[results,results239,go_sem,aE]) rfl ⟨rfl,ov,by rw[U3k];exact RdQ.auto HR.o,?_⟩;exact J31
theorem O5w(w:World)(R:Nat)(s:ByteArray)(a:Nat)(q:UInt8)(out:List UInt8)(ov:Value)(h:RdQ w R s a q out ov)(aa:a<s.size)(hs:s.size<=20000000)(ho:out.length<=a):Calls prog 248 #[.agg #[.pointer (some ⟨R,0,none⟩)]] w (O19 R s a q out ov w (V33 q ((bs s).drop a))):=by
 unfold V33;obtain⟨C,hC⟩:∃C,C=V1m q ((bs s).drop a):=⟨_,rfl⟩
 rw[<-hC];have HC:=U10 hC;clear hC;have hR:=h.lt;have HS:=U10 h;clear h;cases C with
 |some X =>
  simp only;cases X with
  |bad p =>
   go_enter func248,ntmps248;go_wp2_with fail;refine Z117 ?_;rw[<-HC.o];refine Z85 ?_;intro w2 g1 aE dj aL;refine Z127 ?_;intro dG dl;go_wp2_with fail
   go_region
   go_wp2_with fail;exact U11 (v:=.tuple #[.bool false,fv 3 (a+p)]) (by simp[results,results248,go_sem,aE,dG,dl]) rfl ⟨rfl,FQ R ov,St.auto⟩
  |go n t over =>
   go_enter func248,ntmps248;go_wp2_with fail;refine Z117 ?_;rw[<-HC.o];rintro e w2 ⟨rfl,aG,hr,a9⟩;refine Z220 ?_;intro hu;have aL:=a9.size;simp at aL;obtain⟨aE,dj⟩:=hu;have HR:=U10 hr;have HT:=U10 a9;have eX:¬FQ R aG (w.heap.size+1):=λ hF=>by
    rcases HT.o.own _ hF with hF|hF
    have:=HS.o.own_lt hF;omega
    simp at hF;omega
   clear hr a9;refine Z127 ?_;intro dG dl;go_wp2_with fail
   go_region
   go_wp2_with fail;refine U11 (v:=.tuple #[.bool over,f0]) (by simp[results,results248,go_sem,aE,dG,dl]) rfl ⟨rfl,aG,RdQ.auto HR.o,?_⟩;exact J31
 |none =>
  simp only;refine Z244 ?_;intro X hX HX;clear hX;go_enter func248,ntmps248;go_wp2_with fail;refine Z117 ?_;rw[<-HC.o];refine Z85 ?_;intro w1 g1 ah ap ax;refine Z168 ?_;intro dG dl;go_wp2_with fail;cases X with
  |bad p =>
   refine Z197 ?_;rintro e w2 ⟨rfl,F',a9⟩;refine Z18 ?_;intro aE dj aL;have HT:=U10 a9;clear a9;go_wp2_with fail;refine U11 (v:=.tuple #[.bool false,fv 3 (a+p)]) (by simp[results,results248,go_sem,aE,ah,dG,dl]) rfl ⟨rfl,F',?_⟩;exact J31
  |go n t over =>
   refine Z197 ?_;rintro e w2 ⟨rfl,aG,hr,a9⟩;refine Z18 ?_;intro aE dj aL;refine Z161 ?_;intro HR HT;have eX:¬FQ R aG (w.heap.size+1):=λ hF=>by
    rcases HT.o.own _ hF with hF|hF
    have:=HS.o.own_lt hF;omega
    simp at hF;omega
   clear hr a9;go_wp2_with fail;refine U11 (v:=.tuple #[.bool over,f0]) (by simp[results,results248,go_sem,aE,ah,dG,dl]) rfl ⟨rfl,aG,RdQ.auto HR.o,?_⟩;exact J31
end
