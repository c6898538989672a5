/- The proof's part 04. -/
import Derived.Test.YtnkgknbdaiakgaaGreatDoorQ05
import Derived.Lib.SmallJoins
import Derived.Deep.DrawnRows
set_option maxHeartbeats 16000000
set_option linter.all false
set_option maxRecDepth 100000
namespace Go.Proofs.YtnkgknbdaiakgaaGreatDoor
section
open Pl Go.Proofs.Tryz Go.RowKit Go.Joins
structure Vy where
 nd:Pl.Nd
 kv:Value
 sv:Value
 uv:Value
abbrev V2s(l:Pl.Bs):Value := .string ⟨l.toArray⟩
def ndV(r:Vy):List Value:=[.int .u8 r.nd.kind,V2s r.nd.text,r.kv,r.sv,r.uv,.int .i64 r.nd.sp.1,.int .i64 r.nd.sp.2]
def V34(L:List Vy):List Value:=L.flatMap ndV
def Oh(l:List Pl.Bs):List Value:=l.map V2s
def Oc(l:List (Nat×Nat)):List Value:=l.flatMap λ p=>[.int .i64 p.1,.int .i64 p.2]
def O6(l:List Nat):List Value:=l.map λ(i:Nat) => .int .i64 i
theorem O1b(r:Vy):(ndV r).length=7:=rfl
theorem O46(L:List Vy):(V34 L).length=L.length*7:=by
 unfold V34
 induction L with
 |nil=>rfl
 |cons r L ih=>rw[List.flatMap_cons,U1b,ih,O1b,U1d];omega
theorem O71(L:List Vy)(i j:Nat)(hj:j<7):(V34 L)[i*7+j]?=(L[i]?).bind λ r=>(ndV r)[j]?:=by
 induction L generalizing i with
 |nil=>simp[V34]
 |cons r L ih =>
  have e:V34 (r::L)=ndV r++V34 L:=by simp[V34]
  rw[e];cases i with
  |zero=>rw[U19 (by rw[O1b];omega)];simp
  |succ i =>
   rw[U1y (by rw[O1b];omega),O1b,show (i+1)*7+j-7=i*7+j from by omega,ih];rfl
theorem O1r(L:List Vy)(i j:Nat)(hj:j<7)(v:Value)(r r':Vy)(hr:L[i]?=some r)(he:(ndV r).set j v=ndV r'):(V34 L).set (i*7+j) v=V34 (L.set i r'):=by
 induction L generalizing i with
 |nil=>simp at hr
 |cons x L ih =>
  have e:∀(y:Vy)(M:List Vy),V34 (y::M)=ndV y++V34 M:=by intro y M;simp[V34]
  rw[e];cases i with
  |zero =>
   simp at hr;subst hr;rw[List.set_append_left _ _ (by rw[O1b];omega),U34,e,<-he];simp
  |succ i =>
   rw[U4a _ _ (by rw[O1b];omega),O1b,show (i+1)*7+j-7=i*7+j from by omega,ih i (by simpa using hr),U38,e]
def Ok(own:Nat->Nat)(v:Value)(t:Nat):Prop:=∀k,v.ownBlock=some k->own k=t
def V26(w:World)(base e size:Nat)(v:Value)(n:Nat)(xs:List Value):Prop :=
 ∃v0,w.ownsRow base e size v0 n xs/\v0.ownBlock=v.ownBlock/\(v=v0\/∃g c,v0=.slice (some ⟨g,0,none⟩) n c/\v=.slice (some ⟨g,0,none⟩) n n)
structure V5n(w:World)(base:Nat)(own:Nat->Nat)(i:Nat)(r:Vy):Prop where
 k:w.ownsRow base 9 1 r.kv r.nd.keys.length (Oh r.nd.keys)
 s:w.ownsRow base 38 2 r.sv r.nd.spots.length (Oc r.nd.spots)
 u:V26 w base 3 1 r.uv r.nd.subs.length (O6 r.nd.subs)
 u8:r.nd.kind=8->w.ownsRow base 3 1 r.uv r.nd.subs.length (O6 r.nd.subs)
 tk:Ok own r.kv (4+3*i)
 ts:Ok own r.sv (5+3*i)
 tu:Ok own r.uv (6+3*i)
abbrev V5o:=DataW Unit
def Olh(D:V5o)(L:List Vy):Prop:=Maps.IsMap D/\(∀i:Nat,L.length<=i->D.atKey i (.lit (0:Int))=.lit (0:Int)) /\
 ∀(i:Nat) r,L[i]?=some r->D.atKey i (.lit (0:Int))=.lit r.nd.owner
def V4f(L:List Vy):Nat:=(L.filter λ r=>r.nd.owner != 0).length
theorem O26(L M:List Vy):V4f (L++M)=V4f L+V4f M:=by simp[V4f]
theorem Om6(L:List Vy):V4f L<=L.length:=List.length_filter_le _ _
theorem O72:∀(L:List Vy)(i:Nat)(r r':Vy),L[i]?=some r->V4f (L.set i r')+V4f [r]=V4f L+V4f [r']
 |[],i,_,_,h=>by simp at h
 | x::L,0,r,r',h=>by
  simp only[U2a,U1f]at h;subst h;rw[U34,<-U4b,<-U4b (l:=L),O26,O26];omega
 | x::L,i+1,r,r',h=>by
  have:=O72 L i r r' (by simpa using h);rw[U38,<-U4b,<-U4b (l:=L),O26,O26];omega
theorem Oj8(r r':Vy)(h:r'.nd.owner=r.nd.owner):V4f [r']=V4f [r]:=by
 simp only[V4f,List.filter_cons,List.filter_nil,h];cases r.nd.owner != 0 <;> rfl
theorem O9n(L:List Vy)(i:Nat)(r r':Vy)(hr:L[i]?=some r)(h:r'.nd.owner=r.nd.owner):V4f (L.set i r')=V4f L:=by
 have:=O72 L i r r' hr;have:=Oj8 r r' h;omega
structure RdV(w:World)(R B base:Nat)(s:ByteArray)(root:Int)(nv:Value)(L:List Vy)(own:Nat->Nat):Prop where
 blk:w.heap[R]?=some (.cells #[nv,root,.string s,.map (some B)] 80 (0,0))
 oR:own R=1
 oB:own B=2
 nodes:w.ownsRow base 40 7 nv L.length (V34 L)
 oN:Ok own nv 3
 map:∃D:V5o,w.ownsMap prog 3 (plainElem (H:=Unit) prog 3) B (V4f L) D/\Olh D L
 rows:∀(i:Nat) r,L[i]?=some r->V5n w base own i r
 lt:∀k,own k≠0->base<=k/\k<w.heap.size
def FV(own:Nat->Nat)(k:Nat):Prop:=own k≠0
theorem O1{w w':World}{base e size n:Nat}{v:Value}{xs:List Value}(h:w.ownsRow base e size v n xs)(hb:∀k,v.ownBlock=some k->w'.heap[k]?=w.heap[k]?):w'.ownsRow base e size v n xs:=by
 refine⟨h.1,?_⟩;rcases h.2 with hn|⟨g,cap,cur,rfl,cr,y9,rest⟩
 exact .inl hn
 exact .inr ⟨g,cap,cur,rfl,cr,by rw[hb g rfl];exact y9,rest⟩
theorem V26.of_block{w w':World}{base e size n:Nat}{v:Value}{xs:List Value}(h:V26 w base e size v n xs)(hb:∀k,v.ownBlock=some k->w'.heap[k]?=w.heap[k]?):V26 w' base e size v n xs:=by
 obtain⟨v0,h1,h2,h3⟩:=h;exact⟨v0,O1 h1 (λ k e=>hb k (by rw[<-h2];exact e)),h2,h3⟩
theorem O16{w:World}{base e size n:Nat}{v:Value}{xs:List Value}(h:w.ownsRow base e size v n xs):V26 w base e size v n xs:=⟨v,h,rfl,.inl rfl⟩
theorem V26.lt{w:World}{base e size n:Nat}{v:Value}{xs:List Value}(h:V26 w base e size v n xs):∀k,v.ownBlock=some k->base<=k/\k<w.heap.size:=by
 obtain⟨v0,h1,h2,_⟩:=h;intro k hk;exact h1.lt k (by rw[h2];exact hk)
theorem V26.cells{w:World}{base e size n:Nat}{v:Value}{xs:List Value}(h:V26 w base e size v n xs){g:Nat}(hg:v.ownBlock=some g):∀j u,xs[j]?=some u->w.cell? ⟨g,j,none⟩=some u:=by
 obtain⟨v0,h1,h2,_⟩:=h;intro j u hu;have:=h1.cells (g:=g) (by rw[h2];exact hg) j u hu
 rwa [U49,U1v]at this
theorem V26.form{w:World}{base e size n:Nat}{v:Value}{xs:List Value}(h:V26 w base e size v n xs)(hn:0<n):∃g c,v=.slice (some ⟨g,0,none⟩) n c/\n<=c/\c<=maxLen:=by
 obtain⟨v0,h1,h2,h3⟩:=h;rcases h1.2 with⟨_,h0⟩|⟨g,cap,cur,hv,cr,y9,q1,q2,_⟩
 omega
 rcases h3 with rfl|⟨g',c',e1,e2⟩
 exact⟨g,cap,hv,q1,q2⟩
 exact⟨g',n,e2,U12 _,U1l q1 q2⟩
theorem Ow{w w':World}{k b n:Nat}{D:V5o}(h:w.ownsMap prog k (plainElem (H:=Unit) prog 3) b n D)(hb:w'.heap[b]?=w.heap[b]?):w'.ownsMap prog k (plainElem (H:=Unit) prog 3) b n D:=by
 exact J45
theorem V5n.kept{w w' base own i r}(h:V5n w base own i r)(hb:∀k,FV own k->w'.heap[k]?=w.heap[k]?):V5n w' base own i r :=
 ⟨O1 h.k λ k e=>hb k (by unfold FV;rw[h.tk k e];omega),O1 h.s λ k e=>hb k (by unfold FV;rw[h.ts k e];omega),h.u.of_block λ k e=>hb k (by unfold FV;rw[h.tu k e];omega),λ h8=>O1 (h.u8 h8) λ k e=>hb k (by unfold FV;rw[h.tu k e];omega),h.tk,h.ts,h.tu⟩
section
variable {w w':World}{R B base:Nat}{s:ByteArray}{root:Int}{nv:Value}{L:List Vy}{own:Nat->Nat}
theorem RdV.kept(h:RdV w R B base s root nv L own)(hb:∀k,FV own k->w'.heap[k]?=w.heap[k]?)(hz:w.heap.size<=w'.heap.size):RdV w' R B base s root nv L own:=by
 obtain⟨D,h1,h2⟩:=h.map;exact⟨by rw[hb R (by unfold FV;rw[h.oR];omega)];exact h.blk,h.oR,h.oB,O1 h.nodes λ k e=>hb k (by unfold FV;rw[h.oN k e];omega),h.oN,
  ⟨D,Ow h1 (hb B (by unfold FV;rw[h.oB];omega)),h2⟩,λ i r hr=>(h.rows i r hr).kept hb,λ k hk=>⟨(h.lt k hk).1,U13 (h.lt k hk).2 hz⟩⟩
theorem RdV.gr(h:RdV w R B base s root nv L own)(g:Gr w w'):RdV w' R B base s root nv L own:=h.kept (λ k hk=>g.block (h.lt k hk).2) g.size
theorem RdV.alloc(h:RdV w R B base s root nv L own)(o:Obj):RdV (w.alloc o) R B base s root nv L own:=h.gr ((Gr.refl w).alloc o)
theorem RdV.drew(h:RdV w R B base s root nv L own):RdV w.drew R B base s root nv L own:=h.gr (Gr.refl w).drew
theorem RdV.drewN(h:RdV w R B base s root nv L own)(n:Nat):RdV (w.drewN n) R B base s root nv L own:=h.gr ((Gr.refl w).drewN n)
theorem RdV.setCell(h:RdV w R B base s root nv L own){p:Addr}(hp:¬FV own p.block)(v:Value):RdV (w.setCell p v) R B base s root nv L own :=
 h.kept (λ k hk=>U15 _ _ _ _ (λ e=>by subst e;exact hp hk)) (by simp[World.setCell])
theorem RdV.not_new(h:RdV w R B base s root nv L own){k:Nat}(hk:w.heap.size<=k):¬FV own k:=λ e=>by have:=h.lt k e;omega
theorem RdV.R_lt(h:RdV w R B base s root nv L own):base<=R/\R<w.heap.size:=h.lt R (by rw[h.oR];omega)
theorem RdV.B_lt(h:RdV w R B base s root nv L own):base<=B/\B<w.heap.size:=h.lt B (by rw[h.oB];omega)
theorem RdV.cells(h:RdV w R B base s root nv L own):w.cell? R=some nv/\w.cell? ⟨R,1,none⟩=some (.int .i64 root)/\w.cell? ⟨R,2,none⟩=some (.string s)/\w.cell? ⟨R,3,none⟩=some (.map (some B))/\(∀i,w.frozen? ⟨R,i,none⟩=false) :=
 ⟨by rw[cell_of_block h.blk];rfl,by rw[cell_of_block h.blk];rfl,by rw[cell_of_block h.blk];rfl,by rw[cell_of_block h.blk];rfl,λ i=>unfrozen_of_block h.blk i⟩
theorem RdV.look(h:RdV w R B base s root nv L own)(i:Nat)(hi:i<=9223372036854775807)(r:Vy)(hr:L[i]?=some r)(W:World)(hW:W.heap[B]?=w.heap[B]?):(Instr.lookup 78 (.map (some B)) i false).run prog W=.ok r.nd.owner W:=by
 obtain⟨D,h1,h2⟩:=h.map;have qd:=Ow (w':=W) h1 hW;have hz:(zeroValue 3).run prog W=.ok (0:Int) W:=Yc;obtain⟨c,e1,e2,e3⟩:=qd.lookup_int (Maps.int_keyed underlying3) underlying78 underlying3 hz (U4d underlying3 (show (Lit.int .i64 (i:Int)).wf=true by simp[Lit.wf,IntKind.min,IntKind.max,IntKind.signed,IntKind.bits];omega));rw[h2.2.2 i r hr]at e2;cases e2;exact e1
theorem RdV.form(h:RdV w R B base s root nv L own)(hL:0<L.length):∃g cap cur,nv=.slice (some ⟨g,0,none⟩) L.length cap/\base<=g/\g<w.heap.size/\own g=3/\g≠R/\g≠B /\w.heap[g]?=some (.cells cur 40 (0,0))/\cur.size=cap*7/\L.length<=cap/\cap<=maxLen/\cur.toList.take (L.length*7)=V34 L:=by
 exact J46
theorem RdV.ndCells(h:RdV w R B base s root nv L own){g cap:Nat}(hv:nv=.slice g L.length cap)(i:Nat)(r:Vy)(hr:L[i]?=some r):w.cell? ⟨g,i*7,none⟩=some (.int .u8 r.nd.kind)/\w.cell? ⟨g,i*7+1,none⟩=some (V2s r.nd.text)/\w.cell? ⟨g,i*7+2,none⟩=some r.kv/\w.cell? ⟨g,i*7+3,none⟩=some r.sv/\w.cell? ⟨g,i*7+4,none⟩=some r.uv /\w.cell? ⟨g,i*7+5,none⟩=some (.int .i64 r.nd.sp.1)/\w.cell? ⟨g,i*7+6,none⟩=some (.int .i64 r.nd.sp.2)/\(∀o,w.frozen? ⟨g,o,none⟩=false):=by
 exact J149
end
theorem Ot(w:World)(base e size:Nat):w.ownsRow base e size (.slice none 0 0) 0 []:=World.ownsRow_nil _ _ _ _
theorem O6e(own:Nat->Nat)(t:Nat):Ok own (.slice none 0 0) t:=λ k h=>by simp[Value.ownBlock]at h
theorem Od{w:World}{base e size n:Nat}{v:Value}{xs:List Value}(h:w.ownsRow base e size v n xs){p:Addr}(hp:∀k,v.ownBlock=some k->k≠p.block)(x:Value):(w.setCell p x).ownsRow base e size v n xs :=
 O1 h λ k hk=>U15 _ _ _ _ (hp k hk)
def O7a(w w2:World)(R B base:Nat)(s:ByteArray)(root:Int)(L:List Vy)(own:Nat->Nat)(r:Vy)(nv':Value):Prop :=
 ∃own',RdV w2 R B base s root nv' (L++[r]) own'/\St (λ k=>FV own k\/r.uv.ownBlock=some k) (FV own') w w2/\(∀k,own' k≠0->own k≠0\/r.uv.ownBlock=some k\/w.heap.size<=k)
theorem RdV.appended{w W w1:World}{R B base:Nat}{s:ByteArray}{root:Int}{nv:Value}{L:List Vy}{own:Nat->Nat}(h:RdV w R B base s root nv L own)(g1:Gr w W)(r:Vy)(hk:r.kv=.slice none 0 0)(jN:r.sv=.slice none 0 0)(dB:r.nd.keys=[])(fT:r.nd.spots=[])(E':r.nd.owner=0)(hu:V26 w base 3 1 r.uv r.nd.subs.length (O6 r.nd.subs))(F1:r.nd.kind=8->w.ownsRow base 3 1 r.uv r.nd.subs.length (O6 r.nd.subs))(jq:∀k,r.uv.ownBlock=some k->own k=0/\k<w.heap.size)(g cap:Nat)(dG:w1.ownsRow base 40 7 (.slice g (L.length+1) cap) (L.length+1) (V34 L++ndV r))(hg:W.grownBy w1 nv.ownBlock)(cX:nv.ownBlock=some g\/g=W.heap.size)(a9:g<w1.heap.size):O7a w (w1.setCell R (.slice g (L.length+1) cap)) R B base s root L own r (.slice g (L.length+1) cap):=by
 have hR:=h.R_lt;have hB:=h.B_lt;have hz:=g1.size;have az:=hg.size;have vO:R≠B:=λ e=>by have h1:=h.oR;rw[e,h.oB]at h1;omega
 have eC:own g=3\/(own g=0/\w.heap.size<=g):=by
  exact J60
 have oZ:g≠R:=λ e=>by subst e;rw[h.oR]at eC;omega
 have tM:g≠B:=λ e=>by subst e;rw[h.oB]at eC;omega
 refine Z172 ?_;intro cG;have Hm:∀k,r.uv.ownBlock=some k->k≠g:=λ k e e2=>by
  have:=jq k e;subst e2;omega
 refine⟨λ k=>if r.uv.ownBlock=some k then 6+3*L.length else if k=g then 3 else own k,⟨?_,?_,?_,?_,?_,?_,?_,?_⟩,?_,?_⟩
 have hb:w1.heap[R]?=some (.cells #[nv,root,.string s,.map (some B)] 80 (0,0)):=by
  exact J59
 exact J58
 have:r.uv.ownBlock≠some R:=λ e=>by have:=jq R e;rw[h.oR]at this;omega
 simp only[this,U2f];rw[U1c (U3l oZ)];exact h.oR
 have:r.uv.ownBlock≠some B:=λ e=>by have:=jq B e;rw[h.oB]at this;omega
 simp only[this,U2f];rw[U1c (U3l tM)];exact h.oB
 have e:V34 (L++[r])=V34 L++ndV r:=by simp[V34]
 rw[e,U1b,U1z];exact J57
 intro k hk;simp[Value.ownBlock]at hk;subst hk;have:r.uv.ownBlock≠some g:=λ e=>Hm g e rfl
 simp only[this,U2f,U2o]
 obtain⟨D,h1,h2,h3,h4⟩:=h.map;refine⟨D,?_,h2,?_,?_⟩;exact Ow (h1.mono (by rw[O26];omega)) (cG B hB.2 (U3l vO) (by rw[h.oB];omega));intro i hi;exact h3 i (by simp at hi;omega)
 intro i x hx;rw[U3o]at hx
 split at hx;exact h4 i x hx
 have:i=L.length:=by
  have:=U14.1 hx;obtain⟨h5,_⟩:=this;simp at h5;omega
 subst this;simp at hx;subst hx;rw[h3 L.length (U12 _),E'];rfl
 intro i x hx;rw[U3o]at hx
 split at hx
 rename_i hi
 have hr:=h.rows i x hx;have Hn:∀v t,Ok own v t->t≠0->t≠3->Ok (λ k=>if r.uv.ownBlock=some k then 6+3*L.length else if k=g then 3 else own k) v t:=by
  intro v t ht h0 h3 k hk;have h5:=ht k hk;have h6:r.uv.ownBlock≠some k:=λ e=>by have:=jq k e;omega
  have h7:k≠g:=λ e=>by subst e;omega
  simp only[h6,U2f];rw[U1c h7];exact h5
 have kp:∀ {e size n v xs t},w.ownsRow base e size v n xs->Ok own v t->4<=t->(w1.setCell R (.slice g (L.length+1) cap)).ownsRow base e size v n xs:=by
  intro e size n v xs t ho ht h4;refine O1 ho λ k hk=>cG k ?_ ?_ ?_
  exact (h.lt k (by rw[ht k hk];omega)).2;intro e;subst e;have:=ht k hk;rw[h.oR]at this;omega
  rw[ht k hk];omega
 have kc:∀ {e size n v xs t},V26 w base e size v n xs->Ok own v t->4<=t->V26 (w1.setCell R (.slice g (L.length+1) cap)) base e size v n xs:=by
  intro e size n v xs t ho ht h4;refine ho.of_block λ k hk=>cG k ?_ ?_ ?_
  exact (h.lt k (by rw[ht k hk];omega)).2;intro e;subst e;have:=ht k hk;rw[h.oR]at this;omega
  rw[ht k hk];omega
 exact⟨kp hr.k hr.tk Ya,kp hr.s hr.ts Ya,kc hr.u hr.tu Ya,λ h8=>kp (hr.u8 h8) hr.tu Ya,Hn _ _ hr.tk Ya Ya,Hn _ _ hr.ts Ya Ya,Hn _ _ hr.tu Ya Ya⟩
 have Ho:i=L.length:=by
  obtain⟨h5,_⟩:=U14.1 hx;simp at h5;omega
 subst Ho;simp at hx;subst hx;refine⟨by rw[hk,dB];exact Ot _ _ _ _,by rw[jN,fT];exact Ot _ _ _ _,?_,?_,by rw[hk];exact O6e _ _,by rw[jN];exact O6e _ _,?_⟩
 refine hu.of_block λ k e=>cG k (jq k e).2 (λ e2=>?_) (by rw[(jq k e).1];omega)
 have:=(jq k e).1;subst e2;rw[h.oR]at this;omega
 intro h8;refine O1 (F1 h8) λ k e=>cG k (jq k e).2 (λ e2=>?_) (by rw[(jq k e).1];omega)
 have:=(jq k e).1;subst e2;rw[h.oR]at this;omega
 intro k e;simp only[e,U2o]
 intro k hk;have dX:(w1.setCell R (.slice g (L.length+1) cap)).heap.size=w1.heap.size:=by simp[World.setCell]
 rw[dX]
 split at hk
 rename_i e
 have h5:=(jq k e).2;exact⟨(hu.lt k e).1,Ya⟩
 exact J159
 refine⟨?_,?_,?_,?_,?_,?_⟩;exact hg.os.trans (Below.os g1);exact hg.tape.trans (Below.tape g1);exact hg.output.trans (Below.output g1)
 have:(w1.setCell R (.slice g (L.length+1) cap)).heap.size=w1.heap.size:=by simp[World.setCell]
 omega;exact J179
 intro k hk;unfold FV at hk
 replace hk:(if r.uv.ownBlock=some k then 6+3*L.length else if k=g then 3 else own k)≠0:=hk
 split at hk;rename_i e;exact .inl (.inr e)
 exact J174
 intro k hk
 replace hk:(if r.uv.ownBlock=some k then 6+3*L.length else if k=g then 3 else own k)≠0:=hk
 split at hk;rename_i e;exact .inr (.inl e)
 exact J184
structure V20(w0 W:World)(base:Nat)(F:Nat->Prop)(kv sv uv:Value)(nk ns nu:Nat)(xk xs xu:List Value):Prop where
 st:St F (λ _=>False) w0 W
 k:W.ownsRow base 9 1 kv nk xk
 s:W.ownsRow base 38 2 sv ns xs
 u:W.ownsRow base 3 1 uv nu xu
 fk:∀b,kv.ownBlock=some b->F b\/w0.heap.size<=b
 fs:∀b,sv.ownBlock=some b->F b\/w0.heap.size<=b
 fu:∀b,uv.ownBlock=some b->F b\/w0.heap.size<=b
 ks:∀b,kv.ownBlock=some b->sv.ownBlock≠some b
 ku:∀b,kv.ownBlock=some b->uv.ownBlock≠some b
 su:∀b,sv.ownBlock=some b->uv.ownBlock≠some b
structure V3b(W:World)(b:Nat)(cs:Array Value)(T:TypeId)(kv sv uv:Value):Prop where
 blk:W.heap[b]?=some (.cells cs T (0,0))
 k:kv.ownBlock≠some b
 s:sv.ownBlock≠some b
 u:uv.ownBlock≠some b
section
variable {w0 W w1:World}{base:Nat}{F:Nat->Prop}{kv sv uv:Value}{nk ns nu:Nat}{xk xs xu:List Value}
theorem St.grownF{F F':Nat->Prop}{a b c:World}{row:Option Nat}(h:St F F' a b)(g:b.grownBy c row)(hr:∀k,row=some k->F k\/a.heap.size<=k):St F F' a c:=h.grown g hr
theorem V20.size(h:V20 w0 W base F kv sv uv nk ns nu xk xs xu):w0.heap.size<=W.heap.size:=h.st.size
theorem V20.alloc(h:V20 w0 W base F kv sv uv nk ns nu xk xs xu)(o:Obj):V20 w0 (W.alloc o) base F kv sv uv nk ns nu xk xs xu :=
 ⟨h.st.alloc o,h.k.alloc o,h.s.alloc o,h.u.alloc o,h.fk,h.fs,h.fu,h.ks,h.ku,h.su⟩
theorem V20.drew(h:V20 w0 W base F kv sv uv nk ns nu xk xs xu):V20 w0 W.drew base F kv sv uv nk ns nu xk xs xu :=
 ⟨h.st.drew,h.k,h.s,h.u,h.fk,h.fs,h.fu,h.ks,h.ku,h.su⟩
theorem V20.newB(h:V20 w0 W base F kv sv uv nk ns nu xk xs xu)(cs:Array Value)(T:TypeId):V3b (W.alloc (.cells cs T)) W.heap.size cs T kv sv uv :=
 ⟨U1w _ _,λ e=>by have:=(h.k.lt _ e).2;omega,λ e=>by have:=(h.s.lt _ e).2;omega,λ e=>by have:=(h.u.lt _ e).2;omega⟩
theorem V3b.lt{b:Nat}{cs:Array Value}{T:TypeId}(h:V3b W b cs T kv sv uv):b<W.heap.size:=(U18.1 h.blk).1
theorem V3b.alloc{b:Nat}{cs:Array Value}{T:TypeId}(h:V3b W b cs T kv sv uv)(o:Obj):V3b (W.alloc o) b cs T kv sv uv :=
 ⟨((Gr.refl W).alloc o).block h.lt |>.trans h.blk,h.k,h.s,h.u⟩
theorem V3b.drew{b:Nat}{cs:Array Value}{T:TypeId}(h:V3b W b cs T kv sv uv):V3b W.drew b cs T kv sv uv:=⟨h.blk,h.k,h.s,h.u⟩
theorem O1j{base e size n:Nat}{v:Value}{xs:List Value}(h:W.ownsRow base e size v n xs){row:Option Nat}(hg:W.grownBy w1 row)(a8:∀b,row=some b->v.ownBlock≠some b):w1.ownsRow base e size v n xs :=
 h.kept hg (by cases hv:v.ownBlock with
  |none=>exact .inl rfl
  |some b=>exact .inr (λ e=>a8 b e.symm hv))
theorem V20.appK(h:V20 w0 W base F kv sv uv nk ns nu xk xs xu){g cap:Nat}{ys:List Value}(ho:w1.ownsRow base 9 1 (.slice g (nk+1) cap) (nk+1) ys)(hg:W.grownBy w1 kv.ownBlock)(cX:kv.ownBlock=some g\/g=W.heap.size):V20 w0 w1 base F (.slice g (nk+1) cap) sv uv (nk+1) ns nu ys xs xu:=by
 have eG:F g\/w0.heap.size<=g:=by
  rcases cX with e|e
  exact h.fk g e
  exact .inr (by have:=h.size;omega)
 have hs:sv.ownBlock≠some g:=by
  rcases cX with e|e
  exact h.ks g e
  intro e2;have:=(h.s.lt g e2).2;omega
 have hu:uv.ownBlock≠some g:=by
  rcases cX with e|e
  exact h.ku g e
  intro e2;have:=(h.u.lt g e2).2;omega
 exact⟨h.st.grown hg h.fk,ho,O1j h.s hg h.ks,O1j h.u hg h.ku,λ b e=>by simp[Value.ownBlock]at e;subst e;exact eG,h.fs,h.fu,
  λ b e=>by simp[Value.ownBlock]at e;subst e;exact hs,λ b e=>by simp[Value.ownBlock]at e;subst e;exact hu,h.su⟩
theorem V20.appS(h:V20 w0 W base F kv sv uv nk ns nu xk xs xu){g cap:Nat}{ys:List Value}(ho:w1.ownsRow base 38 2 (.slice g (ns+1) cap) (ns+1) ys)(hg:W.grownBy w1 sv.ownBlock)(cX:sv.ownBlock=some g\/g=W.heap.size):V20 w0 w1 base F kv (.slice g (ns+1) cap) uv nk (ns+1) nu xk ys xu:=by
 have eG:F g\/w0.heap.size<=g:=by
  rcases cX with e|e
  exact h.fs g e
  exact .inr (by have:=h.size;omega)
 have hk:kv.ownBlock≠some g:=by
  rcases cX with e|e
  intro e2;exact h.ks g e2 e
  intro e2;have:=(h.k.lt g e2).2;omega
 have hu:uv.ownBlock≠some g:=by
  rcases cX with e|e
  exact h.su g e
  intro e2;have:=(h.u.lt g e2).2;omega
 exact⟨h.st.grown hg h.fs,O1j h.k hg (λ b e e2=>h.ks b e2 e),ho,O1j h.u hg h.su,h.fk,λ b e=>by simp[Value.ownBlock]at e;subst e;exact eG,h.fu,
  λ b e e2=>by simp[Value.ownBlock]at e2;subst e2;exact hk e,h.ku,λ b e=>by simp[Value.ownBlock]at e;subst e;exact hu⟩
theorem V20.appU(h:V20 w0 W base F kv sv uv nk ns nu xk xs xu){g cap:Nat}{ys:List Value}(ho:w1.ownsRow base 3 1 (.slice g (nu+1) cap) (nu+1) ys)(hg:W.grownBy w1 uv.ownBlock)(cX:uv.ownBlock=some g\/g=W.heap.size):V20 w0 w1 base F kv sv (.slice g (nu+1) cap) nk ns (nu+1) xk xs ys:=by
 have eG:F g\/w0.heap.size<=g:=by
  rcases cX with e|e
  exact h.fu g e
  exact .inr (by have:=h.size;omega)
 have hk:kv.ownBlock≠some g:=by
  rcases cX with e|e
  intro e2;exact h.ku g e2 e
  intro e2;have:=(h.k.lt g e2).2;omega
 have hs:sv.ownBlock≠some g:=by
  rcases cX with e|e
  intro e2;exact h.su g e2 e
  intro e2;have:=(h.s.lt g e2).2;omega
 exact⟨h.st.grown hg h.fu,O1j h.k hg (λ b e e2=>h.ku b e2 e),O1j h.s hg (λ b e e2=>h.su b e2 e),ho,h.fk,h.fs,λ b e=>by simp[Value.ownBlock]at e;subst e;exact eG,
  h.ks,λ b e e2=>by simp[Value.ownBlock]at e2;subst e2;exact hk e,λ b e e2=>by simp[Value.ownBlock]at e2;subst e2;exact hs e⟩
theorem V3b.app{b g n cap:Nat}{cs:Array Value}{T:TypeId}(h:V3b W b cs T kv sv uv){v:Value}(hv:v.ownBlock≠some b)(hg:W.grownBy w1 v.ownBlock)(cX:v.ownBlock=some g\/g=W.heap.size):w1.heap[b]?=some (.cells cs T (0,0))/\(Value.slice g n cap).ownBlock≠some b:=by
 refine⟨by rw[hg.block b h.lt (λ e=>hv e.symm)];exact h.blk,λ e=>?_⟩;simp[Value.ownBlock]at e;subst e;rcases cX with e|e
 exact hv e
 have:=h.lt;omega
theorem V3b.appK{b g n cap:Nat}{cs:Array Value}{T:TypeId}(h:V3b W b cs T kv sv uv)(hg:W.grownBy w1 kv.ownBlock)(cX:kv.ownBlock=some g\/g=W.heap.size):V3b w1 b cs T (.slice g n cap) sv uv :=
 ⟨(h.app (n:=n) (cap:=cap) h.k hg cX).1,(h.app h.k hg cX).2,h.s,h.u⟩
theorem V3b.appS{b g n cap:Nat}{cs:Array Value}{T:TypeId}(h:V3b W b cs T kv sv uv)(hg:W.grownBy w1 sv.ownBlock)(cX:sv.ownBlock=some g\/g=W.heap.size):V3b w1 b cs T kv (.slice g n cap) uv :=
 ⟨(h.app (n:=n) (cap:=cap) h.s hg cX).1,h.k,(h.app h.s hg cX).2,h.u⟩
theorem V3b.appU{b g n cap:Nat}{cs:Array Value}{T:TypeId}(h:V3b W b cs T kv sv uv)(hg:W.grownBy w1 uv.ownBlock)(cX:uv.ownBlock=some g\/g=W.heap.size):V3b w1 b cs T kv sv (.slice g n cap) :=
 ⟨(h.app (n:=n) (cap:=cap) h.u hg cX).1,h.k,h.s,(h.app h.u hg cX).2⟩
end
theorem Oy{w:World}{base e size n g cap:Nat}{xs:List Value}(h:w.ownsRow base e size (.slice g n cap) n xs)(j:Nat)(hj:j<xs.length)(x:Value):(w.setCell ⟨g,j,none⟩ x).ownsRow base e size (.slice g n cap) n (xs.set j x):=by
 refine⟨by rw[U2c];exact h.1,?_⟩;have h1:=h.1;rcases h.2 with⟨h2,_⟩|⟨g',nL,cur,h2,h3,h4,h5,h6,h7,h8⟩
 cases h2
 cases h2;refine .inr ⟨g,cap,cur.setIfInBounds j x,rfl,h3,block_setCell h4 x,h5,h6,by simpa using h7,?_⟩;rw[<-h8,Array.toList_setIfInBounds,List.take_set]
def FI(own:Nat->Nat)(i:Nat)(k:Nat):Prop:=own k=4+3*i\/own k=5+3*i\/own k=6+3*i
theorem RdV.start3{w W:World}{R B base:Nat}{s:ByteArray}{root:Int}{nv:Value}{L:List Vy}{own:Nat->Nat}(h:RdV w R B base s root nv L own)(g1:Gr w W)(i:Nat)(r:Vy)(hr:L[i]?=some r)(h8:r.nd.kind=8):V20 w W base (FI own i) r.kv r.sv r.uv r.nd.keys.length r.nd.spots.length r.nd.subs.length (Oh r.nd.keys) (Oc r.nd.spots) (O6 r.nd.subs):=by
 refine Z206 ?_;intro hx kp;refine⟨(g1.st).to (λ _ e=>e.elim),kp hx.k hx.tk Ya,kp hx.s hx.ts Ya,kp (hx.u8 h8) hx.tu Ya,λ b e => .inl (.inl (hx.tk b e)),λ b e => .inl (.inr (.inl (hx.ts b e))),λ b e => .inl (.inr (.inr (hx.tu b e))),?_,?_,?_⟩;intro b e e2;have:=hx.tk b e;have:=hx.ts b e2;omega;intro b e e2;have:=hx.tk b e;have:=hx.tu b e2;omega
 intro b e e2;have:=hx.ts b e;have:=hx.tu b e2;omega
def O8z(w w2:World)(R B base:Nat)(s:ByteArray)(root:Int)(nv:Value)(L:List Vy)(own:Nat->Nat)(i:Nat)(nd:Pl.Nd):Prop :=
 ∃own' kv sv uv,RdV w2 R B base s root nv (L.set i ⟨nd,kv,sv,uv⟩) own'/\St (FV own) (FV own') w w2/\(∀k,own' k≠0->own k≠0\/w.heap.size<=k)
theorem RdV.putDone{w W:World}{R B base:Nat}{s:ByteArray}{root:Int}{L:List Vy}{own:Nat->Nat}{g cap:Nat}(h:RdV w R B base s root (.slice g L.length cap) L own)(i:Nat)(r:Vy)(hr:L[i]?=some r)(nd:Pl.Nd)(bB:nd.kind=r.nd.kind)(bX:nd.text=r.nd.text)(fy:nd.sp=r.nd.sp)(nO:nd.owner=r.nd.owner){kv sv uv:Value}(H:V20 w W base (FI own i) kv sv uv nd.keys.length nd.spots.length nd.subs.length (Oh nd.keys) (Oc nd.spots) (O6 nd.subs)):O8z w (((W.setCell ⟨g,i*7+2,none⟩ kv).setCell ⟨g,i*7+3,none⟩ sv).setCell ⟨g,i*7+4,none⟩ uv) R B base s root (.slice g L.length cap) L own i nd:=by
 have hi:i<L.length:=(U14.1 hr).1;refine Z223 ?_;intro dR aW hz hR hB WF ao;have dc:WF.heap.size=W.heap.size:=by subst ao;simp[World.setCell]
 refine Z278 ?_;intro bv;have jP:∀k,k<w.heap.size->k≠g->¬FI own i k->WF.heap[k]?=w.heap[k]?:=λ k hk h1 h2=>(bv k h1).trans (H.st.block k hk h2)
 have M7:W.ownsRow base 40 7 (.slice g L.length cap) L.length (V34 L) :=
  O1 h.nodes λ k e=>by
   simp[Value.ownBlock]at e;subst e;exact H.st.block g aW.2 (λ e=>by unfold FI at e;omega)
 refine Z51 ?_;intro ap bT;refine⟨λ k=>if kv.ownBlock=some k then 4+3*i else if sv.ownBlock=some k then 5+3*i else if uv.ownBlock=some k then 6+3*i else own k,kv,sv,uv,?_,?_,?_⟩
 -- tags that are not this node's stay
 refine Z98 ?_;intro tg;have nF:∀k t,own k=t->t<4->¬FI own i k:=λ k t e h4 e2=>by unfold FI at e2;omega
 have vP:∀k,own k≠3->k≠g:=λ k e e2=>by subst e2;exact e dR
 refine Z248 ?_;intro ki;refine⟨?_,?_,?_,?_,?_,?_,?_,?_⟩;rw[jP R hR.2 (vP R (by rw[h.oR];omega)) (nF R 1 h.oR Ya)];exact h.blk;rw[tg R (by rw[h.oR];omega) (nF R 1 h.oR Ya)];exact h.oR;rw[tg B (by rw[h.oB];omega) (nF B 2 h.oB Ya)];exact h.oB;rw[U2c];exact bT;exact J181
 obtain⟨D,h1,h2,h3,h4⟩:=h.map;refine⟨D,Ow (by rw[O9n L i r ⟨nd,kv,sv,uv⟩ hr nO];exact h1) (jP B hB.2 (vP B (by rw[h.oB];omega)) (nF B 2 h.oB Ya)),h2,by rw[U2c];exact h3,λ j x hx=>?_⟩;rw[U2h]at hx
 split at hx
 rename_i dY
 subst dY;cases hx;rw[h4 i r hr];simp only[nO]
 exact h4 j x hx
 intro j x hx;rw[U2h]at hx
 split at hx
 rename_i dY
 subst dY;cases hx;refine⟨O1 H.k λ k e=>bv k (ki H.k H.fk k e),O1 H.s λ k e=>bv k (ki H.s H.fs k e),O16 (O1 H.u λ k e=>bv k (ki H.u H.fu k e)),λ _=>O1 H.u λ k e=>bv k (ki H.u H.fu k e),?_,?_,?_⟩;intro k e;simp only at e;simp only[e,U2o];exact J187
 intro k e;simp only at e;have a1:kv.ownBlock≠some k:=λ e2=>H.ku k e2 e
 have a2:sv.ownBlock≠some k:=λ e2=>H.su k e2 e
 simp only[a1,a2,e,U2o,U2f]
 rename_i dY
 have gl:=h.rows j x hx;have kp:∀ {e size n v xs t},w.ownsRow base e size v n xs->Ok own v t->4<=t->(t≠4+3*i/\t≠5+3*i/\t≠6+3*i) ->
     WF.ownsRow base e size v n xs/\Ok (λ k=>if kv.ownBlock=some k then 4+3*i else if sv.ownBlock=some k then 5+3*i else if uv.ownBlock=some k then 6+3*i else own k) v t:=by
  intro e size n v xs t ho ht h4 a8;have hF:∀k,v.ownBlock=some k->¬FI own i k:=λ k e e2=>by have:=ht k e;unfold FI at e2;omega
  refine⟨O1 ho λ k e=>jP k (h.lt k (by rw[ht k e];omega)).2 (vP k (by rw[ht k e];omega)) (hF k e),λ k e=>?_⟩;show (if _ then _ else _)=t;rw[tg k (by rw[ht k e];omega) (hF k e)];exact ht k e
 have a:=kp gl.k gl.tk Ya Ya;have b:=kp gl.s gl.ts Ya Ya;have c:V26 WF base 3 1 x.uv x.nd.subs.length (O6 x.nd.subs)/\_:=⟨gl.u.of_block λ k e=>jP k (h.lt k (by rw[gl.tu k e];omega)).2 (vP k (by rw[gl.tu k e];omega)) (λ e2=>by have:=gl.tu k e;unfold FI at e2;omega),λ h8=>(kp (gl.u8 h8) gl.tu Ya Ya).1⟩
 have ct:Ok (λ k=>if kv.ownBlock=some k then 4+3*i else if sv.ownBlock=some k then 5+3*i else if uv.ownBlock=some k then 6+3*i else own k) x.uv (6+3*j):=λ k e=>by
  show (if _ then _ else _)=_;rw[tg k (by rw[gl.tu k e];omega) (λ e2=>by have:=gl.tu k e;unfold FI at e2;omega)];exact gl.tu k e
 exact⟨a.1,b.1,c.1,c.2,a.2,b.2,ct⟩
 exact J146;exact J61
 exact J128
end
section
open Pl Go.Proofs.Tryz Go.RowKit Go.Joins
attribute [local go_sem ↓] Go.wp_at_zero Go.wp_at_succ
theorem byteAt_lt(s:ByteArray)(n:Nat)(h:n<s.size):Va (bs s) n=s[n].toNat:=by
 unfold Va;rw[U1e (by rw[O0];exact h)];rfl
theorem O12(s:ByteArray)(n:Nat)(h:¬n<s.size):Va (bs s) n=0:=by
 unfold Va;rw[U2g (by rw[O0];omega)]
theorem O1y(w:World)(R:Nat)(s:ByteArray)(hc:w.cell? ⟨R,2,none⟩=some (.string s))(i:Int)(n:Nat)(hi:i=n):Calls prog 43 #[.pointer (some ⟨R,0,none⟩),i] w λ e w'=>e=.returned (.int .u8 (Va (bs s) n))/\w=w':=by
 subst hi;by_cases h:n<s.size
 ·rw[byteAt_lt s n h];have hd:decide ((n:Int)<(s.size:Int))=true:=by simp;omega
  go_enter func43,ntmps43;exact J13
 rw[O12 s n h];have hd:decide ((n:Int)<(s.size:Int))=false:=Ye
 go_enter func43,ntmps43;exact J13
theorem Oc0:(prog.info? 40).map (λ i=>(i.zero,i.size,i.bytes))=some (some (.agg #[.int .u8 0,.string ⟨#[]⟩,.slice none 0 0,.slice none 0 0,.slice none 0 0,(0:Int),(0:Int)]),7,112):=Yc
theorem O2u{own:Nat->Nat}{v:Value}{t R:Nat}(h:Ok own v t)(hR:own R≠t):some R≠v.ownBlock:=λ e=>hR (h R e.symm)
theorem O8y(w:World)(R B base:Nat)(s:ByteArray)(root:Int)(nv:Value)(L:List Vy)(own:Nat->Nat)(h:RdV w R B base s root nv L own)(hL:L.length<=30000000)(r:Vy)(oc:r.uv.oneCell'=true)(hk:r.kv=.slice none 0 0)(jN:r.sv=.slice none 0 0)(dB:r.nd.keys=[])(fT:r.nd.spots=[])(E':r.nd.owner=0)(hu:V26 w base 3 1 r.uv r.nd.subs.length (O6 r.nd.subs))(F1:r.nd.kind=8->w.ownsRow base 3 1 r.uv r.nd.subs.length (O6 r.nd.subs))(jq:∀k,r.uv.ownBlock=some k->own k=0/\k<w.heap.size)(k:Nat)(t:ByteArray)(kv sv uv:Value)(a b:Int)(hV:ndV r=[.int .u8 k,.string t,kv,sv,uv,.int .i64 a,.int .i64 b]):Calls prog 74 #[.pointer (some ⟨R,0,none⟩),.agg #[.int .u8 k,.string t,kv,sv,uv,a,b]] w λ e w' => e=.returned L.length/\∃nv',O7a w w' R B base s root L own r nv':=by
 obtain⟨i0,hi,fI,az,aM⟩:=U3w Oc0;obtain⟨c0,c1,c2,c3,fz⟩:=h.cells;have AD:=fz 0;have hR:=h.R_lt;have bS:base<=w.heap.size:=Ya;have Hp:∀u∈[(.int .u8 k:Value),.string t,kv,sv,uv,.int .i64 a,.int .i64 b],u.oneCell'=true:=by
  rw[<-hV];intro u hu;simp[ndV,hk,jN]at hu;rcases hu with rfl|rfl|rfl|rfl|rfl|rfl <;> first|rfl|exact oc
 have a8:some R≠nv.ownBlock:=O2u h.oN (by rw[h.oR];omega);have oU:some w.heap.size≠nv.ownBlock:=λ e=>by have:=(h.nodes.lt _ e.symm).2;omega
 have HA:Hid (∀W w1 g cap,Gr w W->w1.ownsRow base 40 7 (.slice (some ⟨g,0,none⟩) (L.length+1) cap) (L.length+1) (V34 L++[.int .u8 k,.string t,kv,sv,uv,.int .i64 a,.int .i64 b])->W.grownBy w1 nv.ownBlock->(nv.ownBlock=some g\/g=W.heap.size)->g<w1.heap.size->O7a w (w1.setCell R (.slice (some ⟨g,0,none⟩) (L.length+1) cap)) R B base s root L own r (.slice (some ⟨g,0,none⟩) (L.length+1) cap)):=by
  rw[<-hV];exact λ W w1 g cap g1 ho hg cX a9=>h.appended g1 r hk jN dB fT E' hu F1 jq g cap ho hg cX a9
 have HI:=U10 hi;have HZ:=U10 fI;have BY:=U10 az;have tN:=U10 aM;have HN:=U10 h.nodes;clear fz hi fI az aM h hu F1 jq hV hk jN dB fT E' oc;go_enter func74,ntmps74;go_wp2_with fail;obtain⟨W,hW⟩:=ExZ (w.alloc (.cells #[.int .u8 k,.string t,kv,sv,uv,a,b] 40))
 have bU:∀o,W.cell? ⟨R,o,none⟩=w.cell? ⟨R,o,none⟩:=by subst hW;exact λ o=>((Gr.refl w).alloc _).use.1 R o hR.2
 have ew:∀o,W.frozen? ⟨R,o,none⟩=w.frozen? ⟨R,o,none⟩:=by subst hW;exact λ o=>((Gr.refl w).alloc _).use.2.1 R o hR.2
 have e0:W.cell? R=some nv:=by rw[bU];exact c0
 have e1:W.frozen? R=false:=by rw[ew];exact AD
 have n0:W.cell? w=some (.int .u8 k):=by subst hW;simp
 have n1:W.cell? ⟨w,1,none⟩=some (.string t):=by subst hW;simp
 have n2:W.cell? ⟨w,2,none⟩=some kv:=by subst hW;simp
 have n3:W.cell? ⟨w,3,none⟩=some sv:=by subst hW;simp
 have n4:W.cell? ⟨w,4,none⟩=some uv:=by subst hW;simp
 have n5:W.cell? ⟨w,5,none⟩=some (.int .i64 a):=by subst hW;simp
 have n6:W.cell? ⟨w,6,none⟩=some (.int .i64 b):=by subst hW;simp
 have Mi:w.heap.size+1=W.heap.size:=by subst hW;simp
 have Hq:Gr w W:=by subst hW;exact (Gr.refl w).alloc _
 have F3:Hid (W.ownsRow base 40 7 nv L.length (V34 L)):=O1 HN.o λ k e=>Hq.block (HN.o.lt k e).2
 have HG:=U10 Hq;have U6:w.heap.size<W.heap.size:=Ya;have AE:R<W.heap.size:=Ya;have PS:base<=W.heap.size:=Ya;have ex:=hR.2;rw[hW];clear hW bU ew Hq Mi hR
 set_option maxRecDepth 100000 in
 go_region_law
  ((refine step_append_lies _ Yi (.tmp 10) (.tmp 12) 24 Yi base 40 i0 _ 7 112 underlying24 HI.o HZ.o BY.o tN.o Yi Yd nv L.length (V34 L) (by simp[Act.eval,Act.put]) ((F3.o.alloc _)) ⟨W,0,none⟩ 1 1 [.int .u8 k,.string t,kv,sv,uv,.int .i64 a,.int .i64 b] (by simp[Act.eval,Act.put]) Yi (U2e (U1w _ _)) Hp Yd Yk Ya Ye (W.heap.size+1) Yb ?_;intro g cap w1 dm fU gm az;have f3:w1.frozen? R=false:=(fU.frozen_far ⟨R,0,none⟩ Ye a8).trans ((((Gr.refl W).alloc _).drew.use.2.1 R 0 AE).trans e1);have f4:w1.cell? R=some nv:=(fU.cell_far ⟨R,0,none⟩ Ye a8).trans ((((Gr.refl W).alloc _).drew.use.1 R 0 AE).trans e0)))
 all_goals go_wp2_with fail
 all_goals go_ret
 all_goals exact⟨rfl,_,HA.o _ w1 g cap ((HG.o.alloc _).drew) dm fU (by simpa using gm) az⟩
end
section
open Pl Go.Proofs.Tryz Go.RowKit Go.Joins
abbrev Ob(c:UInt8):Value := .int .u8 c.toNat
structure RdQ(w:World)(R:Nat)(s:ByteArray)(a:Nat)(q:UInt8)(out:List UInt8)(ov:Value):Prop where
 blk:w.heap[R]?=some (.cells #[.string s,a,Ob q,ov] 136 (0,0))
 own:w.ownsRow (R+1) 5 1 ov out.length (out.map Ob)
def FQ(R:Nat)(ov:Value)(k:Nat):Prop:=k=R\/ov.ownBlock=some k
theorem RdQ.lt{w R s a q out ov}(h:RdQ w R s a q out ov):R<w.heap.size:=by
 have:=h.blk;rw[U18]at this;exact this.1
theorem RdQ.own_lt{w R s a q out ov}(h:RdQ w R s a q out ov){k:Nat}(hk:FQ R ov k):R<=k/\k<w.heap.size:=by
 rcases hk with rfl|hk
 exact⟨U12 _,h.lt⟩
 have:=h.own.lt k hk;omega
theorem RdQ.cells{w R s a q out ov}(h:RdQ w R s a q out ov):w.cell? R=some (.string s)/\w.cell? ⟨R,1,none⟩=some (.int .i64 a)/\w.cell? ⟨R,2,none⟩=some (.int .u8 q.toNat)/\w.cell? ⟨R,3,none⟩=some ov/\(∀i,w.frozen? ⟨R,i,none⟩=false) :=
 ⟨by rw[cell_of_block h.blk];rfl,by rw[cell_of_block h.blk];rfl,by rw[cell_of_block h.blk];rfl,by rw[cell_of_block h.blk];rfl,λ i=>unfrozen_of_block h.blk i⟩
theorem RdQ.kept{w w' R s a q out ov}(h:RdQ w R s a q out ov)(hb:∀k,FQ R ov k->w'.heap[k]?=w.heap[k]?):RdQ w' R s a q out ov:=by
 refine⟨by rw[hb R (.inl rfl)];exact h.blk,h.own.1,?_⟩;rcases h.own.2 with hn|⟨g,cap,cur,rfl,hg,hh,r⟩
 exact .inl hn
 exact .inr ⟨g,cap,cur,rfl,hg,by rw[hb g (.inr rfl)];exact hh,r⟩
theorem RdQ.gr{w w' R s a q out ov}(h:RdQ w R s a q out ov)(g:Gr w w'):RdQ w' R s a q out ov :=
 h.kept λ _ hk=>g.block (h.own_lt hk).2
theorem RdQ.alloc{w R s a q out ov}(h:RdQ w R s a q out ov)(o:Obj):RdQ (w.alloc o) R s a q out ov:=h.gr ((Gr.refl w).alloc o)
theorem RdQ.drew{w R s a q out ov}(h:RdQ w R s a q out ov):RdQ w.drew R s a q out ov:=h.gr (Gr.refl w).drew
theorem RdQ.drewN{w R s a q out ov}(h:RdQ w R s a q out ov)(n:Nat):RdQ (w.drewN n) R s a q out ov:=h.gr ((Gr.refl w).drewN n)
theorem RdQ.setCell{w R s a q out ov}(h:RdQ w R s a q out ov){p:Addr}(hp:¬FQ R ov p.block)(v:Value):RdQ (w.setCell p v) R s a q out ov :=
 h.kept λ k hk=>U15 _ _ _ _ (λ e=>by subst e;exact hp hk)
theorem RdQ.setAt{w R s a q out ov}(h:RdQ w R s a q out ov)(b:Nat):RdQ (w.setCell ⟨R,1,none⟩ b) R s b q out ov:=by
 refine⟨?_,h.own.1,?_⟩;have:=block_setCell (i:=1) h.blk b;exact J5
 rcases h.own.2 with hn|⟨g,cap,cur,rfl,hg,hh,r⟩
 exact .inl hn
 exact .inr ⟨g,cap,cur,rfl,hg,by rw[U15 _ _ _ _ Ye];exact hh,r⟩
theorem O4z(w:World)(v:Value)(t:TypeId)(n:Nat)(hn:n=w.heap.size):∀j u,[v][j]?=some u->(w.alloc (.cells #[v] t)).cell? ⟨n,0+j,none⟩=some u:=by
 subst hn;intro j u hu;have:=cell_one_new w v t j u hu;rw[U49]at this;exact this
theorem Op2:(prog.info? 5).map (λ i=>(i.zero,i.size,i.bytes))=some (some (.int .u8 0),1,1):=Yc
theorem O3i(w:World)(R:Nat)(s:ByteArray)(a:Nat)(q:UInt8)(out:List UInt8)(ov:Value)(h:RdQ w R s a q out ov)(i:Int)(m:Nat)(hi:i=m)(ha:a+m<=30000000)(nb:List UInt8)(tb vQ c:Nat)(a8:nb≠[])(Hr:tb≠R)(mt:∀j u,(nb.map Ob)[j]?=some u->w.cell? ⟨tb,vQ+j,none⟩=some u)(ap:out.length+nb.length<=30000000):Calls prog 241 #[.pointer (some ⟨R,0,none⟩),i,.slice (some ⟨tb,vQ,none⟩) nb.length c] w λ e w' => e=.returned (.tuple #[])/\∃aH,RdQ w' R s (a+m) q (out++nb) aH/\St (FQ R ov) (FQ R aH) w w':=by
 subst hi;obtain⟨i0,hi,fI,az,aM⟩:=U3w Op2;refine Z232 ?_;intro c0 c1 c2 c3 fz a9;have F4:=fz 1;have U7:=fz 3;have HA:Hid (RdQ (w.setCell ⟨R,1,none⟩ (.int .i64 (a+m:Nat))) R s (a+m) q out ov):=h.setAt (a+m);have HI:=U10 hi;have HZ:=U10 fI;have BY:=U10 az;have tN:=U10 aM;have HN:Hid (∀j u,(nb.map Ob)[j]?=some u->(w.setCell ⟨R,1,none⟩ (.int .i64 (a+m:Nat))).cell? ((⟨tb,vQ,none⟩:Addr).add j)=some u):=by
  intro j u hu;rw[U49,U1n _ _ _ _ (by intro e;exact Hr (U2w Addr.block e).symm)];exact mt j u hu
 have eW:0<nb.length:=by cases nb with|nil=>exact absurd rfl a8|cons=>simp
 have HS:=U10 h;clear fz mt hi fI az aM h;go_enter func241,ntmps241
 set_option maxRecDepth 100000 in
 go_wp2_with (at_builtin;refine wpList_append_lies _ rfl (.tmp 18) (.tmp 19) 22 rfl (R+1) 5 i0 (.int .u8 0) 1 1 underlying22 HI.o HZ.o BY.o tN.o rfl Yd ov out.length (out.map Ob) rfl HA.o.own ⟨tb,vQ,none⟩ nb.length c (nb.map Ob) rfl Yb HN.o Ym eW Yk Ya (by simp[World.setCell];omega) _ rfl ?_;intro g cap w1 dm fU gm az;have hr:=λ o=>U1r (w:=w.setCell ⟨R,1,none⟩ (.int .i64 (a+m:Nat))) (a:=⟨R,o,none⟩) (fU.block R (by simp[World.setCell];exact a9) (λ e=>by have:=HA.o.own.lt R e.symm;omega));have BZ:=λ o=>U33 (w:=w.setCell ⟨R,1,none⟩ (.int .i64 (a+m:Nat))) (a:=⟨R,o,none⟩) (fU.block R (by simp[World.setCell];exact a9) (λ e=>by have:=HA.o.own.lt R e.symm;omega));have e3:w1.cell? ⟨R,3,none⟩=some ov:=(hr 3).trans HA.o.cells.2.2.2.1;have f3:w1.frozen? ⟨R,3,none⟩=false:=(BZ 3).trans (HA.o.cells.2.2.2.2 3);have H1:=U10 (show _/\_/\_ from ⟨dm,fU,gm⟩);clear dm fU gm hr BZ);obtain⟨dm,fU,gm⟩:=H1.o;have hA:=HA.o;have B':w1.heap[R]?=some (.cells #[.string s,.int .i64 (a+m:Nat),Ob q,ov] 136 (0,0)):=by
  rw[fU.block R (by simp[World.setCell];exact a9) (λ e=>by have:=hA.own.lt R e.symm;omega)];exact hA.blk
 go_end0
 refine⟨rfl,.slice g (out.length+nb.length) cap,⟨?_,?_⟩,?_⟩;have:=block_setCell (i:=3) B' (.slice g (out.length+nb.length) cap);exact J5;have:=ownsRow_setCell_below dm (a:=⟨R,3,none⟩) (Nat.lt_succ_self R) (.slice g (out.length+nb.length) cap);exact J5
 have h1:St (FQ R ov) (FQ R ov) w (w.setCell ⟨R,1,none⟩ (.int .i64 (a+m:Nat))):=(St.refl _ _).setCell (.inl (.inl rfl)) _;have h2:=h1.grown fU (λ k hk => .inl (.inr hk));have h3:=h2.setCell (p:=⟨R,3,none⟩) (.inl (.inl rfl)) (.slice g (out.length+nb.length) cap);have e:(↑a + ↑m:Int)=((a+m:Nat):Int):=Ya;refine St.to (by simpa [e]using h3) (λ k hk=>?_);rcases hk with rfl|hk
 exact .inl (.inl rfl)
 simp only[Value.ownBlock,U1f]at hk;subst hk;rcases gm with gm|gm
 exact .inl (.inr gm)
 exact .inr (by rw[gm];simp[World.setCell])
theorem RdQ.auto{w w2:World}{R:Nat}{s:ByteArray}{a:Nat}{q:UInt8}{out:List UInt8}{ov:Value}(k:RdQ w R s a q out ov)(h:RdQ w R s a q out ov->RdQ w2 R s a q out ov:=by intro k;(repeat (first|exact k|refine RdQ.drew ?_|refine RdQ.drewN ?_ _|refine RdQ.alloc ?_ _|refine RdQ.setCell ?_ Yl _|refine RdQ.gr ?_ Yl))):RdQ w2 R s a q out ov:=h k
def O3:Value->Value
 |.slice a n _ => .slice a n n
 |v=>v
theorem O2v(v:Value):(O3 v).ownBlock=v.ownBlock:=by
 cases v <;> first|rfl|(rename_i a n c;cases a <;> rfl)
theorem O3y(g n cap:Nat)(h:n<=cap)(hc:cap<=9223372036854775807)(w:World):Calls prog 21 #[.slice g n cap] w λ e w'=>e=.returned (.slice g n n)/\w=w':=by
 go_enter func21,ntmps21;exact J8
theorem O86(w:World):Calls prog 21 #[.slice none 0 0] w λ e w'=>e=.returned (.slice none 0 0)/\w=w':=by
 go_enter func21,ntmps21;exact J8
theorem O55(g n cap:Nat)(h:n<=cap)(hc:cap<=9223372036854775807)(w:World):Calls prog 22 #[.slice g n cap] w λ e w'=>e=.returned (.slice g n n)/\w=w':=by
 go_enter func22,ntmps22;exact J8
theorem O6u(w:World):Calls prog 22 #[.slice none 0 0] w λ e w'=>e=.returned (.slice none 0 0)/\w=w':=by
 go_enter func22,ntmps22;exact J8
theorem O9z(g n cap:Nat)(h:n<=cap)(hc:cap<=9223372036854775807)(w:World):Calls prog 26 #[.slice g n cap] w λ e w'=>e=.returned (.slice g n n)/\w=w':=by
 go_enter func26,ntmps26;exact J8
theorem O87(w:World):Calls prog 26 #[.slice none 0 0] w λ e w'=>e=.returned (.slice none 0 0)/\w=w':=by
 go_enter func26,ntmps26;exact J8
theorem O88(g n cap:Nat)(h:n<=cap)(hc:cap<=9223372036854775807)(w:World):Calls prog 27 #[.slice g n cap] w λ e w'=>e=.returned (.slice g n n)/\w=w':=by
 go_enter func27,ntmps27;exact J8
theorem O17{w:World}{base e size n:Nat}{v:Value}{xs:List Value}(h:w.ownsRow base e size v n xs):(v=.slice none 0 0/\n=0)\/∃g cap,v=.slice (some ⟨g,0,none⟩) n cap/\n<=cap/\cap<=9223372036854775807:=by
 rcases h.2 with⟨h1,h2⟩|⟨g,cap,cur,h1,_,_,h2,h3,_⟩
 exact .inl ⟨h1,h2⟩
 exact .inr ⟨g,cap,h1,h2,by simpa [maxLen]using h3⟩
theorem O2d{w:World}{base e size n:Nat}{v:Value}{xs:List Value}(h:w.ownsRow base e size v n xs):V26 w base e size (O3 v) n xs:=by
 rcases O17 h with⟨rfl,h0⟩|⟨g,cap,rfl,_,_⟩
 exact⟨_,h,rfl,.inl rfl⟩
 exact⟨_,h,rfl,.inr ⟨g,cap,rfl,rfl⟩⟩
theorem O3g{w:World}{base e size n:Nat}{v:Value}{xs:List Value}(h:V26 w base e size v n xs):V26 w base e size (O3 v) n xs:=by
 obtain⟨v0,h1,h2,h3⟩:=h;rcases h3 with rfl|⟨g,c,rfl,rfl⟩
 exact O2d h1
 exact⟨_,h1,rfl,.inr ⟨g,c,rfl,rfl⟩⟩
theorem Oo{w:World}{base e size n:Nat}{v:Value}{xs:List Value}(h:V26 w base e size v n xs):(v=.slice none 0 0/\n=0)\/∃g cap,v=.slice (some ⟨g,0,none⟩) n cap/\n<=cap/\cap<=9223372036854775807:=by
 obtain⟨v0,h1,h2,h3⟩:=h;rcases O17 h1 with⟨rfl,h0⟩|⟨g,cap,rfl,q1,q2⟩
 rcases h3 with rfl|⟨g,c,e1,_⟩
 exact .inl ⟨rfl,h0⟩
 cases e1
 rcases h3 with rfl|⟨g',c,e1,rfl⟩
 exact .inr ⟨g,cap,rfl,q1,q2⟩
 cases e1;exact .inr ⟨g,n,rfl,U12 _,U1l q1 q2⟩
section
variable {w0 W W':World}{base:Nat}{F:Nat->Prop}{kv sv uv:Value}{nk ns nu:Nat}{xk xs xu:List Value}
theorem V20.gr(h:V20 w0 W base F kv sv uv nk ns nu xk xs xu)(g:Gr W W'):V20 w0 W' base F kv sv uv nk ns nu xk xs xu :=
 ⟨h.st.gr g,O1 h.k λ k e=>g.block (h.k.lt k e).2,O1 h.s λ k e=>g.block (h.s.lt k e).2,O1 h.u λ k e=>g.block (h.u.lt k e).2,h.fk,h.fs,h.fu,h.ks,h.ku,h.su⟩
theorem V3b.gr{b:Nat}{cs:Array Value}{T:TypeId}(h:V3b W b cs T kv sv uv)(g:Gr W W'):V3b W' b cs T kv sv uv:=⟨(g.block h.lt).trans h.blk,h.k,h.s,h.u⟩
theorem V20.setCell(h:V20 w0 W base F kv sv uv nk ns nu xk xs xu){b i:Nat}(hb:w0.heap.size<=b)(hk:kv.ownBlock≠some b)(hs:sv.ownBlock≠some b)(hu:uv.ownBlock≠some b)(x:Value):V20 w0 (W.setCell ⟨b,i,none⟩ x) base F kv sv uv nk ns nu xk xs xu :=
 ⟨h.st.setCell (.inr hb) x,Od h.k (λ k e e2=>hk (by rw[e,e2])) _,Od h.s (λ k e e2=>hs (by rw[e,e2])) _,Od h.u (λ k e e2=>hu (by rw[e,e2])) _,h.fk,h.fs,h.fu,h.ks,h.ku,h.su⟩
theorem V3b.setOther{b:Nat}{cs:Array Value}{T:TypeId}(h:V3b W b cs T kv sv uv){p:Addr}(hp:p.block≠b)(x:Value):V3b (W.setCell p x) b cs T kv sv uv:=⟨by rw[U15 _ _ _ _ (U3l hp)];exact h.blk,h.k,h.s,h.u⟩
theorem V3b.set{b i:Nat}{cs:Array Value}{T:TypeId}(h:V3b W b cs T kv sv uv)(x:Value):V3b (W.setCell ⟨b,i,none⟩ x) b (cs.setIfInBounds i x) T kv sv uv:=⟨block_setCell h.blk x,h.k,h.s,h.u⟩
theorem V3b.cell{b i:Nat}{cs:Array Value}{T:TypeId}(h:V3b W b cs T kv sv uv){x:Value}(hx:cs[i]?=some x):W.cell? ⟨b,i,none⟩=some x/\W.frozen? ⟨b,i,none⟩=false :=
 ⟨by rw[cell_of_block h.blk];exact hx,unfrozen_of_block h.blk i⟩
end
def O19(R:Nat)(s:ByteArray)(a:Nat)(q:UInt8)(out:List UInt8)(ov:Value)(w:World)(sr:Pl.SR)(e:Ending)(w':World):Prop :=
 match sr with
 |.go n t over=>e=.returned (.tuple #[.bool over,f0])/\∃aH,RdQ w' R s (a+n) q (out++t) aH/\St (FQ R ov) (FQ R aH) w w'
 |.bad p=>e=.returned (.tuple #[.bool false,fv 3 (a+p)])/\∃F',St (FQ R ov) F' w w'
theorem Ob9(w:World)(R:Nat)(s:ByteArray)(a:Nat)(q:UInt8)(out:List UInt8)(ov:Value)(h:RdQ w R s a q out ov)(a9:a<s.size)(hs:s.size<=20000000)(hp:V3u s[a]=false):Calls prog 240 #[.pointer (some ⟨R,0,none⟩)] w λ e w'=>e=.returned (.tuple #[.bool false,fv 3 a])/\Gr w w':=by
 refine Z232 ?_;intro c0 c1 c2 c3 fz hR;have HP:=U10 hp;clear fz h hp c3;go_enter func240,ntmps240;go_wp2_with fail
 go_quiet (fail)
 go_wp2_with (first|(go_at_call 51;refine (Oaw _ _).mono ?_;rw[HP.o];rintro e w1 ⟨rfl,rfl⟩)|(go_at_call 63;refine (O1d _ a rfl _).mono ?_;rintro e w1 ⟨rfl,g1⟩;obtain⟨ag,au,az⟩:=g1.use));exact U11 (v:=.tuple #[.bool false,fv 3 a]) (by simp[results,results240,go_sem,ag]) rfl ⟨rfl,Gr.auto⟩
theorem Oa9(w:World)(R:Nat)(s:ByteArray)(a:Nat)(q:UInt8)(out:List UInt8)(ov:Value)(h:RdQ w R s a q out ov)(a9:a<s.size)(hs:s.size<=20000000)(ho:out.length<=a)(hp:V3u s[a]=true):Calls prog 240 #[.pointer (some ⟨R,0,none⟩)] w λ e w'=>e=.returned (.tuple #[.bool false,f0])/\∃aH,RdQ w' R s (a+1) q (out++[s[a]]) aH/\St (FQ R ov) (FQ R aH) w w':=by
 refine Z232 ?_;intro c0 c1 c2 c3 fz hR;have HP:=U10 hp;have HS:=U10 h;clear fz h hp c3;go_enter func240,ntmps240;go_wp2_with fail
 go_quiet (fail)
 go_wp2_with (first|(go_at_call 51;refine (Oaw _ _).mono ?_;rw[HP.o];rintro e w1 ⟨rfl,rfl⟩));refine (O3i _ R s a q out ov (RdQ.auto HS.o) 1 1 rfl Ya [s[a]] (w.heap.size+1) 0 1 Yb Ya (O4z _ _ _ _ Yb) Ye).mono ?_;rintro e w1 ⟨rfl,aH,hr,aa⟩;have aV:=aa.use w.heap.size Ye (λ hF=>by have:=HS.o.own_lt hF;omega);have hz:=aa.size;simp at hz;obtain⟨ag,au⟩:=aV;refine Z163 ?_;intro HR HT;clear hr aa;go_wp2_with fail;refine U11 (v:=.tuple #[.bool false,f0]) (by simp[results,results240,go_sem,ag]) rfl ⟨rfl,aH,?_,?_⟩
 have fg:¬FQ R aH w.heap.size:=λ hF=>by
  rcases HT.o.own _ hF with hF|hF
  have:=HS.o.own_lt hF;omega
  simp at hF;omega
 exact RdQ.auto HR.o
 exact J35
theorem Ogo(w:World)(R:Nat)(s:ByteArray)(a:Nat)(q:UInt8)(out:List UInt8)(ov:Value)(h:RdQ w R s a q out ov)(a9:a<s.size)(hs:s.size<=20000000)(hp:((s[a]).toNat==q.toNat)=false):Calls prog 238 #[.pointer (some ⟨R,0,none⟩)] w λ e w'=>e=.returned (.bool false)/\Gr w w':=by
 refine Z232 ?_;intro c0 c1 c2 c3 fz hR;obtain⟨b1,b2⟩:=V1u _ _ _ hp;clear fz h hp c3;go_enter func238,ntmps238;go_wp2_with fail
 go_quiet (fail)
 exact J4
theorem O7x(w:World)(R:Nat)(s:ByteArray)(a:Nat)(q:UInt8)(out:List UInt8)(ov:Value)(h:RdQ w R s a q out ov)(a9:a<s.size)(hs:s.size<=20000000)(hp:((s[a]).toNat==q.toNat)=true):Calls prog 238 #[.pointer (some ⟨R,0,none⟩)] w λ e w'=>e=.returned (.bool true)/\RdQ w' R s (a+1) q out ov/\St (FQ R ov) (FQ R ov) w w':=by
 refine Z232 ?_;intro c0 c1 c2 c3 fz hR;obtain⟨b1,b2⟩:=V1u _ _ _ hp;have F4:=fz 1;have HS:=U10 h;have HP:=U10 hp;clear fz h hp c3;go_enter func238,ntmps238;go_wp2_with fail
 go_quiet (fail)
 go_wp2_with fail
 go_ret
 have e:(↑a+1:Int)=((a+1:Nat):Int):=Ya;rw[e];exact⟨rfl,by first|exact (HS.o.setAt (a+1)).drewN _|exact (HS.o.setAt (a+1)),by first|exact ((St.refl _ _).setCell (.inl (.inl rfl)) _).drewN _|exact ((St.refl _ _).setCell (.inl (.inl rfl)) _)⟩
theorem Om1(s:ByteArray)(a:Nat)(a9:a<s.size):Pl.feed ((bs s).drop a)=if (s[a].toNat==10)=true then .ok 1 else if (s[a].toNat==13)=true then (if Pl.pre ((bs s).drop (a+1)) [10]=true then .ok 2 else .bad 3 1) else .ok 0:=by
 rw[O8 s a a9];generalize (bs s).drop (a+1)=l;generalize s[a]=c;by_cases da:c=10;subst da;simp[Pl.feed]
 by_cases fF:c=13
 ·subst fF;cases l with
  |nil=>simp[Pl.feed,Pl.pre]
  |cons b l =>
   by_cases hb:b=10;subst hb;simp[Pl.feed,Pl.pre]
   have:Pl.feed (13::b::l)=.bad 3 1:=by
    unfold Pl.feed;split <;> simp_all
   rw[this];simp[Pl.pre,hb]
 have:Pl.feed (c::l)=.ok 0:=by
  unfold Pl.feed;split <;> simp_all
 have e1:¬c.toNat=10:=λ e=>da (by rw[<-U2d,e];rfl)
 have e2:¬c.toNat=13:=λ e=>fF (by rw[<-U2d,e];rfl)
 rw[this];simp[e1,e2]
theorem O68(w:World)(R:Nat)(s:ByteArray)(a:Nat)(q:UInt8)(out:List UInt8)(ov:Value)(h:RdQ w R s a q out ov)(a9:a<s.size)(hs:s.size<=20000000) :
    Calls prog 65 #[.pointer (some ⟨R,0,none⟩)] w λ e w'=>(match Pl.feed ((bs s).drop a) with
     |.ok n=>e=.returned (.tuple #[n,f0])
     |.bad c p=>e=.returned (.tuple #[(0:Int),fv c (a+p)]))/\Gr w w':=by
 refine Z232 ?_;intro c0 c1 c2 c3 fz hR;rw[Om1 s a a9];have HS:=U10 h;clear fz h c3;cases da:(s[a].toNat==10)
 ·obtain⟨b1,b2⟩:=V1u _ 10 _ da;cases fF:(s[a].toNat==13)
  ·obtain⟨b3,b4⟩:=V1u _ 13 _ fF;clear da fF;simp only[U23,U2f];go_enter func65,ntmps65;go_wp2_with fail
   go_quiet (fail)
   go_wp2_with fail
   go_quiet (fail)
   go_wp2_with fail;exact U11 (v:=.tuple #[(0:Int),f0]) (by simp[results,results65,go_sem]) rfl ⟨rfl,Gr.auto⟩
  obtain⟨b3,b4⟩:=V1u _ 13 _ fF;clear da fF;cases hp:Pl.pre ((bs s).drop (a+1)) [10]
  ·simp only[U23,U2f,U2o];have HP:=U10 hp;clear hp;have hw:=U1k ((a:Int)+1) Ya;refine Z126 ?_;intro bB bX fy;go_enter func65,ntmps65;go_wp2_with fail
   go_quiet (fail)
   go_wp2_with fail
   go_quiet (fail)
   go_wp2_with fail
   go_quiet ((go_at_call 56;exact O36 (O7 s ⟨#[10]⟩ (a+1) false HP.o _) ⟨_,rfl⟩))
   clear hw bB bX fy;go_wp2_with (go_at_call 63;refine (O1d _ (a+1) Ya _).mono ?_;rintro e w1 ⟨rfl,g1⟩;obtain⟨ag,au,az⟩:=g1.use);exact U11 (v:=.tuple #[(0:Int),fv 3 (a+1)]) (by simp[results,results65,go_sem,ag]) rfl ⟨rfl,Gr.auto⟩
  simp only[U23,U2f,U2o];have HP:=U10 hp;clear hp;have hw:=U1k ((a:Int)+1) Ya;refine Z126 ?_;intro bB bX fy;go_enter func65,ntmps65;go_wp2_with fail
  go_quiet (fail)
  go_wp2_with fail
  go_quiet (fail)
  go_wp2_with fail
  go_quiet ((go_at_call 56;exact O36 (O7 s ⟨#[10]⟩ (a+1) true HP.o _) ⟨_,rfl⟩))
  clear hw bB bX fy;go_wp2_with fail;exact U11 (v:=.tuple #[(2:Int),f0]) (by simp[results,results65,go_sem]) rfl ⟨rfl,Gr.auto⟩
 obtain⟨b1,b2⟩:=V1u _ 10 _ da;clear da;simp only[U2o];go_enter func65,ntmps65;go_wp2_with fail
 go_quiet (fail)
 go_wp2_with fail;exact U11 (v:=.tuple #[(1:Int),f0]) (by simp[results,results65,go_sem]) rfl ⟨rfl,Gr.auto⟩
theorem Oe8:(prog.info? 9).map (λ i=>(i.zero,i.size,i.bytes))=some (some (.string ⟨#[]⟩),1,16):=Yc
theorem Oc1:(prog.info? 38).map (λ i=>(i.zero,i.size,i.bytes))=some (some (.agg #[(0:Int),(0:Int)]),2,16):=Yc
theorem O4j:(prog.info? 3).map (λ i=>(i.zero,i.size,i.bytes))=some (some (.int .i64 0),1,8):=Yc
def Vcl(g i T0:Nat)(r:Vy)(a b:Nat)(w':World):Prop :=
 w'.cell? ⟨g,i*7+2,none⟩=some r.kv/\w'.cell? ⟨g,i*7+3,none⟩=some r.sv/\w'.cell? ⟨g,i*7+4,none⟩=some r.uv/\w'.cell? T0=some (.int .i64 a)/\w'.cell? ⟨T0,1,none⟩=some (.int .i64 b)
def V9f(w:World)(own:Nat->Nat)(g i:Nat)(r:Vy):Prop :=
 g<w.heap.size/\own g=3/\w.cell? ⟨g,i*7+2,none⟩=some r.kv/\w.cell? ⟨g,i*7+3,none⟩=some r.sv/\w.cell? ⟨g,i*7+4,none⟩=some r.uv/\(∀o,w.frozen? ⟨g,o,none⟩=false)
section
variable {w V:World}{base g i T0:Nat}{own:Nat->Nat}{r:Vy}{a b:Nat}{kv sv uv:Value}{nk ns nu:Nat}{xk xs xu:List Value}
theorem O4k(H:V20 w V base (FI own i) kv sv uv nk ns nu xk xs xu)(hc:V9f w own g i r):V.cell? ⟨g,i*7+2,none⟩=some r.kv/\V.cell? ⟨g,i*7+3,none⟩=some r.sv/\V.cell? ⟨g,i*7+4,none⟩=some r.uv/\(∀o,V.frozen? ⟨g,o,none⟩=false):=by
 obtain⟨h1,h2,h3,h4,h5,h6⟩:=hc;have hu:=H.st.use g h1 (λ e=>by unfold FI at e;omega);exact⟨(hu.1 _).trans h3,(hu.1 _).trans h4,(hu.1 _).trans h5,λ o=>(hu.2 o).trans (h6 o)⟩
theorem O18(H:V20 w V base (FI own i) kv sv uv nk ns nu xk xs xu)(N:V3b V T0 #[a,b] 38 kv sv uv)(hc:V9f w own g i r):Vcl g i T0 r a b V:=by
 obtain⟨h1,h2,h3,_⟩:=O4k H hc;exact⟨h1,h2,h3,by rw[cell_of_block N.blk];rfl,by rw[cell_of_block N.blk];rfl⟩
end
theorem Op5(s:ByteArray):(⟨(bs s).toArray⟩:ByteArray)=s:=by cases s;simp[bs]
theorem Omw(s:ByteArray):V2s (bs s)=.string s:=by show Value.string _=_;rw[Op5]
theorem Ohv(w:World)(R B base:Nat)(s:ByteArray)(root:Int)(nv:Value)(L:List Vy)(own:Nat->Nat)(h:RdV w R B base s root nv L own)(hL:L.length<=30000000)(i:Nat)(r:Vy)(hr:L[i]?=some r)(h8:r.nd.kind=8)(gY:r.nd.keys.length<=30000000)(iZ:r.nd.spots.length<=30000000)(tO:r.nd.subs.length<=30000000)(key:ByteArray)(a b n:Nat):Calls prog 103 #[.pointer (some ⟨R,0,none⟩),i,.string key,.agg #[a,b],n] w λ e w' => e=.returned (.tuple #[])/\O8z w w' R B base s root nv L own i (V10 r.nd (bs key) (a,b) n):=by
 have hi:i<L.length:=(U14.1 hr).1;obtain⟨g,cap,cur,rfl,qe,aW,dR,oZ,tM,lF,jr,F7,eP,jt⟩:=h.form Ya;obtain⟨c0,c1,c2,c3,fz⟩:=h.cells;obtain⟨n0,n1,n2,n3,n4,n5,n6,nf⟩:=h.ndCells rfl i r hr;have HC:Hid (V9f w own g i r):=⟨aW,dR,n2,n3,n4,nf⟩
 have hR:=h.R_lt;have bS:base<=w.heap.size:=Ya;have nG:Hid (∀V kv sv uv,V20 w V base (FI own i) kv sv uv (r.nd.keys.length+1) (r.nd.spots.length+1) (r.nd.subs.length+1) (Oh r.nd.keys++[.string key]) (Oc r.nd.spots++[.int .i64 a,.int .i64 b]) (O6 r.nd.subs++[.int .i64 n]) ->
     O8z w (((V.setCell ⟨g,i*7+2,none⟩ kv).setCell ⟨g,i*7+3,none⟩ sv).setCell ⟨g,i*7+4,none⟩ uv) R B base s root (.slice g L.length cap) L own i (V10 r.nd (bs key) (a,b) n)):=by
  intro V kv sv uv H;refine h.putDone i r hr (V10 r.nd (bs key) (a,b) n) rfl rfl rfl rfl ?_;exact J65
 refine Z101 ?_;intro bG iK k1 k2 k3 k4 iS s1 s2 s3 s4 iU u1 u2 u3 u4 fL et fV pI fh;clear h8 k1 k2 k3 k4 s1 s2 s3 s4 u1 u2 u3 u4 fz h lF jr jt hr n0 n1 n2 n3 n4 n5 n6 nf;go_enter func103,ntmps103;exact J196
theorem Oj2(w:World)(R:Nat)(s:ByteArray)(a:Nat)(q:UInt8)(out:List UInt8)(ov:Value)(h:RdQ w R s a q out ov)(a9:a<s.size)(hs:s.size<=20000000)(ho:out.length<=a) :
    Calls prog 250 #[.pointer (some ⟨R,0,none⟩)] w λ e w'=>match V3j q ((bs s).drop a) with
     |.go n t over=>e=.returned (.bool over)/\∃aH,RdQ w' R s (a+n) q (out++t) aH/\St (FQ R ov) (FQ R aH) w w'
     |.bad _=>False:=by
 obtain⟨X,hX⟩:∃X:Ending->World->Prop,X=λ e w'=>match V3j q ((bs s).drop a) with
     |.go n t over=>e=.returned (.bool over)/\∃aH,RdQ w' R s (a+n) q (out++t) aH/\St (FQ R ov) (FQ R aH) w w'
     |.bad _=>False:=⟨_,rfl⟩
 rw[<-hX];have HX:=U10 hX;clear hX;obtain⟨c0,c1,c2,c3,fz⟩:=h.cells;have F4:=fz 1;have hR:=h.lt;have HS:=U10 h;clear fz h;go_enter func250,ntmps250;go_wp2_with fail
 go_loopw [3] (λ n wr=>∃k:Nat,n=.int .i64 k/\k<=5/\k<=Pl.run q ((bs s).drop a)/\∃m,wr=w.drewN m) (λ n _=>5-(intOf n).toNat)
 case atStart=>exact⟨0,rfl,Ya,Ya,0,rfl⟩
 case round =>
  obtain⟨k,rfl,C0,jR,m,rfl⟩:=hrel;have hw:=U1k ((a:Int)+k) Ya;have bB:(0:Int)<=(a:Int)+k:=Ya;have fy:((a:Int)+k).toNat=a+k:=Ya
  rcases V8j q (bs s) a k (by rw[O0];omega) jR with⟨h1,h2,h3,h4⟩|fp
  ·have qd:a+k<s.size:=by rw[<-O0];exact h1
   obtain⟨b1,b2⟩:=V1u _ _ _ (show ((s[a+k]'qd).toNat==q.toNat)=true from h3);have vR:decide ((k:Int)<5)=true:=Ye;clear h3;have bX:(a:Int)+k<(s.size:Int):=Ya
   go_wp2_with fail
   go_quiet (fail)
   clear hw;go_wp2_with fail
   go_roundw
   case rel=>exact⟨k+1,by go_num,Ya,h4,_,rfl⟩
   case measure=>simp[intOf];omega
  obtain⟨hM,aa⟩:=fp C0;have HM:=U10 hM;clear hM fp;rcases aa with h1|⟨h1,h2⟩|⟨h1,h2,h3⟩
  all_goals first
   |(have PU:=h3;have qd:a+k<s.size:=by { rw[<-O0];exact h1 };obtain⟨b1,b2⟩:=V1u _ _ _ (show ((s[a+k]'qd).toNat==q.toNat)=false from h3);clear h3 PU;have vR:decide ((k:Int)<5)=true:=by { simp;omega };have bX:(a:Int)+k<(s.size:Int):=by omega)
   |(have Hs:=h2;rw[O0]at h1;have vR:decide ((k:Int)<5)=false:=by { simp;omega };have PV:decide ((a:Int)+k<(s.size:Int))=true:=by { simp;omega })
   |(rw[O0]at h1;have PV:decide ((a:Int)+k<(s.size:Int))=false:=by { simp;omega })
  all_goals
   go_wp2_with fail
   go_quiet (fail)
   clear hw;by_cases hk:3<=k
   ·have sE:decide (3<=(k:Int))=true:=by simp;omega
    go_wp2_with fail
    go_loopw [48] (λ i wr=>∃(j:Nat)(qh:Value),i=.int .i64 j/\j<=(k-3)/\RdQ wr R s (a+j) q (out++List.replicate j q) qh/\St (FQ R ov) (FQ R qh) w wr) (λ i _=>(k-3)-(intOf i).toNat)
    case atStart=>exact⟨0,ov,rfl,Ya,by simpa using (HS.o.drewN _),St.auto⟩
    case round =>
     obtain⟨j,qh,rfl,hj,eF,dK⟩:=hrel;obtain⟨d0,d1,d2,d3,gz⟩:=eF.cells;have PW:=gz 1;have aZ:=eF.lt;have HD:=U10 eF;have HT:=U10 dK;clear eF dK gz c0 c1 c2 c3 d0 d3;by_cases sG:j<(k-3)
     ·go_wp2_with fail;refine (O3i _ R s (a+j) q (out++List.replicate j q) qh (RdQ.auto HD.o) 1 1 rfl Ya [q] wr.heap.size 0 1 Yb Ya (O4z _ _ _ _ Yb) Ye).mono ?_;rintro e w1 ⟨rfl,Ht,d8,aX⟩;have aO:=U10 d8;have ia:=U10 aX;clear d8 aX;go_wp2_with fail
      go_roundw
      case rel =>
       refine⟨j+1,Ht,by go_num,Ya,?_,?_⟩;have:=aO.o;rw[U4e,show List.replicate j q++[q]=List.replicate (j+1) q from by rw[List.replicate_succ']]at this;exact this
       have h1:=HT.o;have h2:=ia.o;exact St.auto
      case measure=>simp[intOf];omega
     have Hu:¬(j:Int)<((k:Int)-3):=Ya;go_wp2_with fail;have e3:j=k-3:=Ya;have eF:=HD.o;have dK:=HT.o;rw[HX.o];unfold V3j;rw[HM.o];simp only;rw[U1a hk];have e4:(↑a + ↑j+3:Int)=((a+k:Nat):Int):=Ya;rw[e3]at eF;refine⟨rfl,qh,?_,?_⟩;rw[e4];exact eF.setAt (a+k)
     exact dK.setCell (.inl (.inl rfl)) _
   first
    |(exfalso;omega)
    | (have sE:decide (3<=(k:Int))=false:=by simp;omega
       go_wp2_with fail
       go_loopw [48] (λ i wr=>∃(j:Nat)(qh:Value),i=.int .i64 j/\j<=k/\RdQ wr R s (a+j) q (out++List.replicate j q) qh/\St (FQ R ov) (FQ R qh) w wr) (λ i _=>k-(intOf i).toNat)
       case atStart=>exact⟨0,ov,rfl,Ya,by simpa using (HS.o.drewN _),St.auto⟩
       case round =>
        obtain⟨j,qh,rfl,hj,eF,dK⟩:=hrel;obtain⟨d0,d1,d2,d3,gz⟩:=eF.cells;have PW:=gz 1;have aZ:=eF.lt;have HD:=U10 eF;have HT:=U10 dK;clear eF dK gz c0 c1 c2 c3 d0 d3;by_cases sG:j<k
        ·go_wp2_with fail;refine (O3i _ R s (a+j) q (out++List.replicate j q) qh (RdQ.auto HD.o) 1 1 rfl Ya [q] wr.heap.size 0 1 Yb Ya (O4z _ _ _ _ Yb) Ye).mono ?_;rintro e w1 ⟨rfl,Ht,d8,aX⟩;have aO:=U10 d8;have ia:=U10 aX;clear d8 aX;go_wp2_with fail
         go_roundw
         case rel =>
          refine⟨j+1,Ht,by go_num,Ya,?_,?_⟩;have:=aO.o;rw[U4e,show List.replicate j q++[q]=List.replicate (j+1) q from by rw[List.replicate_succ']]at this;exact this
          have h1:=HT.o;have h2:=ia.o;exact St.auto
         case measure=>simp[intOf];omega
        have Hu:¬(j:Int)<(k:Int):=Ya;go_wp2_with fail;have e3:j=k:=Ya;have eF:=HD.o;have dK:=HT.o;rw[HX.o];unfold V3j;rw[HM.o];simp only;rw[U1c hk];rw[e3]at eF;exact⟨rfl,qh,eF,dK⟩)
def O51(R:Nat)(s:ByteArray)(a:Nat)(q:UInt8)(out:List UInt8)(ov:Value)(w:World)(c:Option Pl.SR)(e:Ending)(w':World):Prop :=
 match c with
 |none=>e=.returned (.tuple #[.bool false,.bool false,f0])/\Gr w w'
 |some (.go n t over)=>e=.returned (.tuple #[.bool true,.bool over,f0])/\∃aH,RdQ w' R s (a+n) q (out++t) aH/\St (FQ R ov) (FQ R aH) w w'
 |some (.bad p)=>e=.returned (.tuple #[.bool true,.bool false,fv 3 (a+p)])/\Gr w w'
theorem Oj3(q:UInt8)(l:List UInt8):∃n t b,V3j q l=.go n t b:=by
 unfold V3j;simp only;split <;> exact⟨_,_,_,rfl⟩
theorem Oar{w:World}{b:Nat}{x y u v:Value}(h0:w.cell? b=some u)(h1:w.cell? ⟨b,1,none⟩=some v):((w.setCell b x).setCell ⟨b,1,none⟩ y).cell? b=some x/\((w.setCell b x).setCell ⟨b,1,none⟩ y).cell? ⟨b,1,none⟩=some y:=by
 refine⟨?_,?_⟩;exact J37
 exact J36
theorem Oo0{w:World}{b:Nat}{x y u v:Value}(h0:w.cell? b=some u)(h1:w.cell? ⟨b,1,none⟩=some v):((w.setCell b x).setCell ⟨b,1,none⟩ y).drew.cell? b=some x/\((w.setCell b x).setCell ⟨b,1,none⟩ y).drew.cell? ⟨b,1,none⟩=some y:=Oar h0 h1
theorem O8r(w:World)(R:Nat)(s:ByteArray)(a:Nat)(q:UInt8)(out:List UInt8)(ov:Value)(h:RdQ w R s a q out ov)(a9:a<s.size)(hs:s.size<=20000000)(ho:out.length<=a)(hm:(s[a].toNat==q.toNat)=true):Calls prog 249 #[.pointer (some ⟨R,0,none⟩)] w (O51 R s a q out ov w (V1k q ((bs s).drop a))):=by
 have eP:V1k q ((bs s).drop a)=some (V3j q ((bs s).drop a)):=by
  rw[O8 s a a9];unfold V1k;simp only;rw[U1a hm]
 obtain⟨n,t,b,tP⟩:=Oj3 q ((bs s).drop a);rw[eP,tP];obtain⟨X,hX⟩:∃X:Ending->World->Prop,X=O51 R s a q out ov w (some (.go n t b)):=⟨_,rfl⟩
 rw[<-hX];have HX:=U10 hX;have HM:=U10 tP;obtain⟨b1,b2⟩:=V1u _ _ _ hm;refine Z232 ?_;intro c0 c1 c2 c3 fz hR;have HS:=U10 h;clear fz h hm tP eP hX c3;go_enter func249,ntmps249;go_wp2_with fail
 go_quiet (fail)
 go_wp2_with fail
 go_region_held3 (λ w'=>w'.cell? w=some (.int .i64 0)/\w'.cell? ⟨w,1,none⟩=some (.int .i64 0)) (first|go_keep|exact Oar Yl Yl|exact Oo0 Yl Yl)
  (first|(go_at_call 250;refine (Oj2 _ R s a q out ov (RdQ.auto HS.o) a9 hs ho).mono ?_;rw[HM.o];rintro e w1 ⟨rfl,aH,hr,aa⟩;have aV:=aa.use w.heap.size Yb (λ hF=>by have:=HS.o.own_lt hF;omega);obtain⟨ag,au⟩:=aV;have e0:w1.cell? w=some (.int .i64 0):=(by rw[ag];simp[go_sem]);have e1:w1.cell? ⟨w,1,none⟩=some (.int .i64 0):=(by rw[ag];simp[go_sem]);have e2:w1.frozen? w=false:=(by rw[au];simp[go_sem]);have e3:w1.frozen? ⟨w,1,none⟩=false:=(by rw[au];simp[go_sem]);clear ag au;have HR:=U10 hr;have HT:=U10 aa;clear hr aa))
 all_goals go_wp2_with fail
 refine U11 (v:=.tuple #[.bool true,.bool b,f0]) (by simp[results,results249,go_sem,e0,e1]) rfl ?_;rw[HX.o];have aa:=HT.o;have fg:¬FQ R aH w.heap.size:=λ hF=>by
  rcases HT.o.own _ hF with hF|hF
  have:=HS.o.own_lt hF;omega
  simp at hF;omega
 exact⟨rfl,aH,RdQ.auto HR.o,St.auto⟩
theorem O8s(w:World)(R:Nat)(s:ByteArray)(a:Nat)(q:UInt8)(out:List UInt8)(ov:Value)(h:RdQ w R s a q out ov)(a9:a<s.size)(hs:s.size<=20000000)(hm:(s[a].toNat==q.toNat)=false)(hf:Pl.feed ((bs s).drop a)=.ok 0):Calls prog 249 #[.pointer (some ⟨R,0,none⟩)] w λ e w'=>e=.returned (.tuple #[.bool false,.bool false,f0])/\Gr w w':=by
 have HF:=U10 hf;obtain⟨b1,b2⟩:=V1u _ _ _ hm;refine Z232 ?_;intro c0 c1 c2 c3 fz hR;have HS:=U10 h;clear fz h hm hf c3;go_enter func249,ntmps249;go_wp2_with fail
 go_quiet (fail)
 go_wp2_with fail;refine Z288 ?_;refine Z86 ?_;intro w1 g1 ag au az;have e0:w1.cell? w=some (.int .i64 0):=(by rw[ag _ _ Yb];simp[go_sem])
 have e1:w1.cell? ⟨w,1,none⟩=some (.int .i64 0):=(by rw[ag _ _ Yb];simp[go_sem])
 have e2:w1.frozen? w=false:=(by rw[au _ _ Yb];simp[go_sem])
 have e3:w1.frozen? ⟨w,1,none⟩=false:=(by rw[au _ _ Yb];simp[go_sem])
 clear ag au;go_wp2_with fail;refine Z125 ?_;intro k2 k3 g2;generalize (w1.setCell w (0:Int)).setCell ⟨w,1,none⟩ (0:Int)=W2 at *;obtain⟨m0,m1⟩:=k2;have m2:=(k3 0).trans e2;have m3:=(k3 1).trans e3;clear e0 e1 e2 e3 k3 az
 set_option maxRecDepth 100000 in
 go_still_tail 10,Yc
 go_wp2_with fail;exact U11 (v:=.tuple #[.bool false,.bool false,f0]) (by simp[results,results249,go_sem,m0,m1]) rfl ⟨rfl,Gr.auto⟩
theorem Oaa(w:World)(R:Nat)(s:ByteArray)(a:Nat)(q:UInt8)(out:List UInt8)(ov:Value)(h:RdQ w R s a q out ov)(a9:a<s.size)(hs:s.size<=20000000)(hm:(s[a].toNat==q.toNat)=false)(hf:Pl.feed ((bs s).drop a)=.bad 3 1):Calls prog 249 #[.pointer (some ⟨R,0,none⟩)] w λ e w'=>e=.returned (.tuple #[.bool true,.bool false,fv 3 (a+1)])/\Gr w w':=by
 have HF:=U10 hf;obtain⟨b1,b2⟩:=V1u _ _ _ hm;refine Z232 ?_;intro c0 c1 c2 c3 fz hR;have HS:=U10 h;clear fz h hm hf c3;go_enter func249,ntmps249;go_wp2_with fail
 go_quiet (fail)
 go_wp2_with fail;refine Z288 ?_;refine Z86 ?_;intro w1 g1 ag au az;have e0:w1.cell? w=some (.int .i64 0):=(by rw[ag _ _ Yb];simp[go_sem])
 have e1:w1.cell? ⟨w,1,none⟩=some (.int .i64 0):=(by rw[ag _ _ Yb];simp[go_sem])
 have e2:w1.frozen? w=false:=(by rw[au _ _ Yb];simp[go_sem])
 have e3:w1.frozen? ⟨w,1,none⟩=false:=(by rw[au _ _ Yb];simp[go_sem])
 clear ag au;go_wp2_with fail;have k2:=Oar (x:=.int .i64 3) (y:=.int .i64 ((a:Int)+1)) e0 e1;have k3:∀o,((w1.setCell w (3:Int)).setCell ⟨w,1,none⟩ (.int .i64 ((a:Int)+1))).frozen? ⟨w,o,none⟩=w1.frozen? ⟨w,o,none⟩:=by
  exact J38
 have g2:Gr w ((w1.setCell w (3:Int)).setCell ⟨w,1,none⟩ (.int .i64 ((a:Int)+1))):=Gr.auto;generalize (w1.setCell w (3:Int)).setCell ⟨w,1,none⟩ (.int .i64 ((a:Int)+1))=W2 at *;obtain⟨m0,m1⟩:=k2;have m2:=(k3 0).trans e2;have m3:=(k3 1).trans e3;clear e0 e1 e2 e3 k3 az
 set_option maxRecDepth 100000 in
 go_still_tail 10,Yc
 go_wp2_with fail;exact U11 (v:=.tuple #[.bool true,.bool false,fv 3 (a+1)]) (by simp[results,results249,go_sem,m0,m1]) rfl ⟨rfl,Gr.auto⟩
attribute [local go_sem ↓] Go.wp_at_zero Go.wp_at_succ
theorem Oj4(w:World)(R:Nat)(s:ByteArray)(a:Nat)(q:UInt8)(out:List UInt8)(ov:Value)(h:RdQ w R s a q out ov)(i:Int)(m:Nat)(hi:i=m)(ha:a+m<=30000000)(nb:List UInt8)(tb vQ c l:Nat)(hl:l=nb.length)(a8:nb≠[])(Hr:tb≠R)(mt:∀j u,(nb.map Ob)[j]?=some u->w.cell? ⟨tb,vQ+j,none⟩=some u)(ap:out.length+nb.length<=30000000):Calls prog 241 #[.pointer (some ⟨R,0,none⟩),i,.slice (some ⟨tb,vQ,none⟩) l c] w λ e w' => e=.returned (.tuple #[])/\∃aH,RdQ w' R s (a+m) q (out++nb) aH/\St (FQ R ov) (FQ R aH) w w':=by
 subst hl;exact O3i w R s a q out ov h i m hi ha nb tb vQ c a8 Hr mt ap
theorem RdQ.bytes{w R s a q out ov}(h:RdQ w R s a q out ov)(e:TypeId)(x:ByteArray):RdQ (Lib.bytesWorld w e x) R s a q out ov:=h.gr (below_bytesWorld _ _ _ _ (U12 _))
theorem Gr.bytes{a b:World}(h:Gr a b)(e:TypeId)(x:ByteArray):Gr a (Lib.bytesWorld b e x):=h.trans (below_bytesWorld _ _ _ _ (U12 _))
theorem Oj5(s:ByteArray)(a n:Nat)(h:a+n<=s.size):bs (s.extract a (a+n))=((bs s).drop a).take n:=by
 simp only[bs,U36];congr 1;omega
theorem Oew(W:World)(s:ByteArray)(a n:Nat)(h:a+n<=s.size)(b:Nat)(hb:b=W.heap.size):∀j u,((((bs s).drop a).take n).map Ob)[j]?=some u->(Lib.bytesWorld W 5 (s.extract a (a+n))).cell? ⟨b,0+j,none⟩=some u:=by
 subst hb;intro j u hu;rw[<-Oj5 s a n h]at hu;have hj:j<(s.extract a (a+n)).size:=by
  have:=(U14.1 hu).1;rw[U1j,O0]at this;exact this
 rw[U1v,U3g _ _ _ j hj,<-hu];rw[U1m,U1i];have:(bs (s.extract a (a+n)))[j]?=some ((bs (s.extract a (a+n)))[j]'(by rw[O0];exact hj)):=U1e _;rw[this];rfl
theorem Oba(w:World)(R:Nat)(s:ByteArray)(a:Nat)(q:UInt8)(out:List UInt8)(ov:Value)(h:RdQ w R s a q out ov)(a9:a<s.size)(hs:s.size<=20000000)(ho:out.length<=a)(hm:(s[a].toNat==q.toNat)=false)(n:Nat)(hn:0<n)(ET:a+n<=s.size)(hf:Pl.feed ((bs s).drop a)=.ok n):Calls prog 249 #[.pointer (some ⟨R,0,none⟩)] w λ e w'=>e=.returned (.tuple #[.bool true,.bool false,f0])/\∃aH,RdQ w' R s (a+n) q (out++((bs s).drop a).take n) aH/\St (FQ R ov) (FQ R aH) w w':=by
 have HF:=U10 hf;obtain⟨b1,b2⟩:=V1u _ _ _ hm;refine Z232 ?_;intro c0 c1 c2 c3 fz hR;have HS:=U10 h;have hw:=U1k ((a:Int)+n) Ya;have bB:(0:Int)<=(a:Int)+n:=Ya;have bX:(a:Int)+n<=(s.size:Int):=Ya;have fy:((a:Int)+n).toNat=a+n:=Ya;have dO:=λ(w:World)(s:ByteArray)=>U47 (P:=prog) w 9 22 5 s underlying9 underlying22 underlying5
 clear fz h hm hf c3;go_enter func249,ntmps249;go_wp2_with fail
 go_quiet (fail)
 go_wp2_with fail;refine Z288 ?_;refine Z86 ?_;intro w1 g1 ag au az;have e0:w1.cell? w=some (.int .i64 0):=(by rw[ag _ _ Yb];simp[go_sem])
 have e1:w1.cell? ⟨w,1,none⟩=some (.int .i64 0):=(by rw[ag _ _ Yb];simp[go_sem])
 have e2:w1.frozen? w=false:=(by rw[au _ _ Yb];simp[go_sem])
 have e3:w1.frozen? ⟨w,1,none⟩=false:=(by rw[au _ _ Yb];simp[go_sem])
 clear ag au;go_wp2_with fail;refine Z125 ?_;intro k2 k3 g2;have aM:((w1.setCell w (0:Int)).setCell ⟨w,1,none⟩ (0:Int)).heap.size=w1.heap.size:=by simp[World.setCell]
 generalize (w1.setCell w (0:Int)).setCell ⟨w,1,none⟩ (0:Int)=W2 at *;obtain⟨m0,m1⟩:=k2;have m2:=(k3 0).trans e2;have m3:=(k3 1).trans e3;have iW:w.heap.size+1<=W2.heap.size:=Ya
 have tQ:=HS.o.gr g2;obtain⟨d0,d1,d2,d3,dz⟩:=tQ.cells;have ym:=tQ.lt;have jo:=U10 tQ;clear e0 e1 e2 e3 k3 az aM tQ dz d3 c0 c1 c2;have dc:n=(((bs s).drop a).take n).length:=by
  rw[U26,U16,O0];omega
 have Hv:=U10 dc;clear dc;have HD:Hid (RdQ W2.drew R s a q out ov):=jo.o.drew
 set_option maxRecDepth 100000 in
 go_region_with (go_at_call 241;refine (Oj4 _ R s a q out ov (HD.o.bytes _ _) n n rfl Ya (((bs s).drop a).take n) _ 0 _ _ Hv.o (by intro e;have:=Hv.o;rw[e]at this;simp at this;omega) Ya (Oew _ s a n Ya _ Yb) (by rw[<-Hv.o];omega)).mono ?_;rintro e w3 ⟨rfl,aH,hr,aa⟩;have HR:=U10 hr;have HT:=U10 aa;clear hr aa)
 all_goals (
  have hu:=HT.o.use w.heap.size (by rw[Lib.bytesWorld_size];simp;omega) (λ hF=>by have:=HS.o.own_lt hF;omega);have yn:=Lib.bytesWorld_at_old W2.drew 5 (s.extract a (a+n)) w.heap.size Ye;have p0:w3.cell? w=some (.int .i64 0):=(hu.1 0).trans ((U1r (w:=W2.drew) (a:=w) yn).trans m0);have p1:w3.cell? ⟨w,1,none⟩=some (.int .i64 0):=(hu.1 1).trans ((U1r (w:=W2.drew) (a:=⟨w,1,none⟩) yn).trans m1);have p2:w3.frozen? w=false:=(hu.2 0).trans ((U33 (w:=W2.drew) (a:=w) yn).trans m2);have p3:w3.frozen? ⟨w,1,none⟩=false:=(hu.2 1).trans ((U33 (w:=W2.drew) (a:=⟨w,1,none⟩) yn).trans m3);have fg:¬FQ R aH w.heap.size:=λ hF=>by
   rcases HT.o.own _ hF with hF|hF
   have:=HS.o.own_lt hF;omega
   rw[Lib.bytesWorld_size]at hF;simp at hF;omega
  have Hw:Gr w (Lib.bytesWorld W2.drew 5 (s.extract a (a+n))):=g2.drew.bytes _ _;have C1:decide (0<(n:Int))=true:=Ye;clear hu yn m0 m1 m2 m3 d0 d1 d2 hw;go_wp2_with fail
  set_option maxRecDepth 100000 in
  go_still_tail 10,Yc
  go_wp2_with fail;refine U11 (v:=.tuple #[.bool true,.bool false,f0]) (by simp[results,results249,go_sem,p0,p1]) rfl ⟨rfl,aH,RdQ.auto HR.o,?_⟩;have aa:=HT.o;exact St.auto)
end
section
open Pl Go.Proofs.Tryz Go.RowKit Go.Joins
theorem Ogq(w:World)(R:Nat)(s:ByteArray)(a:Nat)(q:UInt8)(out:List UInt8)(ov:Value)(h:RdQ w R s a q out ov)(a9:a<s.size)(hs:s.size<=20000000)(ho:out.length<=a):Calls prog 249 #[.pointer (some ⟨R,0,none⟩)] w (O51 R s a q out ov w (V1k q ((bs s).drop a))):=by
 cases hm:(s[a].toNat==q.toNat)
 ·have hc:∀X,Pl.feed ((bs s).drop a)=X->V1k q ((bs s).drop a)=match X with
      |.ok 0=>none
      |.ok (n+1)=>some (.go (n+1) (((bs s).drop a).take (n+1)) false)
      |.bad _ p=>some (.bad p):=by
   intro X hX;rw[O8 s a a9]at hX⊢;unfold V1k;simp only;rw[U1c (by rw[hm];simp),hX]
   all_goals (cases X with
    |bad=>rfl
    |ok n=>cases n <;> rfl)
  cases hf:Pl.feed ((bs s).drop a) with
  |bad c p =>
   rw[hc _ hf];obtain⟨rfl,rfl⟩:=V46 _ _ _ hf;exact Oaa w R s a q out ov h a9 hs hm hf
  |ok n =>
   rw[hc _ hf];cases n with
   |zero=>exact O8s w R s a q out ov h a9 hs hm hf
   |succ n =>
    have hl:=V3q _ _ hf;rw[U16,O0]at hl;exact Oba w R s a q out ov h a9 hs ho hm (n+1) Ya Ya hf
 exact O8r w R s a q out ov h a9 hs ho hm
theorem Ogr(s:ByteArray)(a:Nat)(a9:a<s.size):V33 ((bs s).drop a)=if V3u s[a]=true then .go 1 [s[a]] false else .bad 0:=by
 rw[O8 s a a9];rfl
theorem O9k(w:World)(R:Nat)(s:ByteArray)(a:Nat)(q:UInt8)(out:List UInt8)(ov:Value)(h:RdQ w R s a q out ov)(a9:a<s.size)(hs:s.size<=20000000)(ho:out.length<=a):Calls prog 240 #[.pointer (some ⟨R,0,none⟩)] w (O19 R s a q out ov w (V33 ((bs s).drop a))):=by
 rw[Ogr s a a9];cases hp:V3u s[a]
 rw[U1c Yb];exact (Ob9 w R s a q out ov h a9 hs hp).mono λ e w' ⟨he,hg⟩=>⟨he,_,hg.st⟩
 rw[U1a rfl];exact Oa9 w R s a q out ov h a9 hs ho hp
theorem O7y(w:World)(R:Nat)(s:ByteArray)(a:Nat)(q:UInt8)(out:List UInt8)(ov:Value)(h:RdQ w R s a q out ov)(a9:a<s.size)(hs:s.size<=20000000)(ho:out.length<=a):Calls prog 239 #[.agg #[.pointer (some ⟨R,0,none⟩)]] w (O19 R s a q out ov w (V4s q ((bs s).drop a))):=by
 have cj:V4s q ((bs s).drop a)=if (s[a].toNat==q.toNat)=true then .go 1 [] true else V33 ((bs s).drop a):=by
  rw[O8 s a a9];rfl
 rw[cj];have hR:=h.lt;cases hm:(s[a].toNat==q.toNat)
 ·rw[U1c Yb];refine Z243 ?_;intro X hX HX;have HS:=U10 h;have HM:=U10 hm;clear hX h hm cj;go_enter func239,ntmps239;go_wp2_with fail;refine Z315 ?_;intro w1 g1 ag au az;go_wp2_with fail;cases X with
  |bad p =>
   refine Z198 ?_;rintro e w2 ⟨rfl,F',aa⟩;have hu:=aa.use (w.heap.size+1) Ya (λ hF=>by have:=HS.o.own_lt hF;omega);have aM:=aa.size;obtain⟨aF,d5⟩:=hu;have HT:=U10 aa;clear aa;go_wp2_with fail;refine U11 (v:=.tuple #[.bool false,fv 3 (a+p)]) (by simp[results,results239,go_sem,aF,ag]) rfl ⟨rfl,F',?_⟩;exact J35
  |go n t over =>
   refine Z198 ?_;rintro e w2 ⟨rfl,aH,hr,aa⟩;have hu:=aa.use (w.heap.size+1) Ya (λ hF=>by have:=HS.o.own_lt hF;omega);have aM:=aa.size;obtain⟨aF,d5⟩:=hu;refine Z163 ?_;intro HR HT;have fg:¬FQ R aH (w.heap.size+1):=λ hF=>by
    rcases HT.o.own _ hF with hF|hF
    have:=HS.o.own_lt hF;omega
    omega
   clear hr aa;go_wp2_with fail;refine U11 (v:=.tuple #[.bool over,f0]) (by simp[results,results239,go_sem,aF,ag]) rfl ⟨rfl,aH,RdQ.auto HR.o,?_⟩;exact J35
 rw[U1a rfl];have HS:=U10 h;have HM:=U10 hm;clear h hm cj;go_enter func239,ntmps239;go_wp2_with fail;refine (O7x _ R s a q out ov (RdQ.auto HS.o) a9 hs HM.o).mono ?_;rintro e w2 ⟨rfl,hr,aa⟩;refine Z219 ?_;intro hu;have aM:=aa.size;simp at aM;obtain⟨aF,d5⟩:=hu;have HR:=U10 hr;have HT:=U10 aa;have fg:¬FQ R ov (w.heap.size+1):=λ hF=>by have:=HS.o.own_lt hF;omega
 clear hr aa;go_wp2_with fail;refine U11 (v:=.tuple #[.bool true,f0]) (by simp[results,results239,go_sem,aF]) rfl ⟨rfl,ov,by rw[U3j];exact RdQ.auto HR.o,?_⟩;exact J35
theorem O5g(w:World)(R:Nat)(s:ByteArray)(a:Nat)(q:UInt8)(out:List UInt8)(ov:Value)(h:RdQ w R s a q out ov)(a9:a<s.size)(hs:s.size<=20000000)(ho:out.length<=a):Calls prog 248 #[.agg #[.pointer (some ⟨R,0,none⟩)]] w (O19 R s a q out ov w (V2u q ((bs s).drop a))):=by
 unfold V2u;obtain⟨C,hC⟩:∃C,C=V1k q ((bs s).drop a):=⟨_,rfl⟩
 rw[<-hC];have HC:=U10 hC;clear hC;have hR:=h.lt;have HS:=U10 h;clear h;cases C with
 |some X =>
  simp only;cases X with
  |bad p =>
   go_enter func248,ntmps248;go_wp2_with fail;refine Z117 ?_;rw[<-HC.o];refine Z86 ?_;intro w2 g1 aF d5 aM;refine Z128 ?_;intro dQ dx;go_wp2_with fail
   go_region
   go_wp2_with fail;exact U11 (v:=.tuple #[.bool false,fv 3 (a+p)]) (by simp[results,results248,go_sem,aF,dQ,dx]) rfl ⟨rfl,FQ R ov,St.auto⟩
  |go n t over =>
   go_enter func248,ntmps248;go_wp2_with fail;refine Z117 ?_;rw[<-HC.o];rintro e w2 ⟨rfl,aH,hr,aa⟩;refine Z219 ?_;intro hu;have aM:=aa.size;simp at aM;obtain⟨aF,d5⟩:=hu;have HR:=U10 hr;have HT:=U10 aa;have fg:¬FQ R aH (w.heap.size+1):=λ hF=>by
    rcases HT.o.own _ hF with hF|hF
    have:=HS.o.own_lt hF;omega
    simp at hF;omega
   clear hr aa;refine Z128 ?_;intro dQ dx;go_wp2_with fail
   go_region
   go_wp2_with fail;refine U11 (v:=.tuple #[.bool over,f0]) (by simp[results,results248,go_sem,aF,dQ,dx]) rfl ⟨rfl,aH,RdQ.auto HR.o,?_⟩;exact J35
 |none =>
  simp only;refine Z243 ?_;intro X hX HX;clear hX;go_enter func248,ntmps248;go_wp2_with fail;refine Z117 ?_;rw[<-HC.o];refine Z86 ?_;intro w1 g1 ag au az;refine Z170 ?_;intro dQ dx;go_wp2_with fail;cases X with
  |bad p =>
   refine Z198 ?_;rintro e w2 ⟨rfl,F',aa⟩;refine Z18 ?_;intro aF d5 aM;have HT:=U10 aa;clear aa;go_wp2_with fail;refine U11 (v:=.tuple #[.bool false,fv 3 (a+p)]) (by simp[results,results248,go_sem,aF,ag,dQ,dx]) rfl ⟨rfl,F',?_⟩;exact J35
  |go n t over =>
   refine Z198 ?_;rintro e w2 ⟨rfl,aH,hr,aa⟩;refine Z18 ?_;intro aF d5 aM;refine Z163 ?_;intro HR HT;have fg:¬FQ R aH (w.heap.size+1):=λ hF=>by
    rcases HT.o.own _ hF with hF|hF
    have:=HS.o.own_lt hF;omega
    simp at hF;omega
   clear hr aa;go_wp2_with fail;refine U11 (v:=.tuple #[.bool over,f0]) (by simp[results,results248,go_sem,aF,ag,dQ,dx]) rfl ⟨rfl,aH,RdQ.auto HR.o,?_⟩;exact J35
end
