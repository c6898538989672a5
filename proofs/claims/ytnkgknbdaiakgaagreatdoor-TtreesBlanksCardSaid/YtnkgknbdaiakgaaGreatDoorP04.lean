/- The proof's part 04. -/
import Derived.Test.YtnkgknbdaiakgaaGreatDoorP05
import Derived.Lib.SmallJoins
import Derived.Deep.DrawnRows
set_option maxHeartbeats 16000000
set_option linter.all false
set_option maxRecDepth 100000
namespace Go.Proofs.YtnkgknbdaiakgaaGreatDoor
open Pl Go.Proofs.Tryz Go.RowKit Go.Joins
structure Vw where
 nd:Pl.Nd
 kv:Value
 sv:Value
 uv:Value
abbrev V3a(l:Pl.Bs):Value := .string ⟨l.toArray⟩
def ndV(r:Vw):List Value:=[.int .u8 r.nd.kind,V3a r.nd.text,r.kv,r.sv,r.uv,.int .i64 r.nd.sp.1,.int .i64 r.nd.sp.2]
def V35(L:List Vw):List Value:=L.flatMap ndV
def Oh(l:List Pl.Bs):List Value:=l.map V3a
def Oc(l:List (Nat×Nat)):List Value:=l.flatMap λ p=>[.int .i64 p.1,.int .i64 p.2]
def O7(l:List Nat):List Value:=l.map λ(i:Nat) => .int .i64 i
theorem O1b(r:Vw):(ndV r).length=7:=rfl
theorem O42(L:List Vw):(V35 L).length=L.length*7:=by
 unfold V35
 induction L with
 |nil=>rfl
 |cons r L ih=>rw[List.flatMap_cons,Ug,ih,O1b,Ub];omega
theorem O78(L:List Vw)(i j:Nat)(hj:j<7):(V35 L)[i*7+j]?=(L[i]?).bind λ r=>(ndV r)[j]?:=by
 induction L generalizing i with
 |nil=>simp[V35]
 |cons r L ih =>
  have e:V35 (r::L)=ndV r++V35 L:=by simp[V35]
  rw[e];cases i with
  |zero=>rw[U9 (by rw[O1b];omega)];simp
  |succ i =>
   rw[U14 (by rw[O1b];omega),O1b,show (i+1)*7+j-7=i*7+j from by omega,ih];rfl
theorem O1p(L:List Vw)(i j:Nat)(hj:j<7)(v:Value)(r r':Vw)(hr:L[i]?=some r)(he:(ndV r).set j v=ndV r'):(V35 L).set (i*7+j) v=V35 (L.set i r'):=by
 induction L generalizing i with
 |nil=>simp at hr
 |cons x L ih =>
  have e:∀(y:Vw)(M:List Vw),V35 (y::M)=ndV y++V35 M:=by intro y M;simp[V35]
  rw[e];cases i with
  |zero =>
   simp at hr;subst hr;rw[List.set_append_left _ _ (by rw[O1b];omega),U26,e,<-he];simp
  |succ i =>
   rw[U3c _ _ (by rw[O1b];omega),O1b,show (i+1)*7+j-7=i*7+j from by omega,ih i (by simpa using hr),U2e,e]
def Oi(own:Nat->Nat)(v:Value)(t:Nat):Prop:=∀k,v.ownBlock=some k->own k=t
def V26(w:World)(base e size:Nat)(v:Value)(n:Nat)(xs:List Value):Prop :=
 ∃v0,w.ownsRow base e size v0 n xs/\v0.ownBlock=v.ownBlock/\(v=v0\/∃g c,v0 = .slice (some ⟨g,0,none⟩) n c/\v = .slice (some ⟨g,0,none⟩) n n)
structure V5r(w:World)(base:Nat)(own:Nat->Nat)(i:Nat)(r:Vw):Prop where
 k:w.ownsRow base 9 1 r.kv r.nd.keys.length (Oh r.nd.keys)
 s:w.ownsRow base 38 2 r.sv r.nd.spots.length (Oc r.nd.spots)
 u:V26 w base 3 1 r.uv r.nd.subs.length (O7 r.nd.subs)
 u8:r.nd.kind=8->w.ownsRow base 3 1 r.uv r.nd.subs.length (O7 r.nd.subs)
 tk:Oi own r.kv (4+3*i)
 ts:Oi own r.sv (5+3*i)
 tu:Oi own r.uv (6+3*i)
abbrev V5s:=DataW Unit
def Ole(D:V5s)(L:List Vw):Prop:=Maps.IsMap D/\(∀i:Nat,L.length<=i->D.atKey i (.lit (0:Int)) = .lit (0:Int)) /\
 ∀(i:Nat) r,L[i]?=some r->D.atKey i (.lit (0:Int)) = .lit r.nd.owner
def V4i(L:List Vw):Nat:=(L.filter λ r=>r.nd.owner != 0).length
theorem O22(L M:List Vw):V4i (L++M)=V4i L+V4i M:=by simp[V4i]
theorem Olh(L:List Vw):V4i L<=L.length:=List.length_filter_le _ _
theorem O79:∀(L:List Vw)(i:Nat)(r r':Vw),L[i]?=some r->V4i (L.set i r')+V4i [r]=V4i L+V4i [r']
 |[],i,_,_,h=>by simp at h
 | x::L,0,r,r',h=>by
  simp only[U1h,Uc]at h;subst h;rw[U26,<-U3d,<-U3d (l:=L),O22,O22];omega
 | x::L,i+1,r,r',h=>by
  have:=O79 L i r r' (by simpa using h);rw[U2e,<-U3d,<-U3d (l:=L),O22,O22];omega
theorem Oiy(r r':Vw)(h:r'.nd.owner=r.nd.owner):V4i [r']=V4i [r]:=by
 simp only[V4i,List.filter_cons,List.filter_nil,h];cases r.nd.owner != 0 <;> rfl
theorem O9m(L:List Vw)(i:Nat)(r r':Vw)(hr:L[i]?=some r)(h:r'.nd.owner=r.nd.owner):V4i (L.set i r')=V4i L:=by
 have:=O79 L i r r' hr;have:=Oiy r r' h;omega
structure RdV(w:World)(R B base:Nat)(s:ByteArray)(root:Int)(nv:Value)(L:List Vw)(own:Nat->Nat):Prop where
 blk:w.heap[R]?=some (.cells #[nv,root,.string s,.map (some B)] 80 (0,0))
 oR:own R=1
 oB:own B=2
 nodes:w.ownsRow base 40 7 nv L.length (V35 L)
 oN:Oi own nv 3
 map:∃D:V5s,w.ownsMap prog 3 (plainElem (H:=Unit) prog 3) B (V4i L) D/\Ole D L
 rows:∀(i:Nat) r,L[i]?=some r->V5r w base own i r
 lt:∀k,own k≠0->base<=k/\k<w.heap.size
def FV(own:Nat->Nat)(k:Nat):Prop:=own k≠0
theorem O1{w w':World}{base e size n:Nat}{v:Value}{xs:List Value}(h:w.ownsRow base e size v n xs)(hb:∀k,v.ownBlock=some k->w'.heap[k]?=w.heap[k]?):w'.ownsRow base e size v n xs:=by
 refine⟨h.1,?_⟩;rcases h.2 with hn|⟨g,cap,cur,rfl,cR,wT,rest⟩
 exact .inl hn
 exact .inr ⟨g,cap,cur,rfl,cR,by rw[hb g rfl];exact wT,rest⟩
theorem V26.of_block{w w':World}{base e size n:Nat}{v:Value}{xs:List Value}(h:V26 w base e size v n xs)(hb:∀k,v.ownBlock=some k->w'.heap[k]?=w.heap[k]?):V26 w' base e size v n xs:=by
 obtain⟨v0,h1,h2,h3⟩:=h;exact⟨v0,O1 h1 (λ k e=>hb k (by rw[<-h2];exact e)),h2,h3⟩
theorem O14{w:World}{base e size n:Nat}{v:Value}{xs:List Value}(h:w.ownsRow base e size v n xs):V26 w base e size v n xs:=⟨v,h,rfl,.inl rfl⟩
theorem V26.lt{w:World}{base e size n:Nat}{v:Value}{xs:List Value}(h:V26 w base e size v n xs):∀k,v.ownBlock=some k->base<=k/\k<w.heap.size:=by
 obtain⟨v0,h1,h2,_⟩:=h;intro k hk;exact h1.lt k (by rw[h2];exact hk)
theorem V26.cells{w:World}{base e size n:Nat}{v:Value}{xs:List Value}(h:V26 w base e size v n xs){g:Nat}(hg:v.ownBlock=some g):∀j u,xs[j]?=some u->w.cell? ⟨g,j,none⟩=some u:=by
 obtain⟨v0,h1,h2,_⟩:=h;intro j u hu;have:=h1.cells (g:=g) (by rw[h2];exact hg) j u hu
 rwa [U3b,Uu]at this
theorem V26.form{w:World}{base e size n:Nat}{v:Value}{xs:List Value}(h:V26 w base e size v n xs)(hn:0<n):∃g c,v = .slice (some ⟨g,0,none⟩) n c/\n<=c/\c<=maxLen:=by
 obtain⟨v0,h1,h2,h3⟩:=h;rcases h1.2 with⟨_,h0⟩|⟨g,cap,cur,hv,cR,wT,q1,q2,_⟩
 omega
 rcases h3 with rfl|⟨g',c',e1,e2⟩
 exact⟨g,cap,hv,q1,q2⟩
 exact⟨g',n,e2,U2 _,Uj q1 q2⟩
theorem Oq{w w':World}{k b n:Nat}{D:V5s}(h:w.ownsMap prog k (plainElem (H:=Unit) prog 3) b n D)(hb:w'.heap[b]?=w.heap[b]?):w'.ownsMap prog k (plainElem (H:=Unit) prog 3) b n D:=by
 exact J1
theorem V5r.kept{w w' base own i r}(h:V5r w base own i r)(hb:∀k,FV own k->w'.heap[k]?=w.heap[k]?):V5r w' base own i r :=
 ⟨O1 h.k λ k e=>hb k (by unfold FV;rw[h.tk k e];omega),O1 h.s λ k e=>hb k (by unfold FV;rw[h.ts k e];omega),h.u.of_block λ k e=>hb k (by unfold FV;rw[h.tu k e];omega),λ h8=>O1 (h.u8 h8) λ k e=>hb k (by unfold FV;rw[h.tu k e];omega),h.tk,h.ts,h.tu⟩
section
variable {w w':World}{R B base:Nat}{s:ByteArray}{root:Int}{nv:Value}{L:List Vw}{own:Nat->Nat}
theorem RdV.kept(h:RdV w R B base s root nv L own)(hb:∀k,FV own k->w'.heap[k]?=w.heap[k]?)(hz:w.heap.size<=w'.heap.size):RdV w' R B base s root nv L own:=by
 obtain⟨D,h1,h2⟩:=h.map;exact⟨by rw[hb R (by unfold FV;rw[h.oR];omega)];exact h.blk,h.oR,h.oB,O1 h.nodes λ k e=>hb k (by unfold FV;rw[h.oN k e];omega),h.oN,
  ⟨D,Oq h1 (hb B (by unfold FV;rw[h.oB];omega)),h2⟩,λ i r hr=>(h.rows i r hr).kept hb,λ k hk=>⟨(h.lt k hk).1,U4 (h.lt k hk).2 hz⟩⟩
theorem RdV.gr(h:RdV w R B base s root nv L own)(g:Gr w w'):RdV w' R B base s root nv L own:=h.kept (λ k hk=>g.block (h.lt k hk).2) g.size
theorem RdV.alloc(h:RdV w R B base s root nv L own)(o:Obj):RdV (w.alloc o) R B base s root nv L own:=h.gr ((Gr.refl w).alloc o)
theorem RdV.drew(h:RdV w R B base s root nv L own):RdV w.drew R B base s root nv L own:=h.gr (Gr.refl w).drew
theorem RdV.drewN(h:RdV w R B base s root nv L own)(n:Nat):RdV (w.drewN n) R B base s root nv L own:=h.gr ((Gr.refl w).drewN n)
theorem RdV.setCell(h:RdV w R B base s root nv L own){p:Addr}(hp:¬FV own p.block)(v:Value):RdV (w.setCell p v) R B base s root nv L own :=
 h.kept (λ k hk=>U5 _ _ _ _ (λ e=>by subst e;exact hp hk)) (by simp[World.setCell])
theorem RdV.not_new(h:RdV w R B base s root nv L own){k:Nat}(hk:w.heap.size<=k):¬FV own k:=λ e=>by have:=h.lt k e;omega
theorem RdV.R_lt(h:RdV w R B base s root nv L own):base<=R/\R<w.heap.size:=h.lt R (by rw[h.oR];omega)
theorem RdV.B_lt(h:RdV w R B base s root nv L own):base<=B/\B<w.heap.size:=h.lt B (by rw[h.oB];omega)
theorem RdV.cells(h:RdV w R B base s root nv L own) :
    w.cell? ⟨R,0,none⟩=some nv/\w.cell? ⟨R,1,none⟩=some (.int .i64 root)/\w.cell? ⟨R,2,none⟩=some (.string s)/\w.cell? ⟨R,3,none⟩=some (.map (some B))/\(∀i,w.frozen? ⟨R,i,none⟩=false) :=
 ⟨by rw[cell_of_block h.blk];rfl,by rw[cell_of_block h.blk];rfl,by rw[cell_of_block h.blk];rfl,by rw[cell_of_block h.blk];rfl,λ i=>unfrozen_of_block h.blk i⟩
theorem RdV.look(h:RdV w R B base s root nv L own)(i:Nat)(hi:i<=9223372036854775807)(r:Vw)(hr:L[i]?=some r)(W:World)(hW:W.heap[B]?=w.heap[B]?) :
    (Instr.lookup 78 (.map (some B)) i false).run prog W = .ok r.nd.owner W:=by
 obtain⟨D,h1,h2⟩:=h.map;have pm:=Oq (w':=W) h1 hW;have hz:(zeroValue 3).run prog W = .ok (0:Int) W:=by kernel_rfl
 obtain⟨c,e1,e2,e3⟩:=pm.lookup_int (Maps.int_keyed underlying3) underlying78 underlying3 hz (U3f underlying3 (show (Lit.int .i64 (i:Int)).wf=true by simp[Lit.wf,IntKind.min,IntKind.max,IntKind.signed,IntKind.bits];omega));rw[h2.2.2 i r hr]at e2;cases e2;exact e1
theorem RdV.form(h:RdV w R B base s root nv L own)(hL:0<L.length):∃g cap cur,nv = .slice (some ⟨g,0,none⟩) L.length cap/\base<=g/\g<w.heap.size/\own g=3/\g≠R/\g≠B /\
    w.heap[g]?=some (.cells cur 40 (0,0))/\cur.size=cap*7/\L.length<=cap/\cap<=maxLen/\cur.toList.take (L.length*7)=V35 L:=by
 exact J2
theorem RdV.ndCells(h:RdV w R B base s root nv L own){g cap:Nat}(hv:nv = .slice (some ⟨g,0,none⟩) L.length cap)(i:Nat)(r:Vw)(hr:L[i]?=some r) :
    w.cell? ⟨g,i*7,none⟩=some (.int .u8 r.nd.kind)/\w.cell? ⟨g,i*7+1,none⟩=some (V3a r.nd.text)/\w.cell? ⟨g,i*7+2,none⟩=some r.kv/\w.cell? ⟨g,i*7+3,none⟩=some r.sv/\w.cell? ⟨g,i*7+4,none⟩=some r.uv /\
    w.cell? ⟨g,i*7+5,none⟩=some (.int .i64 r.nd.sp.1)/\w.cell? ⟨g,i*7+6,none⟩=some (.int .i64 r.nd.sp.2)/\(∀o,w.frozen? ⟨g,o,none⟩=false):=by
 exact J145
end
theorem On(w:World)(base e size:Nat):w.ownsRow base e size (.slice none 0 0) 0 []:=World.ownsRow_nil _ _ _ _
theorem O6a(own:Nat->Nat)(t:Nat):Oi own (.slice none 0 0) t:=λ k h=>by simp[Value.ownBlock]at h
theorem Od{w:World}{base e size n:Nat}{v:Value}{xs:List Value}(h:w.ownsRow base e size v n xs){p:Addr}(hp:∀k,v.ownBlock=some k->k≠p.block)(x:Value):(w.setCell p x).ownsRow base e size v n xs :=
 O1 h λ k hk=>U5 _ _ _ _ (hp k hk)
def O7a(w w2:World)(R B base:Nat)(s:ByteArray)(root:Int)(L:List Vw)(own:Nat->Nat)(r:Vw)(nv':Value):Prop :=
 ∃own',RdV w2 R B base s root nv' (L++[r]) own'/\St (λ k=>FV own k\/r.uv.ownBlock=some k) (FV own') w w2/\(∀k,own' k≠0->own k≠0\/r.uv.ownBlock=some k\/w.heap.size<=k)
theorem RdV.appended{w W w1:World}{R B base:Nat}{s:ByteArray}{root:Int}{nv:Value}{L:List Vw}{own:Nat->Nat}(h:RdV w R B base s root nv L own)(g1:Gr w W)
    (r:Vw)(hk:r.kv = .slice none 0 0)(kQ:r.sv = .slice none 0 0)(dw:r.nd.keys=[])(fN:r.nd.spots=[])(DU:r.nd.owner=0)
    (hu:V26 w base 3 1 r.uv r.nd.subs.length (O7 r.nd.subs))(DV:r.nd.kind=8->w.ownsRow base 3 1 r.uv r.nd.subs.length (O7 r.nd.subs))(kt:∀k,r.uv.ownBlock=some k->own k=0/\k<w.heap.size)
    (g cap:Nat)(dD:w1.ownsRow base 40 7 (.slice (some ⟨g,0,none⟩) (L.length+1) cap) (L.length+1) (V35 L++ndV r))(hg:W.grownBy w1 nv.ownBlock)
    (cY:nv.ownBlock=some g\/g=W.heap.size)(aa:g<w1.heap.size) :
    O7a w (w1.setCell ⟨R,0,none⟩ (.slice (some ⟨g,0,none⟩) (L.length+1) cap)) R B base s root L own r (.slice (some ⟨g,0,none⟩) (L.length+1) cap):=by
 have hR:=h.R_lt;have hB:=h.B_lt;have hz:=g1.size;have ay:=hg.size;have uI:R≠B:=λ e=>by have h1:=h.oR;rw[e,h.oB]at h1;omega
 have et:own g=3\/(own g=0/\w.heap.size<=g):=by
  exact J6
 have nR:g≠R:=λ e=>by subst e;rw[h.oR]at et;omega
 have sB:g≠B:=λ e=>by subst e;rw[h.oB]at et;omega
 refine Z170 ?_;intro cG;have FJ:∀k,r.uv.ownBlock=some k->k≠g:=λ k e e2=>by
  have:=kt k e;subst e2;omega
 refine⟨λ k=>if r.uv.ownBlock=some k then 6+3*L.length else if k=g then 3 else own k,⟨?_,?_,?_,?_,?_,?_,?_,?_⟩,?_,?_⟩
 have hb:w1.heap[R]?=some (.cells #[nv,root,.string s,.map (some B)] 80 (0,0)):=by
  exact J5
 exact J4
 have:r.uv.ownBlock≠some R:=λ e=>by have:=kt R e;rw[h.oR]at this;omega
 simp only[this,U1d];rw[Ud (U2k nR)];exact h.oR
 have:r.uv.ownBlock≠some B:=λ e=>by have:=kt B e;rw[h.oB]at this;omega
 simp only[this,U1d];rw[Ud (U2k sB)];exact h.oB
 have e:V35 (L++[r])=V35 L++ndV r:=by simp[V35]
 rw[e,Ug,U19];exact J3
 intro k hk;simp[Value.ownBlock]at hk;subst hk;have:r.uv.ownBlock≠some g:=λ e=>FJ g e rfl
 simp only[this,U1d,U1j]
 obtain⟨D,h1,h2,h3,h4⟩:=h.map;refine⟨D,?_,h2,?_,?_⟩;exact Oq (h1.mono (by rw[O22];omega)) (cG B hB.2 (U2k uI) (by rw[h.oB];omega));intro i hi;exact h3 i (by simp at hi;omega)
 intro i x hx;rw[U2m]at hx
 split at hx;exact h4 i x hx
 have:i=L.length:=by
  have:=U7.1 hx;obtain⟨h5,_⟩:=this;simp at h5;omega
 subst this;simp at hx;subst hx;rw[h3 L.length (U2 _),DU];rfl
 intro i x hx;rw[U2m]at hx
 split at hx
 rename_i hi
 have hr:=h.rows i x hx;have FK:∀v t,Oi own v t->t≠0->t≠3->Oi (λ k=>if r.uv.ownBlock=some k then 6+3*L.length else if k=g then 3 else own k) v t:=by
  intro v t ht h0 h3 k hk;have h5:=ht k hk;have h6:r.uv.ownBlock≠some k:=λ e=>by have:=kt k e;omega
  have h7:k≠g:=λ e=>by subst e;omega
  simp only[h6,U1d];rw[Ud h7];exact h5
 have kp:∀ {e size n v xs t},w.ownsRow base e size v n xs->Oi own v t->4<=t->(w1.setCell ⟨R,0,none⟩ (.slice (some ⟨g,0,none⟩) (L.length+1) cap)).ownsRow base e size v n xs:=by
  intro e size n v xs t ho ht h4;refine O1 ho λ k hk=>cG k ?_ ?_ ?_
  exact (h.lt k (by rw[ht k hk];omega)).2;intro e;subst e;have:=ht k hk;rw[h.oR]at this;omega
  rw[ht k hk];omega
 have kc:∀ {e size n v xs t},V26 w base e size v n xs->Oi own v t->4<=t->V26 (w1.setCell ⟨R,0,none⟩ (.slice (some ⟨g,0,none⟩) (L.length+1) cap)) base e size v n xs:=by
  intro e size n v xs t ho ht h4;refine ho.of_block λ k hk=>cG k ?_ ?_ ?_
  exact (h.lt k (by rw[ht k hk];omega)).2;intro e;subst e;have:=ht k hk;rw[h.oR]at this;omega
  rw[ht k hk];omega
 exact⟨kp hr.k hr.tk (by omega),kp hr.s hr.ts (by omega),kc hr.u hr.tu (by omega),λ h8=>kp (hr.u8 h8) hr.tu (by omega),FK _ _ hr.tk (by omega) (by omega),FK _ _ hr.ts (by omega) (by omega),FK _ _ hr.tu (by omega) (by omega)⟩
 have FL:i=L.length:=by
  obtain⟨h5,_⟩:=U7.1 hx;simp at h5;omega
 subst FL;simp at hx;subst hx;refine⟨by rw[hk,dw];exact On _ _ _ _,by rw[kQ,fN];exact On _ _ _ _,?_,?_,by rw[hk];exact O6a _ _,by rw[kQ];exact O6a _ _,?_⟩
 refine hu.of_block λ k e=>cG k (kt k e).2 (λ e2=>?_) (by rw[(kt k e).1];omega)
 have:=(kt k e).1;subst e2;rw[h.oR]at this;omega
 intro h8;refine O1 (DV h8) λ k e=>cG k (kt k e).2 (λ e2=>?_) (by rw[(kt k e).1];omega)
 have:=(kt k e).1;subst e2;rw[h.oR]at this;omega
 intro k e;simp only[e,U1j]
 intro k hk;have dC:(w1.setCell ⟨R,0,none⟩ (.slice (some ⟨g,0,none⟩) (L.length+1) cap)).heap.size=w1.heap.size:=by simp[World.setCell]
 rw[dC]
 split at hk
 rename_i e
 have h5:=(kt k e).2;exact⟨(hu.lt k e).1,by omega⟩
 exact J155
 refine⟨?_,?_,?_,?_,?_,?_⟩;exact hg.os.trans (Below.os g1);exact hg.tape.trans (Below.tape g1);exact hg.output.trans (Below.output g1)
 have:(w1.setCell ⟨R,0,none⟩ (.slice (some ⟨g,0,none⟩) (L.length+1) cap)).heap.size=w1.heap.size:=by simp[World.setCell]
 omega;exact J178
 intro k hk;unfold FV at hk
 replace hk:(if r.uv.ownBlock=some k then 6+3*L.length else if k=g then 3 else own k)≠0:=hk
 split at hk;rename_i e;exact .inl (.inr e)
 exact J173
 intro k hk
 replace hk:(if r.uv.ownBlock=some k then 6+3*L.length else if k=g then 3 else own k)≠0:=hk
 split at hk;rename_i e;exact .inr (.inl e)
 exact J182
structure V1x(w0 W:World)(base:Nat)(F:Nat->Prop)(kv sv uv:Value)(nk ns nu:Nat)(xk xs xu:List Value):Prop where
 st:St F (λ _=>False) w0 W
 k:W.ownsRow base 9 1 kv nk xk
 s:W.ownsRow base 38 2 sv ns xs
 u:W.ownsRow base 3 1 uv nu xu
 fk:∀b,kv.ownBlock=some b->F b\/w0.heap.size<=b
 fs:∀b,sv.ownBlock=some b->F b\/w0.heap.size<=b
 fu:∀b,uv.ownBlock=some b->F b\/w0.heap.size<=b
 ks:∀b,kv.ownBlock=some b->sv.ownBlock≠some b
 ku:∀b,kv.ownBlock=some b->uv.ownBlock≠some b
 su:∀b,sv.ownBlock=some b->uv.ownBlock≠some b
structure V3b(W:World)(b:Nat)(cs:Array Value)(T:TypeId)(kv sv uv:Value):Prop where
 blk:W.heap[b]?=some (.cells cs T (0,0))
 k:kv.ownBlock≠some b
 s:sv.ownBlock≠some b
 u:uv.ownBlock≠some b
section
variable {w0 W w1:World}{base:Nat}{F:Nat->Prop}{kv sv uv:Value}{nk ns nu:Nat}{xk xs xu:List Value}
theorem St.grownF{F F':Nat->Prop}{a b c:World}{dP:Option Nat}(h:St F F' a b)(g:b.grownBy c dP)(hr:∀k,dP=some k->F k\/a.heap.size<=k):St F F' a c:=h.grown g hr
theorem V1x.size(h:V1x w0 W base F kv sv uv nk ns nu xk xs xu):w0.heap.size<=W.heap.size:=h.st.size
theorem V1x.alloc(h:V1x w0 W base F kv sv uv nk ns nu xk xs xu)(o:Obj):V1x w0 (W.alloc o) base F kv sv uv nk ns nu xk xs xu :=
 ⟨h.st.alloc o,h.k.alloc o,h.s.alloc o,h.u.alloc o,h.fk,h.fs,h.fu,h.ks,h.ku,h.su⟩
theorem V1x.drew(h:V1x w0 W base F kv sv uv nk ns nu xk xs xu):V1x w0 W.drew base F kv sv uv nk ns nu xk xs xu :=
 ⟨h.st.drew,h.k,h.s,h.u,h.fk,h.fs,h.fu,h.ks,h.ku,h.su⟩
theorem V1x.newB(h:V1x w0 W base F kv sv uv nk ns nu xk xs xu)(cs:Array Value)(T:TypeId):V3b (W.alloc (.cells cs T)) W.heap.size cs T kv sv uv :=
 ⟨U10 _ _,λ e=>by have:=(h.k.lt _ e).2;omega,λ e=>by have:=(h.s.lt _ e).2;omega,λ e=>by have:=(h.u.lt _ e).2;omega⟩
theorem V3b.lt{b:Nat}{cs:Array Value}{T:TypeId}(h:V3b W b cs T kv sv uv):b<W.heap.size:=(U8.1 h.blk).1
theorem V3b.alloc{b:Nat}{cs:Array Value}{T:TypeId}(h:V3b W b cs T kv sv uv)(o:Obj):V3b (W.alloc o) b cs T kv sv uv :=
 ⟨((Gr.refl W).alloc o).block h.lt |>.trans h.blk,h.k,h.s,h.u⟩
theorem V3b.drew{b:Nat}{cs:Array Value}{T:TypeId}(h:V3b W b cs T kv sv uv):V3b W.drew b cs T kv sv uv:=⟨h.blk,h.k,h.s,h.u⟩
theorem O1j{base e size n:Nat}{v:Value}{xs:List Value}(h:W.ownsRow base e size v n xs){dP:Option Nat}(hg:W.grownBy w1 dP)(a8:∀b,dP=some b->v.ownBlock≠some b):w1.ownsRow base e size v n xs :=
 h.kept hg (by cases hv:v.ownBlock with
  |none=>exact .inl rfl
  |some b=>exact .inr (λ e=>a8 b e.symm hv))
theorem V1x.appK(h:V1x w0 W base F kv sv uv nk ns nu xk xs xu){g cap:Nat}{ys:List Value}(ho:w1.ownsRow base 9 1 (.slice (some ⟨g,0,none⟩) (nk+1) cap) (nk+1) ys)(hg:W.grownBy w1 kv.ownBlock)
    (cY:kv.ownBlock=some g\/g=W.heap.size):V1x w0 w1 base F (.slice (some ⟨g,0,none⟩) (nk+1) cap) sv uv (nk+1) ns nu ys xs xu:=by
 have ey:F g\/w0.heap.size<=g:=by
  rcases cY with e|e
  exact h.fk g e
  exact .inr (by have:=h.size;omega)
 have hs:sv.ownBlock≠some g:=by
  rcases cY with e|e
  exact h.ks g e
  intro e2;have:=(h.s.lt g e2).2;omega
 have hu:uv.ownBlock≠some g:=by
  rcases cY with e|e
  exact h.ku g e
  intro e2;have:=(h.u.lt g e2).2;omega
 exact⟨h.st.grown hg h.fk,ho,O1j h.s hg h.ks,O1j h.u hg h.ku,λ b e=>by simp[Value.ownBlock]at e;subst e;exact ey,h.fs,h.fu,
  λ b e=>by simp[Value.ownBlock]at e;subst e;exact hs,λ b e=>by simp[Value.ownBlock]at e;subst e;exact hu,h.su⟩
theorem V1x.appS(h:V1x w0 W base F kv sv uv nk ns nu xk xs xu){g cap:Nat}{ys:List Value}(ho:w1.ownsRow base 38 2 (.slice (some ⟨g,0,none⟩) (ns+1) cap) (ns+1) ys)(hg:W.grownBy w1 sv.ownBlock)
    (cY:sv.ownBlock=some g\/g=W.heap.size):V1x w0 w1 base F kv (.slice (some ⟨g,0,none⟩) (ns+1) cap) uv nk (ns+1) nu xk ys xu:=by
 have ey:F g\/w0.heap.size<=g:=by
  rcases cY with e|e
  exact h.fs g e
  exact .inr (by have:=h.size;omega)
 have hk:kv.ownBlock≠some g:=by
  rcases cY with e|e
  intro e2;exact h.ks g e2 e
  intro e2;have:=(h.k.lt g e2).2;omega
 have hu:uv.ownBlock≠some g:=by
  rcases cY with e|e
  exact h.su g e
  intro e2;have:=(h.u.lt g e2).2;omega
 exact⟨h.st.grown hg h.fs,O1j h.k hg (λ b e e2=>h.ks b e2 e),ho,O1j h.u hg h.su,h.fk,λ b e=>by simp[Value.ownBlock]at e;subst e;exact ey,h.fu,
  λ b e e2=>by simp[Value.ownBlock]at e2;subst e2;exact hk e,h.ku,λ b e=>by simp[Value.ownBlock]at e;subst e;exact hu⟩
theorem V1x.appU(h:V1x w0 W base F kv sv uv nk ns nu xk xs xu){g cap:Nat}{ys:List Value}(ho:w1.ownsRow base 3 1 (.slice (some ⟨g,0,none⟩) (nu+1) cap) (nu+1) ys)(hg:W.grownBy w1 uv.ownBlock)
    (cY:uv.ownBlock=some g\/g=W.heap.size):V1x w0 w1 base F kv sv (.slice (some ⟨g,0,none⟩) (nu+1) cap) nk ns (nu+1) xk xs ys:=by
 have ey:F g\/w0.heap.size<=g:=by
  rcases cY with e|e
  exact h.fu g e
  exact .inr (by have:=h.size;omega)
 have hk:kv.ownBlock≠some g:=by
  rcases cY with e|e
  intro e2;exact h.ku g e2 e
  intro e2;have:=(h.k.lt g e2).2;omega
 have hs:sv.ownBlock≠some g:=by
  rcases cY with e|e
  intro e2;exact h.su g e2 e
  intro e2;have:=(h.s.lt g e2).2;omega
 exact⟨h.st.grown hg h.fu,O1j h.k hg (λ b e e2=>h.ku b e2 e),O1j h.s hg (λ b e e2=>h.su b e2 e),ho,h.fk,h.fs,λ b e=>by simp[Value.ownBlock]at e;subst e;exact ey,
  h.ks,λ b e e2=>by simp[Value.ownBlock]at e2;subst e2;exact hk e,λ b e e2=>by simp[Value.ownBlock]at e2;subst e2;exact hs e⟩
theorem V3b.app{b g n cap:Nat}{cs:Array Value}{T:TypeId}(h:V3b W b cs T kv sv uv){v:Value}(hv:v.ownBlock≠some b)(hg:W.grownBy w1 v.ownBlock)(cY:v.ownBlock=some g\/g=W.heap.size) :
    w1.heap[b]?=some (.cells cs T (0,0))/\(Value.slice (some ⟨g,0,none⟩) n cap).ownBlock≠some b:=by
 refine⟨by rw[hg.block b h.lt (λ e=>hv e.symm)];exact h.blk,λ e=>?_⟩;simp[Value.ownBlock]at e;subst e;rcases cY with e|e
 exact hv e
 have:=h.lt;omega
theorem V3b.appK{b g n cap:Nat}{cs:Array Value}{T:TypeId}(h:V3b W b cs T kv sv uv)(hg:W.grownBy w1 kv.ownBlock)(cY:kv.ownBlock=some g\/g=W.heap.size):V3b w1 b cs T (.slice (some ⟨g,0,none⟩) n cap) sv uv :=
 ⟨(h.app (n:=n) (cap:=cap) h.k hg cY).1,(h.app h.k hg cY).2,h.s,h.u⟩
theorem V3b.appS{b g n cap:Nat}{cs:Array Value}{T:TypeId}(h:V3b W b cs T kv sv uv)(hg:W.grownBy w1 sv.ownBlock)(cY:sv.ownBlock=some g\/g=W.heap.size):V3b w1 b cs T kv (.slice (some ⟨g,0,none⟩) n cap) uv :=
 ⟨(h.app (n:=n) (cap:=cap) h.s hg cY).1,h.k,(h.app h.s hg cY).2,h.u⟩
theorem V3b.appU{b g n cap:Nat}{cs:Array Value}{T:TypeId}(h:V3b W b cs T kv sv uv)(hg:W.grownBy w1 uv.ownBlock)(cY:uv.ownBlock=some g\/g=W.heap.size):V3b w1 b cs T kv sv (.slice (some ⟨g,0,none⟩) n cap) :=
 ⟨(h.app (n:=n) (cap:=cap) h.u hg cY).1,h.k,h.s,(h.app h.u hg cY).2⟩
end
theorem Ou{w:World}{base e size n g cap:Nat}{xs:List Value}(h:w.ownsRow base e size (.slice (some ⟨g,0,none⟩) n cap) n xs)(j:Nat)(hj:j<xs.length)(x:Value) :
    (w.setCell ⟨g,j,none⟩ x).ownsRow base e size (.slice (some ⟨g,0,none⟩) n cap) n (xs.set j x):=by
 refine⟨by rw[U1i];exact h.1,?_⟩;have h1:=h.1;rcases h.2 with⟨h2,_⟩|⟨g',pd,cur,h2,h3,h4,h5,h6,h7,h8⟩
 cases h2
 cases h2;refine .inr ⟨g,cap,cur.setIfInBounds j x,rfl,h3,block_setCell h4 x,h5,h6,by simpa using h7,?_⟩;rw[<-h8,Array.toList_setIfInBounds,List.take_set]
def FI(own:Nat->Nat)(i:Nat)(k:Nat):Prop:=own k=4+3*i\/own k=5+3*i\/own k=6+3*i
theorem RdV.start3{w W:World}{R B base:Nat}{s:ByteArray}{root:Int}{nv:Value}{L:List Vw}{own:Nat->Nat}(h:RdV w R B base s root nv L own)(g1:Gr w W)(i:Nat)(r:Vw)(hr:L[i]?=some r)(h8:r.nd.kind=8) :
    V1x w W base (FI own i) r.kv r.sv r.uv r.nd.keys.length r.nd.spots.length r.nd.subs.length (Oh r.nd.keys) (Oc r.nd.spots) (O7 r.nd.subs):=by
 refine Z206 ?_;intro hx kp;refine⟨(g1.st).to (λ _ e=>e.elim),kp hx.k hx.tk (by omega),kp hx.s hx.ts (by omega),kp (hx.u8 h8) hx.tu (by omega),λ b e => .inl (.inl (hx.tk b e)),λ b e => .inl (.inr (.inl (hx.ts b e))),λ b e => .inl (.inr (.inr (hx.tu b e))),?_,?_,?_⟩;intro b e e2;have:=hx.tk b e;have:=hx.ts b e2;omega;intro b e e2;have:=hx.tk b e;have:=hx.tu b e2;omega
 intro b e e2;have:=hx.ts b e;have:=hx.tu b e2;omega
def O8v(w w2:World)(R B base:Nat)(s:ByteArray)(root:Int)(nv:Value)(L:List Vw)(own:Nat->Nat)(i:Nat)(nd:Pl.Nd):Prop :=
 ∃own' kv sv uv,RdV w2 R B base s root nv (L.set i ⟨nd,kv,sv,uv⟩) own'/\St (FV own) (FV own') w w2/\(∀k,own' k≠0->own k≠0\/w.heap.size<=k)
theorem RdV.putDone{w W:World}{R B base:Nat}{s:ByteArray}{root:Int}{L:List Vw}{own:Nat->Nat}{g cap:Nat}(h:RdV w R B base s root (.slice (some ⟨g,0,none⟩) L.length cap) L own)(i:Nat)(r:Vw)(hr:L[i]?=some r)
    (nd:Pl.Nd)(bx:nd.kind=r.nd.kind)(cb:nd.text=r.nd.text)(fw:nd.sp=r.nd.sp)(mS:nd.owner=r.nd.owner){kv sv uv:Value}
    (H:V1x w W base (FI own i) kv sv uv nd.keys.length nd.spots.length nd.subs.length (Oh nd.keys) (Oc nd.spots) (O7 nd.subs)) :
    O8v w (((W.setCell ⟨g,i*7+2,none⟩ kv).setCell ⟨g,i*7+3,none⟩ sv).setCell ⟨g,i*7+4,none⟩ uv) R B base s root (.slice (some ⟨g,0,none⟩) L.length cap) L own i nd:=by
 have hi:i<L.length:=(U7.1 hr).1;refine Z223 ?_;intro dM aY hz hR hB WF am;have d5:WF.heap.size=W.heap.size:=by subst am;simp[World.setCell]
 refine Z273 ?_;intro aN;have jp:∀k,k<w.heap.size->k≠g->¬FI own i k->WF.heap[k]?=w.heap[k]?:=λ k hk h1 h2=>(aN k h1).trans (H.st.block k hk h2)
 have KJ:W.ownsRow base 40 7 (.slice (some ⟨g,0,none⟩) L.length cap) L.length (V35 L) :=
  O1 h.nodes λ k e=>by
   simp[Value.ownBlock]at e;subst e;exact H.st.block g aY.2 (λ e=>by unfold FI at e;omega)
 refine Z51 ?_;intro ao bN;refine⟨λ k=>if kv.ownBlock=some k then 4+3*i else if sv.ownBlock=some k then 5+3*i else if uv.ownBlock=some k then 6+3*i else own k,kv,sv,uv,?_,?_,?_⟩
 -- tags that are not this node's stay
 refine Z98 ?_;intro tg;have nF:∀k t,own k=t->t<4->¬FI own i k:=λ k t e h4 e2=>by unfold FI at e2;omega
 have nU:∀k,own k≠3->k≠g:=λ k e e2=>by subst e2;exact e dM
 have lc:∀{v:Value} {e size n xs},W.ownsRow base e size v n xs->(∀b,v.ownBlock=some b->FI own i b\/w.heap.size<=b)->∀k,v.ownBlock=some k->k≠g:=by
  intro v e size n xs _ hv k hk e2;subst e2;rcases hv k hk with h1|h1
  unfold FI at h1;omega
  omega
 refine⟨?_,?_,?_,?_,?_,?_,?_,?_⟩;rw[jp R hR.2 (nU R (by rw[h.oR];omega)) (nF R 1 h.oR (by omega))];exact h.blk;rw[tg R (by rw[h.oR];omega) (nF R 1 h.oR (by omega))];exact h.oR;rw[tg B (by rw[h.oB];omega) (nF B 2 h.oB (by omega))];exact h.oB;rw[U1i];exact bN;exact J179
 obtain⟨D,h1,h2,h3,h4⟩:=h.map;refine⟨D,Oq (by rw[O9m L i r ⟨nd,kv,sv,uv⟩ hr mS];exact h1) (jp B hB.2 (nU B (by rw[h.oB];omega)) (nF B 2 h.oB (by omega))),h2,by rw[U1i];exact h3,λ j x hx=>?_⟩;rw[U1o]at hx
 split at hx
 rename_i eJ
 subst eJ;cases hx;rw[h4 i r hr];simp only[mS]
 exact h4 j x hx
 intro j x hx;rw[U1o]at hx
 split at hx
 rename_i eJ
 subst eJ;cases hx;refine⟨O1 H.k λ k e=>aN k (lc H.k H.fk k e),O1 H.s λ k e=>aN k (lc H.s H.fs k e),O14 (O1 H.u λ k e=>aN k (lc H.u H.fu k e)),λ _=>O1 H.u λ k e=>aN k (lc H.u H.fu k e),?_,?_,?_⟩;intro k e;simp only at e;simp only[e,U1j];exact J183
 intro k e;simp only at e;have a1:kv.ownBlock≠some k:=λ e2=>H.ku k e2 e
 have a2:sv.ownBlock≠some k:=λ e2=>H.su k e2 e
 simp only[a1,a2,e,U1j,U1d]
 rename_i eJ
 have gh:=h.rows j x hx;have kp:∀ {e size n v xs t},w.ownsRow base e size v n xs->Oi own v t->4<=t->(t≠4+3*i/\t≠5+3*i/\t≠6+3*i) ->
     WF.ownsRow base e size v n xs/\Oi (λ k=>if kv.ownBlock=some k then 4+3*i else if sv.ownBlock=some k then 5+3*i else if uv.ownBlock=some k then 6+3*i else own k) v t:=by
  intro e size n v xs t ho ht h4 a8;have hF:∀k,v.ownBlock=some k->¬FI own i k:=λ k e e2=>by have:=ht k e;unfold FI at e2;omega
  refine⟨O1 ho λ k e=>jp k (h.lt k (by rw[ht k e];omega)).2 (nU k (by rw[ht k e];omega)) (hF k e),λ k e=>?_⟩;show (if _ then _ else _)=t;rw[tg k (by rw[ht k e];omega) (hF k e)];exact ht k e
 have a:=kp gh.k gh.tk (by omega) (by omega);have b:=kp gh.s gh.ts (by omega) (by omega);have c:V26 WF base 3 1 x.uv x.nd.subs.length (O7 x.nd.subs)/\_:=⟨gh.u.of_block λ k e=>jp k (h.lt k (by rw[gh.tu k e];omega)).2 (nU k (by rw[gh.tu k e];omega)) (λ e2=>by have:=gh.tu k e;unfold FI at e2;omega),λ h8=>(kp (gh.u8 h8) gh.tu (by omega) (by omega)).1⟩
 have ct:Oi (λ k=>if kv.ownBlock=some k then 4+3*i else if sv.ownBlock=some k then 5+3*i else if uv.ownBlock=some k then 6+3*i else own k) x.uv (6+3*j):=λ k e=>by
  show (if _ then _ else _)=_;rw[tg k (by rw[gh.tu k e];omega) (λ e2=>by have:=gh.tu k e;unfold FI at e2;omega)];exact gh.tu k e
 exact⟨a.1,b.1,c.1,c.2,a.2,b.2,ct⟩
 exact J143;exact J7
 exact J127
end Go.Proofs.YtnkgknbdaiakgaaGreatDoor
namespace Go.Proofs.YtnkgknbdaiakgaaGreatDoor
open Pl Go.Proofs.Tryz Go.RowKit Go.Joins
attribute [local go_sem ↓] Go.wp_at_zero Go.wp_at_succ
theorem byteAt_lt(s:ByteArray)(n:Nat)(h:n<s.size):V9 (bs s) n=s[n].toNat:=by
 unfold V9;rw[Uh (by rw[O0];exact h)];rfl
theorem O10(s:ByteArray)(n:Nat)(h:¬n<s.size):V9 (bs s) n=0:=by
 unfold V9;rw[U1m (by rw[O0];omega)]
theorem O1w(w:World)(R:Nat)(s:ByteArray)(hc:w.cell? ⟨R,2,none⟩=some (.string s))(i:Int)(n:Nat)(hi:i=n) :
    Calls prog 43 #[.pointer (some ⟨R,0,none⟩),i] w λ e w'=>e = .returned (.int .u8 (V9 (bs s) n))/\w=w':=by
 subst hi;by_cases h:n<s.size
 ·rw[byteAt_lt s n h];have hd:decide ((n:Int)<(s.size:Int))=true:=by simp;omega
  go_enter func43,ntmps43;exact J10
 rw[O10 s n h];have hd:decide ((n:Int)<(s.size:Int))=false:=by simp;omega
 go_enter func43,ntmps43;exact J10
theorem Ob4:(prog.info? 40).map (λ i=>(i.zero,i.size,i.bytes))=some (some (.agg #[.int .u8 0,.string ⟨#[]⟩,.slice none 0 0,.slice none 0 0,.slice none 0 0,(0:Int),(0:Int)]),7,112):=by kernel_rfl
theorem O2q{own:Nat->Nat}{v:Value}{t R:Nat}(h:Oi own v t)(hR:own R≠t):some R≠v.ownBlock:=λ e=>hR (h R e.symm)
theorem O8w(w:World)(R B base:Nat)(s:ByteArray)(root:Int)(nv:Value)(L:List Vw)(own:Nat->Nat)(h:RdV w R B base s root nv L own)(hL:L.length<=30000000)
    (r:Vw)(oc:r.uv.oneCell'=true)(hk:r.kv = .slice none 0 0)(kQ:r.sv = .slice none 0 0)(dw:r.nd.keys=[])(fN:r.nd.spots=[])(DU:r.nd.owner=0)
    (hu:V26 w base 3 1 r.uv r.nd.subs.length (O7 r.nd.subs))(DV:r.nd.kind=8->w.ownsRow base 3 1 r.uv r.nd.subs.length (O7 r.nd.subs))(kt:∀k,r.uv.ownBlock=some k->own k=0/\k<w.heap.size)
    (k:Nat)(t:ByteArray)(kv sv uv:Value)(a b:Int)(hV:ndV r=[.int .u8 k,.string t,kv,sv,uv,.int .i64 a,.int .i64 b]) :
    Calls prog 74 #[.pointer (some ⟨R,0,none⟩),.agg #[.int .u8 k,.string t,kv,sv,uv,a,b]] w λ e w' =>
     e = .returned L.length/\∃nv',O7a w w' R B base s root L own r nv':=by
 obtain⟨i0,hi,fE,ay,aJ⟩:=U2u Ob4;obtain⟨c0,c1,c2,c3,fz⟩:=h.cells;have zN:=fz 0;have hR:=h.R_lt;have bM:base<=w.heap.size:=by omega
 have FM:∀u∈[(.int .u8 k:Value),.string t,kv,sv,uv,.int .i64 a,.int .i64 b],u.oneCell'=true:=by
  rw[<-hV];intro u hu;simp[ndV,hk,kQ]at hu;rcases hu with rfl|rfl|rfl|rfl|rfl|rfl <;> first|rfl|exact oc
 have a8:some R≠nv.ownBlock:=O2q h.oN (by rw[h.oR];omega);have nN:some w.heap.size≠nv.ownBlock:=λ e=>by have:=(h.nodes.lt _ e.symm).2;omega
 have HA:Hid (∀W w1 g cap,Gr w W->w1.ownsRow base 40 7 (.slice (some ⟨g,0,none⟩) (L.length+1) cap) (L.length+1) (V35 L++[.int .u8 k,.string t,kv,sv,uv,.int .i64 a,.int .i64 b])->W.grownBy w1 nv.ownBlock->(nv.ownBlock=some g\/g=W.heap.size)->g<w1.heap.size->O7a w (w1.setCell ⟨R,0,none⟩ (.slice (some ⟨g,0,none⟩) (L.length+1) cap)) R B base s root L own r (.slice (some ⟨g,0,none⟩) (L.length+1) cap)):=by
  rw[<-hV];exact λ W w1 g cap g1 ho hg cY aa=>h.appended g1 r hk kQ dw fN DU hu DV kt g cap ho hg cY aa
 have HI:=U0 hi;have HZ:=U0 fE;have B7:=U0 ay;have sC:=U0 aJ;have HN:=U0 h.nodes;clear fz hi fE ay aJ h hu DV kt hV hk kQ dw fN DU oc;go_enter func74,ntmps74;go_wp2_with fail;obtain⟨W,hW⟩:=ExZ (w.alloc (.cells #[.int .u8 k,.string t,kv,sv,uv,a,b] 40))
 have bO:∀o,W.cell? ⟨R,o,none⟩=w.cell? ⟨R,o,none⟩:=by subst hW;exact λ o=>((Gr.refl w).alloc _).use.1 R o hR.2
 have ej:∀o,W.frozen? ⟨R,o,none⟩=w.frozen? ⟨R,o,none⟩:=by subst hW;exact λ o=>((Gr.refl w).alloc _).use.2.1 R o hR.2
 have e0:W.cell? ⟨R,0,none⟩=some nv:=by rw[bO];exact c0
 have e1:W.frozen? ⟨R,0,none⟩=false:=by rw[ej];exact zN
 have n0:W.cell? ⟨w.heap.size,0,none⟩=some (.int .u8 k):=by subst hW;simp
 have n1:W.cell? ⟨w.heap.size,1,none⟩=some (.string t):=by subst hW;simp
 have n2:W.cell? ⟨w.heap.size,2,none⟩=some kv:=by subst hW;simp
 have n3:W.cell? ⟨w.heap.size,3,none⟩=some sv:=by subst hW;simp
 have n4:W.cell? ⟨w.heap.size,4,none⟩=some uv:=by subst hW;simp
 have n5:W.cell? ⟨w.heap.size,5,none⟩=some (.int .i64 a):=by subst hW;simp
 have n6:W.cell? ⟨w.heap.size,6,none⟩=some (.int .i64 b):=by subst hW;simp
 have KY:w.heap.size+1=W.heap.size:=by subst hW;simp
 have FN:Gr w W:=by subst hW;exact (Gr.refl w).alloc _
 have DW:Hid (W.ownsRow base 40 7 nv L.length (V35 L)):=O1 HN.o λ k e=>FN.block (HN.o.lt k e).2
 have HG:=U0 FN;have Sk:w.heap.size<W.heap.size:=by omega
 have zO:R<W.heap.size:=by omega
 have NM:base<=W.heap.size:=by omega
 have ek:=hR.2;rw[hW];clear hW bO ej FN KY hR
 set_option maxRecDepth 100000 in
 go_region_law
  ((refine step_append_lies _ (by rfl) (.tmp 10) (.tmp 12) 24 (by rfl) base 40 i0 _ 7 112 underlying24 HI.o HZ.o B7.o sC.o (by rfl) (by decide) nv L.length (V35 L) (by simp[Act.eval,Act.put]) ((DW.o.alloc _)) ⟨W.heap.size,0,none⟩ 1 1 [.int .u8 k,.string t,kv,sv,uv,.int .i64 a,.int .i64 b] (by simp[Act.eval,Act.put]) (by rfl) (U1e (U10 _ _)) FM (by decide) (by unfold maxLen;omega) (by omega) (by simp;omega) (W.heap.size+1) (by simp) ?_;intro g cap w1 dm fO gj ay;have f3:w1.frozen? ⟨R,0,none⟩=false:=(fO.frozen_far ⟨R,0,none⟩ (by simp;omega) a8).trans ((((Gr.refl W).alloc _).drew.use.2.1 R 0 zO).trans e1);have f4:w1.cell? ⟨R,0,none⟩=some nv:=(fO.cell_far ⟨R,0,none⟩ (by simp;omega) a8).trans ((((Gr.refl W).alloc _).drew.use.1 R 0 zO).trans e0)))
 all_goals go_wp2_with fail
 all_goals go_ret
 all_goals exact⟨rfl,_,HA.o _ w1 g cap ((HG.o.alloc _).drew) dm fO (by simpa using gj) ay⟩
end Go.Proofs.YtnkgknbdaiakgaaGreatDoor
namespace Go.Proofs.YtnkgknbdaiakgaaGreatDoor
open Pl Go.Proofs.Tryz Go.RowKit Go.Joins
abbrev Ob(c:UInt8):Value := .int .u8 c.toNat
structure RdQ(w:World)(R:Nat)(s:ByteArray)(a:Nat)(q:UInt8)(out:List UInt8)(ov:Value):Prop where
 blk:w.heap[R]?=some (.cells #[.string s,a,Ob q,ov] 136 (0,0))
 own:w.ownsRow (R+1) 5 1 ov out.length (out.map Ob)
def FQ(R:Nat)(ov:Value)(k:Nat):Prop:=k=R\/ov.ownBlock=some k
theorem RdQ.lt{w R s a q out ov}(h:RdQ w R s a q out ov):R<w.heap.size:=by
 have:=h.blk;rw[U8]at this;exact this.1
theorem RdQ.own_lt{w R s a q out ov}(h:RdQ w R s a q out ov){k:Nat}(hk:FQ R ov k):R<=k/\k<w.heap.size:=by
 rcases hk with rfl|hk
 exact⟨U2 _,h.lt⟩
 have:=h.own.lt k hk;omega
theorem RdQ.cells{w R s a q out ov}(h:RdQ w R s a q out ov) :
    w.cell? ⟨R,0,none⟩=some (.string s)/\w.cell? ⟨R,1,none⟩=some (.int .i64 a)/\w.cell? ⟨R,2,none⟩=some (.int .u8 q.toNat)/\w.cell? ⟨R,3,none⟩=some ov/\(∀i,w.frozen? ⟨R,i,none⟩=false) :=
 ⟨by rw[cell_of_block h.blk];rfl,by rw[cell_of_block h.blk];rfl,by rw[cell_of_block h.blk];rfl,by rw[cell_of_block h.blk];rfl,λ i=>unfrozen_of_block h.blk i⟩
theorem RdQ.kept{w w' R s a q out ov}(h:RdQ w R s a q out ov)(hb:∀k,FQ R ov k->w'.heap[k]?=w.heap[k]?):RdQ w' R s a q out ov:=by
 refine⟨by rw[hb R (.inl rfl)];exact h.blk,h.own.1,?_⟩;rcases h.own.2 with hn|⟨g,cap,cur,rfl,hg,hh,r⟩
 exact .inl hn
 exact .inr ⟨g,cap,cur,rfl,hg,by rw[hb g (.inr rfl)];exact hh,r⟩
theorem RdQ.gr{w w' R s a q out ov}(h:RdQ w R s a q out ov)(g:Gr w w'):RdQ w' R s a q out ov :=
 h.kept λ _ hk=>g.block (h.own_lt hk).2
theorem RdQ.alloc{w R s a q out ov}(h:RdQ w R s a q out ov)(o:Obj):RdQ (w.alloc o) R s a q out ov:=h.gr ((Gr.refl w).alloc o)
theorem RdQ.drew{w R s a q out ov}(h:RdQ w R s a q out ov):RdQ w.drew R s a q out ov:=h.gr (Gr.refl w).drew
theorem RdQ.drewN{w R s a q out ov}(h:RdQ w R s a q out ov)(n:Nat):RdQ (w.drewN n) R s a q out ov:=h.gr ((Gr.refl w).drewN n)
theorem RdQ.setCell{w R s a q out ov}(h:RdQ w R s a q out ov){p:Addr}(hp:¬FQ R ov p.block)(v:Value):RdQ (w.setCell p v) R s a q out ov :=
 h.kept λ k hk=>U5 _ _ _ _ (λ e=>by subst e;exact hp hk)
theorem RdQ.setAt{w R s a q out ov}(h:RdQ w R s a q out ov)(b:Nat):RdQ (w.setCell ⟨R,1,none⟩ b) R s b q out ov:=by
 refine⟨?_,h.own.1,?_⟩;have:=block_setCell (i:=1) h.blk b;exact J15
 rcases h.own.2 with hn|⟨g,cap,cur,rfl,hg,hh,r⟩
 exact .inl hn
 exact .inr ⟨g,cap,cur,rfl,hg,by rw[U5 _ _ _ _ (by simp;omega)];exact hh,r⟩
theorem O4q(w:World)(v:Value)(t:TypeId)(n:Nat)(hn:n=w.heap.size):∀j u,[v][j]?=some u->(w.alloc (.cells #[v] t)).cell? ⟨n,0+j,none⟩=some u:=by
 subst hn;intro j u hu;have:=cell_one_new w v t j u hu;rw[U3b]at this;exact this
theorem Oos:(prog.info? 5).map (λ i=>(i.zero,i.size,i.bytes))=some (some (.int .u8 0),1,1):=by kernel_rfl
theorem O3e(w:World)(R:Nat)(s:ByteArray)(a:Nat)(q:UInt8)(out:List UInt8)(ov:Value)(h:RdQ w R s a q out ov)
    (i:Int)(m:Nat)(hi:i=m)(ha:a+m<=30000000)(nb:List UInt8)(tb uJ c:Nat)(a8:nb≠[])(FO:tb≠R)
    (lV:∀j u,(nb.map Ob)[j]?=some u->w.cell? ⟨tb,uJ+j,none⟩=some u)(ao:out.length+nb.length<=30000000) :
    Calls prog 241 #[.pointer (some ⟨R,0,none⟩),i,.slice (some ⟨tb,uJ,none⟩) nb.length c] w λ e w' =>
     e = .returned (.tuple #[])/\∃aH,RdQ w' R s (a+m) q (out++nb) aH/\St (FQ R ov) (FQ R aH) w w':=by
 subst hi;obtain⟨i0,hi,fE,ay,aJ⟩:=U2u Oos;refine Z231 ?_;intro c0 c1 c2 c3 fz aa;have DX:=fz 1;have Sl:=fz 3;have HA:Hid (RdQ (w.setCell ⟨R,1,none⟩ (.int .i64 (a+m:Nat))) R s (a+m) q out ov):=h.setAt (a+m);have HI:=U0 hi;have HZ:=U0 fE;have B7:=U0 ay;have sC:=U0 aJ;have HN:Hid (∀j u,(nb.map Ob)[j]?=some u->(w.setCell ⟨R,1,none⟩ (.int .i64 (a+m:Nat))).cell? ((⟨tb,uJ,none⟩:Addr).add j)=some u):=by
  intro j u hu;rw[U3b,Um _ _ _ _ (by intro e;exact FO (U1q Addr.block e).symm)];exact lV j u hu
 have eu:0<nb.length:=by cases nb with|nil=>exact absurd rfl a8|cons=>simp
 have HS:=U0 h;clear fz lV hi fE ay aJ h;go_enter func241,ntmps241
 set_option maxRecDepth 100000 in
 go_wp2_with (at_builtin;refine wpList_append_lies _ rfl (.tmp 18) (.tmp 19) 22 rfl (R+1) 5 i0 (.int .u8 0) 1 1 underlying22 HI.o HZ.o B7.o sC.o rfl (by decide) ov out.length (out.map Ob) rfl HA.o.own ⟨tb,uJ,none⟩ nb.length c (nb.map Ob) rfl (by simp) HN.o (by simp[Value.oneCell']) eu (by unfold maxLen;omega) (by omega) (by simp[World.setCell];omega) _ rfl ?_;intro g cap w1 dm fO gj ay;have hr:=λ o=>Us (w:=w.setCell ⟨R,1,none⟩ (.int .i64 (a+m:Nat))) (a:=⟨R,o,none⟩) (fO.block R (by simp[World.setCell];exact aa) (λ e=>by have:=HA.o.own.lt R e.symm;omega));have FP:=λ o=>U25 (w:=w.setCell ⟨R,1,none⟩ (.int .i64 (a+m:Nat))) (a:=⟨R,o,none⟩) (fO.block R (by simp[World.setCell];exact aa) (λ e=>by have:=HA.o.own.lt R e.symm;omega));have e3:w1.cell? ⟨R,3,none⟩=some ov:=(hr 3).trans HA.o.cells.2.2.2.1;have f3:w1.frozen? ⟨R,3,none⟩=false:=(FP 3).trans (HA.o.cells.2.2.2.2 3);have H1:=U0 (show _/\_/\_ from ⟨dm,fO,gj⟩);clear dm fO gj hr FP);obtain⟨dm,fO,gj⟩:=H1.o;have hA:=HA.o;have B8:w1.heap[R]?=some (.cells #[.string s,.int .i64 (a+m:Nat),Ob q,ov] 136 (0,0)):=by
  rw[fO.block R (by simp[World.setCell];exact aa) (λ e=>by have:=hA.own.lt R e.symm;omega)];exact hA.blk
 go_end0
 refine⟨rfl,.slice (some ⟨g,0,none⟩) (out.length+nb.length) cap,⟨?_,?_⟩,?_⟩;have:=block_setCell (i:=3) B8 (.slice (some ⟨g,0,none⟩) (out.length+nb.length) cap);exact J15;have:=ownsRow_setCell_below dm (a:=⟨R,3,none⟩) (Nat.lt_succ_self R) (.slice (some ⟨g,0,none⟩) (out.length+nb.length) cap);exact J15
 have h1:St (FQ R ov) (FQ R ov) w (w.setCell ⟨R,1,none⟩ (.int .i64 (a+m:Nat))):=(St.refl _ _).setCell (.inl (.inl rfl)) _;have h2:=h1.grown fO (λ k hk => .inl (.inr hk));have h3:=h2.setCell (p:=⟨R,3,none⟩) (.inl (.inl rfl)) (.slice (some ⟨g,0,none⟩) (out.length+nb.length) cap);have e:(↑a + ↑m:Int)=((a+m:Nat):Int):=by omega
 refine St.to (by simpa [e]using h3) (λ k hk=>?_);rcases hk with rfl|hk
 exact .inl (.inl rfl)
 simp only[Value.ownBlock,Uc]at hk;subst hk;rcases gj with gj|gj
 exact .inl (.inr gj)
 exact .inr (by rw[gj];simp[World.setCell])
theorem RdQ.auto{w w2:World}{R:Nat}{s:ByteArray}{a:Nat}{q:UInt8}{out:List UInt8}{ov:Value}(k:RdQ w R s a q out ov)(h:RdQ w R s a q out ov->RdQ w2 R s a q out ov:=by intro k;(repeat (first|exact k|refine RdQ.drew ?_|refine RdQ.drewN ?_ _|refine RdQ.alloc ?_ _|refine RdQ.setCell ?_ (by assumption) _|refine RdQ.gr ?_ (by assumption)))):RdQ w2 R s a q out ov:=h k
def O4:Value->Value
 |.slice a n _ => .slice a n n
 |v=>v
theorem O2r(v:Value):(O4 v).ownBlock=v.ownBlock:=by
 cases v <;> first|rfl|(rename_i a n c;cases a <;> rfl)
theorem O3u(g n cap:Nat)(h:n<=cap)(hc:cap<=9223372036854775807)(w:World):Calls prog 21 #[.slice (some ⟨g,0,none⟩) n cap] w λ e w'=>e = .returned (.slice (some ⟨g,0,none⟩) n n)/\w=w':=by
 go_enter func21,ntmps21;exact J26
theorem O80(w:World):Calls prog 21 #[.slice none 0 0] w λ e w'=>e = .returned (.slice none 0 0)/\w=w':=by
 go_enter func21,ntmps21;exact J26
theorem O4v(g n cap:Nat)(h:n<=cap)(hc:cap<=9223372036854775807)(w:World):Calls prog 22 #[.slice (some ⟨g,0,none⟩) n cap] w λ e w'=>e = .returned (.slice (some ⟨g,0,none⟩) n n)/\w=w':=by
 go_enter func22,ntmps22;exact J26
theorem O6x(w:World):Calls prog 22 #[.slice none 0 0] w λ e w'=>e = .returned (.slice none 0 0)/\w=w':=by
 go_enter func22,ntmps22;exact J26
theorem O9r(g n cap:Nat)(h:n<=cap)(hc:cap<=9223372036854775807)(w:World):Calls prog 26 #[.slice (some ⟨g,0,none⟩) n cap] w λ e w'=>e = .returned (.slice (some ⟨g,0,none⟩) n n)/\w=w':=by
 go_enter func26,ntmps26;exact J26
theorem O81(w:World):Calls prog 26 #[.slice none 0 0] w λ e w'=>e = .returned (.slice none 0 0)/\w=w':=by
 go_enter func26,ntmps26;exact J26
theorem O82(g n cap:Nat)(h:n<=cap)(hc:cap<=9223372036854775807)(w:World):Calls prog 27 #[.slice (some ⟨g,0,none⟩) n cap] w λ e w'=>e = .returned (.slice (some ⟨g,0,none⟩) n n)/\w=w':=by
 go_enter func27,ntmps27;exact J26
theorem O15{w:World}{base e size n:Nat}{v:Value}{xs:List Value}(h:w.ownsRow base e size v n xs):(v = .slice none 0 0/\n=0)\/∃g cap,v = .slice (some ⟨g,0,none⟩) n cap/\n<=cap/\cap<=9223372036854775807:=by
 rcases h.2 with⟨h1,h2⟩|⟨g,cap,cur,h1,_,_,h2,h3,_⟩
 exact .inl ⟨h1,h2⟩
 exact .inr ⟨g,cap,h1,h2,by simpa [maxLen]using h3⟩
theorem O2c{w:World}{base e size n:Nat}{v:Value}{xs:List Value}(h:w.ownsRow base e size v n xs):V26 w base e size (O4 v) n xs:=by
 rcases O15 h with⟨rfl,h0⟩|⟨g,cap,rfl,_,_⟩
 exact⟨_,h,rfl,.inl rfl⟩
 exact⟨_,h,rfl,.inr ⟨g,cap,rfl,rfl⟩⟩
theorem O36{w:World}{base e size n:Nat}{v:Value}{xs:List Value}(h:V26 w base e size v n xs):V26 w base e size (O4 v) n xs:=by
 obtain⟨v0,h1,h2,h3⟩:=h;rcases h3 with rfl|⟨g,c,rfl,rfl⟩
 exact O2c h1
 exact⟨_,h1,rfl,.inr ⟨g,c,rfl,rfl⟩⟩
theorem Or{w:World}{base e size n:Nat}{v:Value}{xs:List Value}(h:V26 w base e size v n xs):(v = .slice none 0 0/\n=0)\/∃g cap,v = .slice (some ⟨g,0,none⟩) n cap/\n<=cap/\cap<=9223372036854775807:=by
 obtain⟨v0,h1,h2,h3⟩:=h;rcases O15 h1 with⟨rfl,h0⟩|⟨g,cap,rfl,q1,q2⟩
 rcases h3 with rfl|⟨g,c,e1,_⟩
 exact .inl ⟨rfl,h0⟩
 cases e1
 rcases h3 with rfl|⟨g',c,e1,rfl⟩
 exact .inr ⟨g,cap,rfl,q1,q2⟩
 cases e1;exact .inr ⟨g,n,rfl,U2 _,Uj q1 q2⟩
section
variable {w0 W W':World}{base:Nat}{F:Nat->Prop}{kv sv uv:Value}{nk ns nu:Nat}{xk xs xu:List Value}
theorem V1x.gr(h:V1x w0 W base F kv sv uv nk ns nu xk xs xu)(g:Gr W W'):V1x w0 W' base F kv sv uv nk ns nu xk xs xu :=
 ⟨h.st.gr g,O1 h.k λ k e=>g.block (h.k.lt k e).2,O1 h.s λ k e=>g.block (h.s.lt k e).2,O1 h.u λ k e=>g.block (h.u.lt k e).2,h.fk,h.fs,h.fu,h.ks,h.ku,h.su⟩
theorem V3b.gr{b:Nat}{cs:Array Value}{T:TypeId}(h:V3b W b cs T kv sv uv)(g:Gr W W'):V3b W' b cs T kv sv uv:=⟨(g.block h.lt).trans h.blk,h.k,h.s,h.u⟩
theorem V1x.setCell(h:V1x w0 W base F kv sv uv nk ns nu xk xs xu){b i:Nat}(hb:w0.heap.size<=b)(hk:kv.ownBlock≠some b)(hs:sv.ownBlock≠some b)(hu:uv.ownBlock≠some b)(x:Value):V1x w0 (W.setCell ⟨b,i,none⟩ x) base F kv sv uv nk ns nu xk xs xu :=
 ⟨h.st.setCell (.inr hb) x,Od h.k (λ k e e2=>hk (by rw[e,e2])) _,Od h.s (λ k e e2=>hs (by rw[e,e2])) _,Od h.u (λ k e e2=>hu (by rw[e,e2])) _,h.fk,h.fs,h.fu,h.ks,h.ku,h.su⟩
theorem V3b.setOther{b:Nat}{cs:Array Value}{T:TypeId}(h:V3b W b cs T kv sv uv){p:Addr}(hp:p.block≠b)(x:Value):V3b (W.setCell p x) b cs T kv sv uv:=⟨by rw[U5 _ _ _ _ (U2k hp)];exact h.blk,h.k,h.s,h.u⟩
theorem V3b.set{b i:Nat}{cs:Array Value}{T:TypeId}(h:V3b W b cs T kv sv uv)(x:Value):V3b (W.setCell ⟨b,i,none⟩ x) b (cs.setIfInBounds i x) T kv sv uv:=⟨block_setCell h.blk x,h.k,h.s,h.u⟩
theorem V3b.cell{b i:Nat}{cs:Array Value}{T:TypeId}(h:V3b W b cs T kv sv uv){x:Value}(hx:cs[i]?=some x):W.cell? ⟨b,i,none⟩=some x/\W.frozen? ⟨b,i,none⟩=false :=
 ⟨by rw[cell_of_block h.blk];exact hx,unfrozen_of_block h.blk i⟩
end
def O18(R:Nat)(s:ByteArray)(a:Nat)(q:UInt8)(out:List UInt8)(ov:Value)(w:World)(sr:Pl.SR)(e:Ending)(w':World):Prop :=
 match sr with
 |.go n t over=>e = .returned (.tuple #[.bool over,f0])/\∃aH,RdQ w' R s (a+n) q (out++t) aH/\St (FQ R ov) (FQ R aH) w w'
 |.bad p=>e = .returned (.tuple #[.bool false,fv 3 (a+p)])/\∃F',St (FQ R ov) F' w w'
theorem Ob9(w:World)(R:Nat)(s:ByteArray)(a:Nat)(q:UInt8)(out:List UInt8)(ov:Value)(h:RdQ w R s a q out ov)
    (aa:a<s.size)(hs:s.size<=20000000)(hp:V3v s[a]=false) :
    Calls prog 240 #[.pointer (some ⟨R,0,none⟩)] w λ e w'=>e = .returned (.tuple #[.bool false,fv 3 a])/\Gr w w':=by
 refine Z231 ?_;intro c0 c1 c2 c3 fz hR;have HP:=U0 hp;clear fz h hp c3;go_enter func240,ntmps240;go_wp2_with fail
 go_quiet (fail)
 go_wp2_with (first|(go_at_call 51;refine (Ob8 _ _).mono ?_;rw[HP.o];rintro e w1 ⟨rfl,rfl⟩)|(go_at_call 63;refine (O1d _ a rfl _).mono ?_;rintro e w1 ⟨rfl,g1⟩;obtain⟨ah,ar,ay⟩:=g1.use));exact U1 (v := .tuple #[.bool false,fv 3 a]) (by simp[results,results240,go_sem,ah]) rfl ⟨rfl,Gr.auto⟩
theorem Oah(w:World)(R:Nat)(s:ByteArray)(a:Nat)(q:UInt8)(out:List UInt8)(ov:Value)(h:RdQ w R s a q out ov)
    (aa:a<s.size)(hs:s.size<=20000000)(ho:out.length<=a)(hp:V3v s[a]=true) :
    Calls prog 240 #[.pointer (some ⟨R,0,none⟩)] w λ e w'=>e = .returned (.tuple #[.bool false,f0])/\∃aH,RdQ w' R s (a+1) q (out++[s[a]]) aH/\St (FQ R ov) (FQ R aH) w w':=by
 refine Z231 ?_;intro c0 c1 c2 c3 fz hR;have HP:=U0 hp;have HS:=U0 h;clear fz h hp c3;go_enter func240,ntmps240;go_wp2_with fail
 go_quiet (fail)
 go_wp2_with (first|(go_at_call 51;refine (Ob8 _ _).mono ?_;rw[HP.o];rintro e w1 ⟨rfl,rfl⟩));refine (O3e _ R s a q out ov (RdQ.auto HS.o) 1 1 rfl (by omega) [s[a]] (w.heap.size+1) 0 1 (by simp) (by omega) (O4q _ _ _ _ (by simp)) (by simp;omega)).mono ?_;rintro e w1 ⟨rfl,aH,hr,a9⟩;have aO:=a9.use w.heap.size (by simp;omega) (λ hF=>by have:=HS.o.own_lt hF;omega);have hz:=a9.size;simp at hz;obtain⟨ah,ar⟩:=aO;refine Z161 ?_;intro HR HT;clear hr a9;go_wp2_with fail;refine U1 (v := .tuple #[.bool false,f0]) (by simp[results,results240,go_sem,ah]) rfl ⟨rfl,aH,?_,?_⟩
 have eG:¬FQ R aH w.heap.size:=λ hF=>by
  rcases HT.o.own _ hF with hF|hF
  have:=HS.o.own_lt hF;omega
  simp at hF;omega
 exact RdQ.auto HR.o
 exact J16
theorem Ogj(w:World)(R:Nat)(s:ByteArray)(a:Nat)(q:UInt8)(out:List UInt8)(ov:Value)(h:RdQ w R s a q out ov)
    (aa:a<s.size)(hs:s.size<=20000000)(hp:((s[a]).toNat==q.toNat)=false) :
    Calls prog 238 #[.pointer (some ⟨R,0,none⟩)] w λ e w'=>e = .returned (.bool false)/\Gr w w':=by
 refine Z231 ?_;intro c0 c1 c2 c3 fz hR;obtain⟨b1,b2⟩:=V1o _ _ _ hp;clear fz h hp c3;go_enter func238,ntmps238;go_wp2_with fail
 go_quiet (fail)
 exact J17
theorem O7q(w:World)(R:Nat)(s:ByteArray)(a:Nat)(q:UInt8)(out:List UInt8)(ov:Value)(h:RdQ w R s a q out ov)
    (aa:a<s.size)(hs:s.size<=20000000)(hp:((s[a]).toNat==q.toNat)=true) :
    Calls prog 238 #[.pointer (some ⟨R,0,none⟩)] w λ e w'=>e = .returned (.bool true)/\RdQ w' R s (a+1) q out ov/\St (FQ R ov) (FQ R ov) w w':=by
 refine Z231 ?_;intro c0 c1 c2 c3 fz hR;obtain⟨b1,b2⟩:=V1o _ _ _ hp;have DX:=fz 1;have HS:=U0 h;have HP:=U0 hp;clear fz h hp c3;go_enter func238,ntmps238;go_wp2_with fail
 go_quiet (fail)
 go_wp2_with fail
 go_ret
 have e:(↑a+1:Int)=((a+1:Nat):Int):=by omega
 rw[e];exact⟨rfl,by first|exact (HS.o.setAt (a+1)).drewN _|exact (HS.o.setAt (a+1)),by first|exact ((St.refl _ _).setCell (.inl (.inl rfl)) _).drewN _|exact ((St.refl _ _).setCell (.inl (.inl rfl)) _)⟩
theorem Olj(s:ByteArray)(a:Nat)(aa:a<s.size) :
    Pl.feed ((bs s).drop a)=if (s[a].toNat==10)=true then .ok 1 else if (s[a].toNat==13)=true then (if Pl.pre ((bs s).drop (a+1)) [10]=true then .ok 2 else .bad 3 1) else .ok 0:=by
 rw[O8 s a aa];generalize (bs s).drop (a+1)=l;generalize s[a]=c;by_cases bD:c=10;subst bD;simp[Pl.feed]
 by_cases eS:c=13
 ·subst eS;cases l with
  |nil=>simp[Pl.feed,Pl.pre]
  |cons b l =>
   by_cases hb:b=10;subst hb;simp[Pl.feed,Pl.pre]
   have:Pl.feed (13::b::l) = .bad 3 1:=by
    unfold Pl.feed;split <;> simp_all
   rw[this];simp[Pl.pre,hb]
 have:Pl.feed (c::l) = .ok 0:=by
  unfold Pl.feed;split <;> simp_all
 have e1:¬c.toNat=10:=λ e=>bD (by rw[<-U1b,e];rfl)
 have e2:¬c.toNat=13:=λ e=>eS (by rw[<-U1b,e];rfl)
 rw[this];simp[e1,e2]
theorem O6d(w:World)(R:Nat)(s:ByteArray)(a:Nat)(q:UInt8)(out:List UInt8)(ov:Value)(h:RdQ w R s a q out ov)
    (aa:a<s.size)(hs:s.size<=20000000) :
    Calls prog 65 #[.pointer (some ⟨R,0,none⟩)] w λ e w'=>(match Pl.feed ((bs s).drop a) with
     |.ok n=>e = .returned (.tuple #[n,f0])
     |.bad c p=>e = .returned (.tuple #[(0:Int),fv c (a+p)]))/\Gr w w':=by
 refine Z231 ?_;intro c0 c1 c2 c3 fz hR;rw[Olj s a aa];have HS:=U0 h;clear fz h c3;cases bD:(s[a].toNat==10)
 ·obtain⟨b1,b2⟩:=V1o _ 10 _ bD;cases eS:(s[a].toNat==13)
  ·obtain⟨b3,b4⟩:=V1o _ 13 _ eS;clear bD eS;simp only[U11,U1d];go_enter func65,ntmps65;go_wp2_with fail
   go_quiet (fail)
   go_wp2_with fail
   go_quiet (fail)
   go_wp2_with fail;exact U1 (v := .tuple #[(0:Int),f0]) (by simp[results,results65,go_sem]) rfl ⟨rfl,Gr.auto⟩
  obtain⟨b3,b4⟩:=V1o _ 13 _ eS;clear bD eS;cases hp:Pl.pre ((bs s).drop (a+1)) [10]
  ·simp only[U11,U1d,U1j];have HP:=U0 hp;clear hp;have hw:=Uk ((a:Int)+1) (by omega);refine Z126 ?_;intro bx cb fw;go_enter func65,ntmps65;go_wp2_with fail
   go_quiet (fail)
   go_wp2_with fail
   go_quiet (fail)
   go_wp2_with fail
   go_quiet ((go_at_call 56;exact O32 (O6 s ⟨#[10]⟩ (a+1) false HP.o _) ⟨_,rfl⟩))
   clear hw bx cb fw;go_wp2_with (go_at_call 63;refine (O1d _ (a+1) (by omega) _).mono ?_;rintro e w1 ⟨rfl,g1⟩;obtain⟨ah,ar,ay⟩:=g1.use);exact U1 (v := .tuple #[(0:Int),fv 3 (a+1)]) (by simp[results,results65,go_sem,ah]) rfl ⟨rfl,Gr.auto⟩
  simp only[U11,U1d,U1j];have HP:=U0 hp;clear hp;have hw:=Uk ((a:Int)+1) (by omega);refine Z126 ?_;intro bx cb fw;go_enter func65,ntmps65;go_wp2_with fail
  go_quiet (fail)
  go_wp2_with fail
  go_quiet (fail)
  go_wp2_with fail
  go_quiet ((go_at_call 56;exact O32 (O6 s ⟨#[10]⟩ (a+1) true HP.o _) ⟨_,rfl⟩))
  clear hw bx cb fw;go_wp2_with fail;exact U1 (v := .tuple #[(2:Int),f0]) (by simp[results,results65,go_sem]) rfl ⟨rfl,Gr.auto⟩
 obtain⟨b1,b2⟩:=V1o _ 10 _ bD;clear bD;simp only[U1j];go_enter func65,ntmps65;go_wp2_with fail
 go_quiet (fail)
 go_wp2_with fail;exact U1 (v := .tuple #[(1:Int),f0]) (by simp[results,results65,go_sem]) rfl ⟨rfl,Gr.auto⟩
theorem Oe3:(prog.info? 9).map (λ i=>(i.zero,i.size,i.bytes))=some (some (.string ⟨#[]⟩),1,16):=by kernel_rfl
theorem Ob6:(prog.info? 38).map (λ i=>(i.zero,i.size,i.bytes))=some (some (.agg #[(0:Int),(0:Int)]),2,16):=by kernel_rfl
theorem O6c:(prog.info? 3).map (λ i=>(i.zero,i.size,i.bytes))=some (some (.int .i64 0),1,8):=by kernel_rfl
def Vcf(g i T0:Nat)(r:Vw)(a b:Nat)(w':World):Prop :=
 w'.cell? ⟨g,i*7+2,none⟩=some r.kv/\w'.cell? ⟨g,i*7+3,none⟩=some r.sv/\w'.cell? ⟨g,i*7+4,none⟩=some r.uv/\w'.cell? ⟨T0,0,none⟩=some (.int .i64 a)/\w'.cell? ⟨T0,1,none⟩=some (.int .i64 b)
def V9e(w:World)(own:Nat->Nat)(g i:Nat)(r:Vw):Prop :=
 g<w.heap.size/\own g=3/\w.cell? ⟨g,i*7+2,none⟩=some r.kv/\w.cell? ⟨g,i*7+3,none⟩=some r.sv/\w.cell? ⟨g,i*7+4,none⟩=some r.uv/\(∀o,w.frozen? ⟨g,o,none⟩=false)
section
variable {w V:World}{base g i T0:Nat}{own:Nat->Nat}{r:Vw}{a b:Nat}{kv sv uv:Value}{nk ns nu:Nat}{xk xs xu:List Value}
theorem O48(H:V1x w V base (FI own i) kv sv uv nk ns nu xk xs xu)(hc:V9e w own g i r) :
    V.cell? ⟨g,i*7+2,none⟩=some r.kv/\V.cell? ⟨g,i*7+3,none⟩=some r.sv/\V.cell? ⟨g,i*7+4,none⟩=some r.uv/\(∀o,V.frozen? ⟨g,o,none⟩=false):=by
 obtain⟨h1,h2,h3,h4,h5,h6⟩:=hc;have hu:=H.st.use g h1 (λ e=>by unfold FI at e;omega);exact⟨(hu.1 _).trans h3,(hu.1 _).trans h4,(hu.1 _).trans h5,λ o=>(hu.2 o).trans (h6 o)⟩
theorem O17(H:V1x w V base (FI own i) kv sv uv nk ns nu xk xs xu)(N:V3b V T0 #[a,b] 38 kv sv uv)(hc:V9e w own g i r):Vcf g i T0 r a b V:=by
 obtain⟨h1,h2,h3,_⟩:=O48 H hc;exact⟨h1,h2,h3,by rw[cell_of_block N.blk];rfl,by rw[cell_of_block N.blk];rfl⟩
end
theorem Oor(s:ByteArray):(⟨(bs s).toArray⟩:ByteArray)=s:=by cases s;simp[bs]
theorem Oli(s:ByteArray):V3a (bs s) = .string s:=by show Value.string _=_;rw[Oor]
theorem Ogi(w:World)(R B base:Nat)(s:ByteArray)(root:Int)(nv:Value)(L:List Vw)(own:Nat->Nat)(h:RdV w R B base s root nv L own)(hL:L.length<=30000000)
    (i:Nat)(r:Vw)(hr:L[i]?=some r)(h8:r.nd.kind=8)(jM:r.nd.keys.length<=30000000)(jO:r.nd.spots.length<=30000000)(sD:r.nd.subs.length<=30000000)(key:ByteArray)(a b n:Nat) :
    Calls prog 103 #[.pointer (some ⟨R,0,none⟩),i,.string key,.agg #[a,b],n] w λ e w' =>
     e = .returned (.tuple #[])/\O8v w w' R B base s root nv L own i (Vy r.nd (bs key) (a,b) n):=by
 have hi:i<L.length:=(U7.1 hr).1;obtain⟨g,cap,cur,rfl,lW,aY,dM,nR,sB,ld,iY,DY,eL,lX⟩:=h.form (by omega);obtain⟨c0,c1,c2,c3,fz⟩:=h.cells;obtain⟨n0,n1,n2,n3,n4,n5,n6,nf⟩:=h.ndCells rfl i r hr;have HC:Hid (V9e w own g i r):=⟨aY,dM,n2,n3,n4,nf⟩
 have hR:=h.R_lt;have bM:base<=w.heap.size:=by omega
 have mN:Hid (∀V kv sv uv,V1x w V base (FI own i) kv sv uv (r.nd.keys.length+1) (r.nd.spots.length+1) (r.nd.subs.length+1) (Oh r.nd.keys++[.string key]) (Oc r.nd.spots++[.int .i64 a,.int .i64 b]) (O7 r.nd.subs++[.int .i64 n]) ->
     O8v w (((V.setCell ⟨g,i*7+2,none⟩ kv).setCell ⟨g,i*7+3,none⟩ sv).setCell ⟨g,i*7+4,none⟩ uv) R B base s root (.slice (some ⟨g,0,none⟩) L.length cap) L own i (Vy r.nd (bs key) (a,b) n)):=by
  intro V kv sv uv H;refine h.putDone i r hr (Vy r.nd (bs key) (a,b) n) rfl rfl rfl rfl ?_;exact J13
 refine Z101 ?_;intro bv iK k1 k2 k3 k4 iS s1 s2 s3 s4 iU u1 u2 u3 u4 fG eh fS mF ei;clear h8 k1 k2 k3 k4 s1 s2 s3 s4 u1 u2 u3 u4 fz h ld iY lX hr n0 n1 n2 n3 n4 n5 n6 nf;go_enter func103,ntmps103;exact J191
