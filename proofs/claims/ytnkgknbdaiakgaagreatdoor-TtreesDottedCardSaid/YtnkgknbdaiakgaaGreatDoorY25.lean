/- The proof's part 25. -/
import Derived.Test.YtnkgknbdaiakgaaGreatDoorY17
import Derived.Test.YtnkgknbdaiakgaaGreatDoorY23
set_option maxHeartbeats 16000000
set_option linter.all false
set_option maxRecDepth 100000
namespace Go.Proofs.YtnkgknbdaiakgaaGreatDoor
open Pl Go.Proofs.Tryz Go.RowKit Go.Joins
def Obi(long:Bool)(q:UInt8):TypeId:=if long then (if q.toNat==39 then 171 else 172) else (if q.toNat==39 then 169 else 170)
theorem O6r(s:ByteArray)(i:Int)(n:Nat)(hi:i=n)(hn:n<s.size)(hs:s.size<=20000000)(long:Bool)(hl:V3u (bs s) n=long)(w:World):Calls prog 64 #[.string s,i] w λ e w'=>e=.returned (.tuple #[.pointer (some ⟨w,0,none⟩),.iface (Obi long s[n]) (.agg #[.pointer (some ⟨w,0,none⟩)])]) /\RdQ w' w.heap.size s (n+if long then 3 else 1) s[n] [] (.slice none 0 0)/\Gr w w':=by
 subst hi;have HL:=U10 hl;clear hl;refine Z229 ?_;intro bx cd;unfold Obi;cases long
 ·cases nh:(s[n].toNat==39)
  all_goals
   obtain⟨b1,b2⟩:=V1q _ 39 _ nh;clear nh;go_enter func64,ntmps64;go_wp2_with (go_at_call 38;refine (O2k s _ n rfl Ya hs _).mono ?_;rw[HL.o];rintro e w1 ⟨rfl,rfl⟩)
   go_ret2
   refine⟨rfl,⟨?_,World.ownsRow_nil _ _ _ _⟩,Gr.auto⟩
   simpa using U1z w (.cells #[.string s,.int .i64 (n+1:Nat),O4 s[n],.slice none 0 0] 136)
 cases nh:(s[n].toNat==39)
 all_goals
  obtain⟨b1,b2⟩:=V1q _ 39 _ nh;clear nh;go_enter func64,ntmps64;go_wp2_with (go_at_call 38;refine (O2k s _ n rfl Ya hs _).mono ?_;rw[HL.o];rintro e w1 ⟨rfl,rfl⟩)
  go_ret2
  refine⟨rfl,⟨?_,World.ownsRow_nil _ _ _ _⟩,Gr.auto⟩
  simpa using U1z w (.cells #[.string s,.int .i64 (n+3:Nat),O4 s[n],.slice none 0 0] 136)
namespace Pl
def V1b(T:Nat->UInt8×UInt8)(long:Bool)(q:UInt8)(l:List UInt8):Option SR :=
 if long then (if q.toNat==39 then some (V33 q l) else some (V3e T q l)) else (if q.toNat==39 then some (V56 q l) else V3q T q l)
def V2p(step:List UInt8->Option SR)(l:Bs):Nat->Nat->Bs->Va (Bs×Nat)
 |0,_,_ => .non
 |f+1,n,out =>
  match l.drop n with
  |[] => .bad 3 l.length
  |c::r =>
   match step (c::r) with
   |none => .non
   |some (.bad p) => .bad 3 (n+p)
   |some (.go m t over)=>if over then .ok (out++t,n+m) else V2p step l f (n+m) (out++t)
def Vu(T:Nat->UInt8×UInt8)(l:Bs):Va (Bs×Nat) :=
 match l with
 |[] => .bad 3 0
 |c::r =>
  if (c.toNat==34 || c.toNat==39)=true then
   if long (c::r) then
    match feed ((c::r).drop 3) with
    |.bad k p => .bad k (3+p)
    |.ok m=>V2p (V1b T true c) (c::r) ((c::r).length+2) (3+m) []
   else V2p (V1b T false c) (c::r) ((c::r).length+2) 1 []
  else .bad 3 0
theorem O3h(l:List UInt8)(m:Nat)(t:List UInt8)(o:Bool)(h:V32 l=.go m t o):t.length<=m/\1<=m/\m<=l.length:=by
 cases l with
 |nil=>simp[V32]at h
 |cons c r =>
  unfold V32 at h;by_cases hp:V2r c=true;simp only[hp,U2i,SR.go.injEq]at h;obtain⟨rfl,rfl,rfl⟩:=h;simp
  simp only[hp,U2c]at h;cases h
theorem Ohs(q:UInt8)(c:UInt8)(r:List UInt8)(hc:(c.toNat==q.toNat)=true)(m:Nat)(t:List UInt8)(o:Bool)(h:V3z q (c::r)=.go m t o):t.length<=m/\1<=m/\m<=(c::r).length:=by
 have h1:=Oho q (c::r);have h2:1<=run q (c::r):=by unfold run;rw[U1o,U18 hc];simp
 unfold V3z at h;dsimp only at h;have h3:O2q q (c::r)<=run q (c::r)/\1<=O2q q (c::r):=by unfold O2q;omega
 split at h;cases h;simp at h1⊢;omega
 cases h;simp at h1⊢;omega
theorem Oe0(q:UInt8)(l:List UInt8)(m:Nat)(t:List UInt8)(o:Bool)(h:V56 q l=.go m t o):t.length<=m/\1<=m/\m<=l.length:=by
 cases l with
 |nil=>simp[V56]at h
 |cons c r =>
  unfold V56 at h;dsimp only at h
  split at h;cases h;simp
  exact O3h _ _ _ _ h
theorem Oe1(T)(q:UInt8)(l:List UInt8)(m:Nat)(t:List UInt8)(o:Bool)(h:V3q T q l=some (.go m t o)):t.length<=m/\1<=m/\m<=l.length:=by
 cases l with
 |nil=>simp[V3q]at h
 |cons c r =>
  unfold V3q at h;dsimp only at h
  split at h;cases h;simp
  split at h;simp only[U1f]at h;exact O37 _ _ _ _ _ h
  simp only[U1f]at h;exact O3h _ _ _ _ h
theorem O43(q:UInt8)(l:List UInt8)(m:Nat)(t:List UInt8)(o:Bool)(h:V33 q l=.go m t o):t.length<=m/\1<=m/\m<=l.length:=by
 unfold V33 at h
 split at h
 rename_i x hx
 subst h;cases l with
 |nil=>simp[V1m]at hx
 |cons c r =>
  unfold V1m at hx;dsimp only at hx
  split at hx;rename_i hc;simp only[U1f]at hx;exact Ohs q c r hc m t o hx
  split at hx;cases hx
  rename_i n hf
  have:=V47 _ _ hf;cases hx;refine⟨by rw[U2d];omega,Ya,this⟩
  cases hx
 exact O3h _ _ _ _ h
theorem O8g(T)(q:UInt8)(l:List UInt8)(m:Nat)(t:List UInt8)(o:Bool)(h:V3e T q l=.go m t o):t.length<=m/\1<=m/\m<=l.length:=by
 unfold V3e at h
 split at h
 rename_i x hx
 subst h;exact O43 q l m t o (by unfold V33;rw[hx])
 split at h;cases h
 rename_i c r _
 split at h
 split at h;exact O37 _ _ _ _ _ h
 split at h;obtain⟨h1,h2,h3,_⟩:=V5c _ _ _ _ Yb h;exact⟨h1,h2,h3⟩
 exact O37 _ _ _ _ _ h
 exact O3h _ _ _ _ h
theorem V46(T)(long:Bool)(q:UInt8)(l:List UInt8)(m:Nat)(t:List UInt8)(o:Bool)(h:V1b T long q l=some (.go m t o)):t.length<=m/\1<=m/\m<=l.length:=by
 unfold V1b at h
 split at h
 split at h;simp only[U1f]at h;exact O43 _ _ _ _ _ h
 simp only[U1f]at h;exact O8g _ _ _ _ _ _ h
 split at h;simp only[U1f]at h;exact Oe0 _ _ _ _ _ h
 exact Oe1 _ _ _ _ _ _ h
end Pl
def O5d(long:Bool)(q:UInt8):FuncId:=if long then (if q.toNat==39 then 248 else 251) else (if q.toNat==39 then 239 else 242)
theorem O6s(long:Bool)(q:UInt8)(w:World)(R:Nat)(s:ByteArray)(a:Nat)(out:List UInt8)(ov:Value)(h:RdQ w R s a q out ov)(aa:a<s.size)(hs:s.size<=20000000)(ho:out.length<=a)(T:Nat->UInt8×UInt8)(hQ:QW T w)(sr:Pl.SR)(cK:V1b T long q ((bs s).drop a)=some sr):Calls prog (O5d long q) #[.agg #[.pointer (some ⟨R,0,none⟩)]] w (O19 R s a q out ov w sr):=by
 unfold V1b at cK;unfold O5d
 split at cK
 rename_i hl
 split at cK
 rename_i hq
 simp only[U1f]at cK;rw[U18 hl,U18 hq,<-cK];exact O5w w R s a q out ov h aa hs ho
 rename_i hq
 simp only[U1f]at cK;rw[U18 hl,U1b hq,<-cK];exact O76 w R s a q out ov h aa hs ho T hQ
 rename_i hl
 split at cK
 rename_i hq
 simp only[U1f]at cK;rw[U1b hl,U18 hq,<-cK];exact O8d w R s a q out ov h aa hs ho
 rename_i hq
 rw[U1b hl,U1b hq];exact Ob2 w R s a q out ov h aa hs ho T hQ sr cK
def Vab(R:Nat)(w:World):Nat:=match w.cell? ⟨R,1,none⟩ with
 |some (.int _ n)=>n.toNat
 |_=>0
theorem O9f{w R s a q out ov}(h:RdQ w R s a q out ov):Vab R w=a:=by
 unfold Vab;rw[h.cells.2.1];simp
def O7o(s:ByteArray)(n:Nat)(w:World)(x:Va (Pl.Bs×Nat))(e:Ending)(w':World):Prop :=
 match x with
 |.non=>True
 |.ok (t,m)=>e=.returned (.tuple #[V3h t,.int .i64 (n+m:Nat),f0])/\n+m<=s.size/\1<=m/\Gr w w'
 |.bad c p=>e=.returned (.tuple #[.string ⟨#[]⟩,(0:Int),fv c (n+p)])/\c≠0/\Gr w w'
theorem Oeh(long:Bool)(q:UInt8)(a:Addr)(w:World):(method 433 (Obi long q) (.agg #[.pointer (some a)]) "inarch/tquotes.step").run prog w=.ok (O5d long q,.agg #[.pointer (some a)]) w:=by
 unfold Obi O5d;cases long <;> cases (q.toNat==39) <;> kernel_rfl
theorem Oei(long:Bool)(q:UInt8):∀args w,(callFunc (O5d long q) args).run prog w=.ok (.enter (O5d long q) args) w:=by
 unfold O5d;cases long <;> cases (q.toNat==39);exact enters_of func242 Yc rfl;exact enters_of func239 Yc rfl;exact enters_of func251 Yc rfl
 exact enters_of func248 Yc rfl
theorem O8s(s:ByteArray)(i:Int)(n:Nat)(hi:i=n)(hn:n<=s.size)(hs:s.size<=20000000)(h:∀h:n<s.size,(s[n].toNat==34 || s[n].toNat==39)=false)(w:World):Calls prog 40 #[.string s,i] w λ e w'=>e=.returned (.tuple #[.string ⟨#[]⟩,(0:Int),fv 3 n])/\Gr w w':=by
 subst hi;have kB:decide ((n:Int)<0)=false:=Yb
 have dZ:decide ((s.size:Int)<(n:Int))=false:=Ye
 by_cases aa:n<s.size
 have h2:=h aa;rw[Bool.or_eq_false_iff]at h2;have c1:((s[n].toNat:Int) != 34)=true:=(V1q _ 34 _ h2.1).2;have c2:((s[n].toNat:Int) != 39)=true:=(V1q _ 39 _ h2.2).2;have he:((n:Int)==(s.size:Int))=false:=Ye;clear h h2;refine Z229 ?_;intro bx cd;exact J138
 have he:((n:Int)==(s.size:Int))=true:=Ye;clear h;exact J138
theorem Ol8{w:World}{base:Nat}{ov:Value}{out:List UInt8}(h:w.ownsRow base 5 1 ov out.length (out.map O4)):(convert 22 9 ov).run prog w=.ok (V3h out) w:=by
 refine Z114 ?_;intro e0;rcases h.2 with⟨rfl,hn⟩|⟨g,cap,cur,rfl,cn,xt,h1,h2,h3,h4⟩
 rw[run_convert_bytes_nil w 22 5 underlying22 underlying5 0 0 9 underlying9];obtain rfl:out=[]:=U2p hn;rfl
 rw[run_convert_bytes_arg w 22 5 underlying22 underlying5 g 0 out.length cap (out.map λ x=>(x.toNat:Int)) Yb (λ i hi=>?_) 9 underlying9,e0];have:=h.cells (g:=g) rfl i (O4 (out[i])) (by simp[hi]);rw[U4g]at this;rw[this];simp[List.getD,hi]
namespace Pl
theorem V8h(step:List UInt8->Option SR)(l:Bs)(f n:Nat)(out:Bs)(X:Va (Bs×Nat))(h:V2p step l (f+1) n out=X)(a8:X≠.non)(hn:n<l.length) :
    ∃sr,step (l.drop n)=some sr/\match sr with
     |.bad p => .bad 3 (n+p)=X
     |.go m t over=>(if over=true then .ok (out++t,n+m) else V2p step l f (n+m) (out++t))=X:=by
 unfold V2p at h;obtain⟨c,r,A7⟩:∃c r,l.drop n=c::r:=⟨_,_,U1u hn⟩
 rw[A7]at h⊢;dsimp only at h;cases hs:step (c::r) with
 |none=>rw[hs]at h;exact absurd h.symm a8
 |some sr =>
  rw[hs]at h;refine⟨sr,rfl,?_⟩;cases sr with
  |bad p=>exact h
  |go m t over=>exact h
theorem V8x(step:List UInt8->Option SR)(l:Bs)(f n:Nat)(out:Bs)(X:Va (Bs×Nat))(h:V2p step l f n out=X)(a8:X≠.non)(hn:¬n<l.length) : .bad 3 l.length=X:=by
 cases f with
 |zero=>exact absurd h.symm a8
 |succ f =>
  unfold V2p at h;rw[U1w Ya]at h;exact h
end Pl
inductive V6m (s:ByteArray)(n:Nat):Bool->Nat->Prop where
 |short:V6m s n false (n+1)
 |feed (m:Nat):n+3<s.size->Pl.feed ((bs s).drop (n+3))=.ok m->V6m s n true (n+3+m)
 |none:n+3=s.size->V6m s n true (n+3)
theorem O5j(T:Nat->UInt8×UInt8)(s:ByteArray)(i:Int)(n:Nat)(hi:i=n)(hn:n<s.size)(hs:s.size<=20000000)(hq:(s[n].toNat==34 || s[n].toNat==39)=true)(long:Bool)(hl:V3u (bs s) n=long)(a0:Nat)(hf:V6m s n long a0)(Uo:a0<=s.size)(f:Nat)(X:Va (Pl.Bs×Nat))(hX:V2p (V1b T long s[n]) ((bs s).drop n) f (a0-n) []=X)(a8:X≠.non)(w:World)(hQ:QW T w):Calls prog 40 #[.string s,i] w (O7o s n w X):=by
 subst hi;have kB:decide ((n:Int)<0)=false:=Yb
 have dZ:decide ((s.size:Int)<(n:Int))=false:=Ye;have he:((n:Int)==(s.size:Int))=false:=Ye;refine Z229 ?_;intro bx cd;have HX:=U10 hX;have rI:=U10 hQ;clear hQ;have HL:=U10 hl;obtain⟨q,oH⟩:=ExZ (s[n])
 have HQ:=U10 oH;rw[oH]at hq;have sN:=U10 hq;clear hX hl oH hq;rw[HQ.o]at HX;have Qd:=Oeh long q ⟨w+1,0,none⟩;have tL:=Oei long q;refine Z159 ?_;intro jJ;have ES:n+3<s.size->decide ((n:Int)+3<(s.size:Int))=true:=λ h=>by simp;omega
 rcases jJ with⟨c1,c2⟩|c1
 all_goals
  cases hf with
  |short =>
   clear ES;go_enter func40,ntmps40;go_wp2_with (first|(go_at_call 38;refine (O2k s _ n rfl Ya hs _).mono ?_;rw[HL.o];rintro e w1 ⟨rfl,rfl⟩)|(go_at_call 64;refine (O6r s _ n rfl hn hs _ HL.o _).mono ?_;rw[HQ.o];rintro e w1 ⟨rfl,aS,g1⟩;simp only[U1s,U1v,U2c,U2i]at aS;obtain⟨d0,d1,d2,d3,dz⟩:=aS.cells;have aN:=U10 aS;clear aS;obtain⟨ah,ap,ax⟩:=g1.use;simp at ax));have aL:=aN.o.lt
   go_loopw [12] (λ _ wr=>∃(k a:Nat)(out:List UInt8)(ov:Value),RdQ wr (w.heap.size+1) s a q out ov/\V2p (V1b T false q) ((bs s).drop n) k (a-n) out=X/\n<a/\a<=s.size/\out.length<=a/\Gr w wr/\w.heap.size+2<=wr.heap.size /\
       wr.cell? w=some (.int .i64 0)/\wr.cell? ⟨w,1,none⟩=some (.int .i64 0)/\wr.frozen? w=false/\wr.frozen? ⟨w,1,none⟩=false) (λ _ wr=>s.size-Vab (w.heap.size+1) wr)
   case atStart =>
    refine⟨f,n+1,[],_,aN.o,HX.o,Ya,Ya,Yb,Gr.auto,Ya,(ah _ _ Yb).trans Yb,(ah _ _ Yb).trans Yb,(ap _ _ Yb).trans Yg,(ap _ _ Yb).trans Yg⟩
   case round =>
    obtain⟨k,a,out,ov,hr,hx,LM,Pi,Bi,hg,hz,m0,m1,m2,m3⟩:=hrel;obtain⟨e0,e1,e2,e3,ez⟩:=hr.cells;have eQ:=O9f hr;have HP:=U10 eQ;have HR:=U10 hr;have dU:=U10 hx;clear hr hx d0 d1 d2 d3 dz e3 eQ;by_cases aa:a<s.size
    ·obtain⟨k,rfl⟩:∃k',k=k'+1:=by
      cases k with
      |zero=>exact absurd dU.o.symm a8
      |succ k=>exact⟨k,rfl⟩
     refine Z233 ?_;intro sr sS kA;go_wp2_with fail;cases sr with
     |bad p =>
      refine (O6s false q _ _ s a out ov HR.o aa hs Bi T (rI.o.gr hg) _ sS.o).mono ?_;exact J116
     |go m t over =>
      have jL:=V46 _ _ _ _ _ _ _ sS.o;rw[U15,O0]at jL;refine (O6s false q _ _ s a out ov HR.o aa hs Bi T (rI.o.gr hg) _ sS.o).mono ?_;exact J103
    exact J61
  |feed ET h1 h2 =>
   have rP:=ES h1;have I0:=U10 h2;clear ES h2;go_enter func40,ntmps40;go_wp2_with (first|(go_at_call 38;refine (O2k s _ n rfl Ya hs _).mono ?_;rw[HL.o];rintro e w1 ⟨rfl,rfl⟩)|(go_at_call 64;refine (O6r s _ n rfl hn hs _ HL.o _).mono ?_;rw[HQ.o];rintro e w1 ⟨rfl,aS,g1⟩;simp only[U1s,U1v,U2c,U2i]at aS;obtain⟨d0,d1,d2,d3,dz⟩:=aS.cells;have aN:=U10 aS;clear aS;obtain⟨ah,ap,ax⟩:=g1.use;simp at ax)|(go_at_call 65;refine (O6q _ _ s (n+3) q [] _ aN.o h1 hs).mono ?_;rw[I0.o];rintro e w4 ⟨rfl,g4⟩;have oo:=aN.o.gr g4;clear d0 d1 d2 d3 dz;obtain⟨d0,d1,d2,d3,dz⟩:=oo.cells;have cG:=U10 oo;have Qe:=oo.lt;clear oo;obtain⟨mY,o9,mZ⟩:=g4.use));have aL:=cG.o.lt
   go_loopw [12] (λ _ wr=>∃(k a:Nat)(out:List UInt8)(ov:Value),RdQ wr (w.heap.size+1) s a q out ov/\V2p (V1b T true q) ((bs s).drop n) k (a-n) out=X/\n<a/\a<=s.size/\out.length<=a/\Gr w wr/\w.heap.size+2<=wr.heap.size /\
       wr.cell? w=some (.int .i64 0)/\wr.cell? ⟨w,1,none⟩=some (.int .i64 0)/\wr.frozen? w=false/\wr.frozen? ⟨w,1,none⟩=false) (λ _ wr=>s.size-Vab (w.heap.size+1) wr)
   case atStart =>
    rw[show ((n:Int)+3+(ET:Int))=((n+3+ET:Nat):Int) from by omega];have Ma:Gr w w4:=(((Gr.refl w).alloc _).trans g1).trans g4;have q0:w4.cell? w=some (.int .i64 0):=(mY _ _ Ya).trans ((ah _ _ Yb).trans Yb);have q1:w4.cell? ⟨w,1,none⟩=some (.int .i64 0):=(mY _ _ Ya).trans ((ah _ _ Yb).trans Yb);have q2:w4.frozen? w=false:=(o9 _ _ Ya).trans ((ap _ _ Yb).trans Yg);have q3:w4.frozen? ⟨w,1,none⟩=false:=(o9 _ _ Ya).trans ((ap _ _ Yb).trans Yg);have sI:w.heap.size<w4.heap.size:=Ya
    refine⟨f,n+3+ET,[],.slice none 0 0,(cG.o.setAt (n+3+ET)).alloc _,HX.o,Ya,Ya,Yb,(Ma.setCell Yb _).alloc _,by simp[World.setCell];omega,?_,?_,?_,?_⟩
    all_goals (simp[go_sem,sI];try assumption)
   case round =>
    exact J62
  |none h1 =>
   have rP:decide ((n:Int)+3<(s.size:Int))=false:=Ye;clear ES;go_enter func40,ntmps40;go_wp2_with (first|(go_at_call 38;refine (O2k s _ n rfl Ya hs _).mono ?_;rw[HL.o];rintro e w1 ⟨rfl,rfl⟩)|(go_at_call 64;refine (O6r s _ n rfl hn hs _ HL.o _).mono ?_;rw[HQ.o];rintro e w1 ⟨rfl,aS,g1⟩;simp only[U1s,U1v,U2c,U2i]at aS;obtain⟨d0,d1,d2,d3,dz⟩:=aS.cells;have aN:=U10 aS;clear aS;obtain⟨ah,ap,ax⟩:=g1.use;simp at ax));have aL:=aN.o.lt
   go_loopw [12] (λ _ wr=>∃(k a:Nat)(out:List UInt8)(ov:Value),RdQ wr (w.heap.size+1) s a q out ov/\V2p (V1b T true q) ((bs s).drop n) k (a-n) out=X/\n<a/\a<=s.size/\out.length<=a/\Gr w wr/\w.heap.size+2<=wr.heap.size /\
       wr.cell? w=some (.int .i64 0)/\wr.cell? ⟨w,1,none⟩=some (.int .i64 0)/\wr.frozen? w=false/\wr.frozen? ⟨w,1,none⟩=false) (λ _ wr=>s.size-Vab (w.heap.size+1) wr)
   case atStart =>
    refine⟨f,n+3,[],_,aN.o,HX.o,Ya,Ya,Yb,Gr.auto,Ya,(ah _ _ Yb).trans Yb,(ah _ _ Yb).trans Yb,(ap _ _ Yb).trans Yg,(ap _ _ Yb).trans Yg⟩
   case round =>
    exact J62
theorem Ocw(s:ByteArray)(i:Int)(n:Nat)(hi:i=n)(hn:n<s.size)(hs:s.size<=20000000)(hq:(s[n].toNat==34 || s[n].toNat==39)=true)(hl:V3u (bs s) n=true)(h3:n+3<s.size)(c p:Nat)(hf:Pl.feed ((bs s).drop (n+3))=.bad c p)(w:World):Calls prog 40 #[.string s,i] w (O7o s n w (.bad c (3+p))):=by
 subst hi;obtain⟨rfl,rfl⟩:=V4m _ _ _ hf;have kB:decide ((n:Int)<0)=false:=Yb
 have dZ:decide ((s.size:Int)<(n:Int))=false:=Ye;have he:((n:Int)==(s.size:Int))=false:=Ye;refine Z229 ?_;intro bx cd;have HL:=U10 hl;have I0:=U10 hf;obtain⟨q,oH⟩:=ExZ (s[n])
 have HQ:=U10 oH;rw[oH]at hq;have sN:=U10 hq;clear hl oH hq hf;refine Z159 ?_;intro jJ;have rP:decide ((n:Int)+3<(s.size:Int))=true:=Ye
 rcases jJ with⟨c1,c2⟩|c1
 all_goals
  go_enter func40,ntmps40;go_wp2_with (first|(go_at_call 38;refine (O2k s _ n rfl Ya hs _).mono ?_;rw[HL.o];rintro e w1 ⟨rfl,rfl⟩)|(go_at_call 64;refine (O6r s _ n rfl hn hs _ HL.o _).mono ?_;rw[HQ.o];rintro e w1 ⟨rfl,aS,g1⟩;simp only[U1s,U1v,U2c,U2i]at aS;obtain⟨d0,d1,d2,d3,dz⟩:=aS.cells;have aN:=U10 aS;clear aS;obtain⟨ah,ap,ax⟩:=g1.use;simp at ax));refine (O6q _ _ s (n+3) q [] _ aN.o h3 hs).mono ?_;rw[I0.o];rintro e w4 ⟨rfl,g4⟩;clear d0 d1 d2 d3 dz;have aL:=aN.o.lt;obtain⟨mY,o9,mZ⟩:=g4.use;have q0:w4.cell? w=some (.int .i64 0):=(mY _ _ Ya).trans ((ah _ _ Yb).trans Yb);have q1:w4.cell? ⟨w,1,none⟩=some (.int .i64 0):=(mY _ _ Ya).trans ((ah _ _ Yb).trans Yb);have q2:w4.frozen? w=false:=(o9 _ _ Ya).trans ((ap _ _ Yb).trans Yg);have q3:w4.frozen? ⟨w,1,none⟩=false:=(o9 _ _ Ya).trans ((ap _ _ Yb).trans Yg);have sI:w.heap.size<w4.heap.size:=Ya
  have Ma:Gr w w4:=(((Gr.refl w).alloc _).trans g1).trans g4;clear ah ap mY o9;go_wp2_with fail
  go_region
  all_goals go_wp2_with fail
  all_goals
   refine U11 (v:=.tuple #[.string ⟨#[]⟩,(0:Int),fv 3 (n+3+1)]) (by simp[results,results40,go_sem,q0,q1,q2,q3,sI]) rfl ⟨rfl,Ya,Gr.auto⟩
theorem O6z(T:Nat->UInt8×UInt8)(s:ByteArray)(i:Int)(n:Nat)(hi:i=n)(hn:n<=s.size)(hs:s.size<=20000000)(X:Va (Pl.Bs×Nat))(hX:Vu T ((bs s).drop n)=X)(a8:X≠.non)(w:World)(hQ:QW T w):Calls prog 40 #[.string s,i] w (O7o s n w X):=by
 by_cases aa:n<s.size
 rw[O9 s n aa]at hX;unfold Vu at hX;dsimp only at hX;cases hq:(s[n].toNat==34 || s[n].toNat==39)
 rw[hq]at hX;simp only[U1v,U2c]at hX;subst hX;exact (O8s s i n hi hn hs (λ _=>hq) w).mono λ e w' ⟨h1,h2⟩=>⟨h1,Ya,h2⟩
 rw[hq]at hX;simp only[U2i]at hX;rw[<-O9 s n aa]at hX;cases hl:V3u (bs s) n
 have pn:Pl.long ((bs s).drop n)=false:=hl;rw[pn]at hX;simp only[U1v,U2c]at hX;exact O5j T s i n hi aa hs hq false hl (n+1) .short Ya _ X (by rw[show n+1-n=1 from by omega];exact hX) a8 w hQ
 have pn:Pl.long ((bs s).drop n)=true:=hl;rw[pn]at hX;simp only[U2i]at hX;have h3:n+3<=s.size:=by
  exact J166
 rw[U27]at hX;by_cases h4:n+3<s.size
 cases hf:Pl.feed ((bs s).drop (n+3)) with
 |bad c p =>
  rw[hf]at hX;simp only at hX;subst hX;exact Ocw s i n hi aa hs hq hl h4 c p hf w
 |ok m =>
  rw[hf]at hX;simp only at hX;have hm:=V47 _ _ hf;rw[U15,O0]at hm;exact O5j T s i n hi aa hs hq true hl (n+3+m) (.feed m h4 hf) Ya _ X (by rw[show n+3+m-n=3+m from by omega];exact hX) a8 w hQ
 have hf:Pl.feed ((bs s).drop (n+3))=.ok 0:=by rw[U1w (by rw[O0];omega)];rfl
 rw[hf]at hX;simp only at hX;exact O5j T s i n hi aa hs hq true hl (n+3) (.none Ya) Ya _ X (by rw[show n+3-n=3+0 from by omega];exact hX) a8 w hQ
 have e:(bs s).drop n=[]:=U1w (by rw[O0];omega);rw[e]at hX;unfold Vu at hX;subst hX;exact (O8s s i n hi hn hs (λ h=>absurd h aa) w).mono λ e w' ⟨h1,h2⟩=>⟨h1,Ya,h2⟩
theorem O70(c:UInt8)(w:World):Calls prog 39 #[.int .u8 c.toNat] w λ e w'=>e=.returned (.bool (Vq c))/\w=w':=by
 exact J170
theorem Ocx(l:List UInt8)(a k:Nat)(h:a+k<l.length)(hk:k<=V11 (l.drop a))(hb:Vq (l[a+k]'h)=true):k+1<=V11 (l.drop a):=by
 induction k generalizing a with
 |zero =>
  have:l.drop a=l[a]' Ya::l.drop (a+1):=U1u Ya;have iP:Vq l[a]=true:=hb;rw[this];unfold V11;rw[U1o,U18 iP];simp
 |succ k ih =>
  have e:l.drop a=l[a]' Ya::l.drop (a+1):=U1u Ya;rw[e]at hk⊢;unfold V11 at hk⊢;rw[U1o]at hk⊢
  split at hk
  rename_i h1
  rw[U18 h1];have:=ih (a+1) Ya (by unfold V11;simp at hk;omega) (by simpa [show a+1+k=a+(k+1) from by omega]using hb);unfold V11 at this;simp;omega
  simp at hk
theorem Ocy(l:List UInt8)(a k:Nat)(hk:k<=V11 (l.drop a))(hb:∀h:a+k<l.length,Vq (l[a+k]'h)=false):V11 (l.drop a)=k:=by
 induction k generalizing a with
 |zero =>
  by_cases h:a<l.length;have:l.drop a=l[a]'h::l.drop (a+1):=U1u h;have iP:Vq l[a]=false:=hb h;rw[this];unfold V11;rw[U1o,U1b (by rw[iP];simp)];rfl
  rw[U1w Ya];rfl
 |succ k ih =>
  by_cases h:a<l.length
  have e:l.drop a=l[a]'h::l.drop (a+1):=U1u h;rw[e]at hk⊢;unfold V11 at hk⊢;rw[U1o]at hk⊢
  split at hk
  rename_i h1
  rw[U18 h1];have:=ih (a+1) (by unfold V11;simp at hk;omega) (λ h=>by have:=hb Ya;simpa [show a+1+k=a+(k+1) from by omega]using this);unfold V11 at this;simp;omega
  simp at hk
  rw[U1w Ya]at hk;simp[V11]at hk
def Ol9(s:ByteArray)(w:World)(x:Va (Pl.Bs×Nat))(e:Ending)(w':World):Prop :=
 match x with
 |.non=>True
 |.ok (t,m)=>e=.returned (.tuple #[V3h t,m,f0])/\m<=s.size/\Gr w w'
 |.bad c p=>(∃m:Nat,e=.returned (.tuple #[.string ⟨#[]⟩,m,fv c p]))/\c≠0/\Gr w w'
def O2r(T:Nat->UInt8×UInt8)(E:V19):Prop:=E.str=Vu T
theorem Ocz(s:ByteArray)(n k:Nat):s.extract n (n+k)=⟨(((bs s).drop n).take k).toArray⟩:=by
 apply U31;apply U32.1;rw[U3b,show n+k-n=k from by omega]
theorem Onp(T:Nat->UInt8×UInt8)(E:V19)(hE:O2r T E)(s:ByteArray)(i:Int)(n:Nat)(hi:i=n)(hn:n<=s.size)(hs:s.size<=20000000)(X:Va (Pl.Bs×Nat))(hX:V3x E (bs s) n=X)(a8:X≠.non)(w:World)(hQ:QW T w):Calls prog 19 #[.string s,i] w (Ol9 s w X):=by
 have rI:=U10 hQ;clear hQ;subst hi;unfold V3x at hX;cases hl:V3u (bs s) n
 ·rw[hl]at hX;simp only[U1v,U2c]at hX;have HL:=U10 hl;have HX:=U10 hX;have me:=Vn Vq ((bs s).drop n);rw[U15,O0]at me;clear hl hX;go_enter func19,ntmps19;go_wp2_with (go_at_call 38;refine (O2k s _ n rfl hn hs _).mono ?_;rw[HL.o];rintro e w1 ⟨rfl,rfl⟩)
  go_loopw [5] (λ v wr=>∃k:Nat,v=.int .i64 (n+k:Nat)/\k<=V11 ((bs s).drop n)/\wr=w.alloc (.cells #[(0:Int),(0:Int)] 29)) (λ v _=>s.size-(intOf v).toNat)
  case atStart=>exact⟨0,rfl,Ya,rfl⟩
  case round =>
   obtain⟨k,rfl,hk,rfl⟩:=hrel;have gh:k<=s.size-n:=U1k hk me;by_cases dI:∃aa:n+k<s.size,Vq s[n+k]=true
   ·obtain⟨aa,hb⟩:=dI;have dZ:decide ((n:Int)+(k:Int)<(s.size:Int))=true:=by simp;omega
    have bx:(0:Int)<=(n:Int)+(k:Int):=Ya;have cd:(n:Int)+(k:Int)<(s.size:Int):=Ya;have fw:((n:Int)+(k:Int)).toNat=n+k:=Ya;have Qf:=Ocx (bs s) n k (by rw[O0];exact aa) hk hb;have HB:=U10 hb;clear hb;go_wp2_with (go_at_call 39;refine (O70 _ _).mono ?_;rw[HB.o];rintro e w1 ⟨rfl,rfl⟩)
    go_roundw
    case rel=>exact⟨k+1,by go_num,Qf,U3i⟩
    case measure=>simp[intOf];omega
   have a9:=Ocy (bs s) n k hk (λ h=>by
    cases hb:Vq ((bs s)[n+k]'h) with
    |false=>rfl
    |true=>exact absurd ⟨by rw[<-O0];exact h,hb⟩ dI)
   have fh:(¬n+k<s.size)\/(∃aa:n+k<s.size,Vq s[n+k]=false):=by
    by_cases aa:n+k<s.size
    refine .inr ⟨aa,?_⟩;cases hb:Vq s[n+k] with
    |false=>rfl
    |true=>exact absurd ⟨aa,hb⟩ dI
    exact .inl aa
   have dU:=HX.o;rw[a9]at dU;clear dI a9 hk;by_cases dp:k=0
   ·subst dp;simp only[U2i]at dU;rw[hE]at dU;cases ir:Vu T ((bs s).drop n) with
    |non=>rw[ir]at dU;exact absurd dU.symm a8
    |ok r =>
     obtain⟨t,m⟩:=r;rw[ir]at dU;simp only at dU;have nj:=U10 ir;have bV:=U10 dU;clear ir dU;rcases fh with aa|⟨aa,hb⟩
     ·exfalso;have h9:=nj.o;rw[U1w (by rw[O0];omega)]at h9;cases h9
     all_goals first
      |(have iP:Vq s[n]=false:=hb;have dZ:decide ((n:Int)<(s.size:Int))=true:=by { simp;omega };have HB:=U10 iP;clear hb iP;have bx:(0:Int)<=(n:Int):=by { omega };have cd:(n:Int)<(s.size:Int):=by { omega })
      |(have dZ:decide ((n:Int)<(s.size:Int))=false:=by { simp;omega };skip)
     all_goals
      go_wp2_with (first|(go_at_call 39;refine (O70 _ _).mono ?_;rw[HB.o];rintro e w1 ⟨rfl,rfl⟩)|(go_at_call 40;refine (O6z T s _ n rfl hn hs _ nj.o Yb _ (rI.o.gr Gr.auto)).mono ?_;rintro e w1 ⟨rfl,rR,jw,g1⟩;simp only[f0];obtain⟨ah,ap,ax⟩:=g1.use;simp only[U1s]at ax;have p0:w1.cell? w=some (.int .i64 0):=(ah _ _ Yb).trans Yb;have p1:w1.cell? ⟨w,1,none⟩=some (.int .i64 0):=(ah _ _ Yb).trans Yb;have p2:w1.frozen? w=false:=(ap _ _ Yb).trans Yg;have p3:w1.frozen? ⟨w,1,none⟩=false:=(ap _ _ Yb).trans Yg;have eE:w.heap.size<w1.heap.size:=ax;clear ah ap));refine U11 (v:=.tuple #[V3h t,.int .i64 (n+m:Nat),f0]) (by simp[results,results19,go_sem,p0,p1,p2,p3,eE]) rfl ?_;rw[<-bV.o];exact⟨rfl,rR,Gr.auto⟩
    |bad c p =>
     rw[ir]at dU;simp only at dU;have nj:=U10 ir;have bV:=U10 dU;clear ir dU;rcases fh with aa|⟨aa,hb⟩
     all_goals first
      |(have iP:Vq s[n]=false:=hb;have dZ:decide ((n:Int)<(s.size:Int))=true:=by { simp;omega };have HB:=U10 iP;clear hb iP;have bx:(0:Int)<=(n:Int):=by { omega };have cd:(n:Int)<(s.size:Int):=by { omega })
      |(have dZ:decide ((n:Int)<(s.size:Int))=false:=by { simp;omega };skip)
     all_goals
      go_wp2_with (first|(go_at_call 39;refine (O70 _ _).mono ?_;rw[HB.o];rintro e w1 ⟨rfl,rfl⟩)|(go_at_call 40;refine (O6z T s _ n rfl hn hs _ nj.o Yb _ (rI.o.gr Gr.auto)).mono ?_;rintro e w1 ⟨rfl,rR,g1⟩;obtain⟨ah,ap,ax⟩:=g1.use;simp only[U1s]at ax;have p0:w1.cell? w=some (.int .i64 0):=(ah _ _ Yb).trans Yb;have p1:w1.cell? ⟨w,1,none⟩=some (.int .i64 0):=(ah _ _ Yb).trans Yb;have p2:w1.frozen? w=false:=(ap _ _ Yb).trans Yg;have p3:w1.frozen? ⟨w,1,none⟩=false:=(ap _ _ Yb).trans Yg;have eE:w.heap.size<w1.heap.size:=ax;clear ah ap));refine U11 (v:=.tuple #[.string ⟨#[]⟩,(0:Int),fv c (n+p)]) (by simp[results,results19,go_sem,p0,p1,p2,p3,eE]) rfl ?_;rw[<-bV.o];exact⟨⟨0,rfl⟩,rR,Gr.auto⟩
   rw[U1b dp]at dU;have bV:=U10 dU;clear dU;have PJ:decide ((n:Int)<(n:Int)+(k:Int))=true:=Ye
   have mV:(n:Int)+(k:Int)<=(s.size:Int):=Ya;have bx:(0:Int)<=(n:Int)+(k:Int):=Ya;have fw:((n:Int)+(k:Int)).toNat=n+k:=Ya;have Bx:(n:Int)<=(n:Int)+(k:Int):=Ya;have Ag:(0:Int)<=(n:Int):=Ya
   rcases fh with aa|⟨aa,hb⟩
   all_goals first
    |(have HB:=U10 hb;have dZ:decide ((n:Int)+(k:Int)<(s.size:Int))=true:=by { simp;omega };clear hb;have cd:(n:Int)+(k:Int)<(s.size:Int):=by { omega })
    |(have dZ:decide ((n:Int)+(k:Int)<(s.size:Int))=false:=by { simp;omega };skip)
   all_goals
    go_wp2_with (first|(go_at_call 39;refine (O70 _ _).mono ?_;rw[HB.o];rintro e w1 ⟨rfl,rfl⟩))
    go_region
    all_goals go_wp2_with fail
    all_goals
     refine U11 (v:=.tuple #[.string (s.extract n (n+k)),.int .i64 (n+k:Nat),f0]) (by simp[results,results19,go_sem]) rfl ?_;rw[<-bV.o];refine⟨by rw[Ocz],Ya,Gr.auto⟩
 rw[hl]at hX;simp only[U2i]at hX;subst hX;have HL:=U10 hl;have h3:n+2<=s.size:=by
  have pn:Pl.long ((bs s).drop n)=true:=hl;exact J166
 clear hl;go_enter func19,ntmps19;go_wp2_with (go_at_call 38;refine (O2k s _ n rfl hn hs _).mono ?_;rw[HL.o];rintro e w1 ⟨rfl,rfl⟩)
 go_region
 all_goals go_wp2_with fail
 all_goals
  refine U11 (v:=.tuple #[.string ⟨#[]⟩,.int .i64 (n+2:Nat),f0]) (by simp[results,results19,go_sem]) rfl ⟨rfl,h3,Gr.auto⟩
def O1l(acc:List Pl.KW):List Pl.Bs:=acc.map (·.1)
def O1c(acc:List Pl.KW):List (Nat×Nat):=acc.map (·.2)
structure KS(w W:World)(kv sv:Value)(acc:List Pl.KW):Prop where
 rows:V24 w W w.heap.size (λ _=>False) kv sv (.slice none 0 0) acc.length acc.length 0 (Oj (O1l acc)) (Oc (O1c acc)) []
 k:V3i W w.heap.size #[kv,sv] 42 kv sv (.slice none 0 0)
 f:V3i W (w.heap.size+1) #[(0:Int),(0:Int)] 29 kv sv (.slice none 0 0)
theorem KS.gr{w W W':World}{kv sv:Value}{acc:List Pl.KW}(h:KS w W kv sv acc)(g:Gr W W'):KS w W' kv sv acc:=⟨h.rows.gr g,h.k.gr g,h.f.gr g⟩
theorem KS.cells{w W:World}{kv sv:Value}{acc:List Pl.KW}(h:KS w W kv sv acc):W.cell? w=some kv/\W.cell? ⟨w,1,none⟩=some sv/\W.frozen? w=false/\W.frozen? ⟨w,1,none⟩=false /\W.cell? (w.heap.size+1:Nat)=some (.int .i64 0)/\W.cell? ⟨w+1,1,none⟩=some (.int .i64 0)/\W.frozen? (w.heap.size+1:Nat)=false/\W.frozen? ⟨w+1,1,none⟩=false :=
 ⟨(h.k.cell (i:=0) rfl).1,(h.k.cell (i:=1) rfl).1,(h.k.cell (i:=0) rfl).2,(h.k.cell (i:=1) rfl).2,(h.f.cell (i:=0) rfl).1,(h.f.cell (i:=1) rfl).1,(h.f.cell (i:=0) rfl).2,(h.f.cell (i:=1) rfl).2⟩
theorem KS.below{w W:World}{kv sv:Value}{acc:List Pl.KW}(h:KS w W kv sv acc):Gr w W:=h.rows.st.below (Gr.refl w) (λ _ hF=>hF.elim)
theorem KS.lt{w W:World}{kv sv:Value}{acc:List Pl.KW}(h:KS w W kv sv acc):w.heap.size+1<W.heap.size:=h.f.lt
def Vdw(w:World)(kv sv:Value)(V:World):Prop:=V.cell? w=some kv/\V.cell? ⟨w,1,none⟩=some sv
theorem O2m{w V:World}{a b kv sv uv:Value}(h:V3i V w.heap.size #[a,b] 42 kv sv uv):Vdw w a b V:=⟨(h.cell (i:=0) rfl).1,(h.cell (i:=1) rfl).1⟩
theorem Op8{w V:World}{kv sv:Value}{a b:Value}{t:Pl.Bs}{n e:Nat}{acc:List Pl.KW}(H:V24 w V w.heap.size (λ _=>False) kv sv (.slice none 0 0) (acc.length+1) (acc.length+1) 0 (Oj (O1l acc)++[V3h t]) (Oc (O1c acc)++[.int .i64 n,.int .i64 e]) [])(C:V3i V w.heap.size #[a,b] 42 kv sv (.slice none 0 0))(Ff:V3i V (w.heap.size+1) #[(0:Int),(0:Int)] 29 kv sv (.slice none 0 0)):KS w ((V.setCell w kv).setCell ⟨w,1,none⟩ sv) kv sv (acc++[(t,n,e)]):=by
 refine⟨?_,?_,?_⟩
 have h1:=(H.setCell (i:=0) (U12 _) C.k C.s C.u kv).setCell (i:=1) (U12 _) C.k C.s C.u sv;have e1:(acc++[(t,n,e)]).length=acc.length+1:=Yb;have e2:Oj (O1l (acc++[(t,n,e)]))=Oj (O1l acc)++[V3h t]:=by simp[Oj,O1l]
 have e3:Oc (O1c (acc++[(t,n,e)]))=Oc (O1c acc)++[.int .i64 n,.int .i64 e]:=by simp[Oc,O1c]
 rw[e1,e2,e3];exact h1;have:=(C.set (i:=0) kv).set (i:=1) sv;exact J4
 exact (Ff.setOther Yb _).setOther Yb _
def Obk(w:World)(V:World):Prop:=V.cell? (w.heap.size+1:Nat)=some (.int .i64 0)/\V.cell? ⟨w+1,1,none⟩=some (.int .i64 0)
theorem Oiv{w V:World}{a b:Value}(h:Obk w V):Obk w ((V.setCell w a).setCell ⟨w,1,none⟩ b) :=
 ⟨by rw[U1p _ _ _ _ Yb,U1p _ _ _ _ Yb];exact h.1,by rw[U1p _ _ _ _ Yb,U1p _ _ _ _ Yb];exact h.2⟩
theorem Ont{w V:World}{kv sv:Value}{acc:List Pl.KW}(h:KS w V kv sv acc):V2f ((((V.setCell w (O7 kv)).setCell ⟨w,1,none⟩ (O7 sv)).setCell (w.heap.size+1:Nat) (0:Int)).setCell ⟨w+1,1,none⟩ (0:Int)) w.heap.size 9 1 (O7 kv) acc.length (Oj (O1l acc)) /\V2f ((((V.setCell w (O7 kv)).setCell ⟨w,1,none⟩ (O7 sv)).setCell (w.heap.size+1:Nat) (0:Int)).setCell ⟨w+1,1,none⟩ (0:Int)) w.heap.size 38 2 (O7 sv) acc.length (Oc (O1c acc)) /\Gr w ((((V.setCell w (O7 kv)).setCell ⟨w,1,none⟩ (O7 sv)).setCell (w.heap.size+1:Nat) (0:Int)).setCell ⟨w+1,1,none⟩ (0:Int)):=by
 have h1:=(((h.rows.setCell (i:=0) (U12 _) h.k.k h.k.s h.k.u (O7 kv)).setCell (i:=1) (U12 _) h.k.k h.k.s h.k.u (O7 sv)).setCell (i:=0) (U2x _) h.f.k h.f.s h.f.u (0:Int)).setCell (i:=1) (U2x _) h.f.k h.f.s h.f.u (0:Int);exact⟨O2l h1.k,O2l h1.s,⟨h1.st.os,h1.st.tape,h1.st.output,h1.st.size,λ k hk=>h1.st.block k hk (λ e=>e)⟩⟩
def O71(s:ByteArray)(w:World)(x:Va (List Pl.KW×Nat))(e:Ending)(w':World):Prop :=
 match x with
 |.non=>True
 |.ok (ws,m)=>∃kv sv,e=.returned (.tuple #[.agg #[kv,sv],m,f0])/\m<=s.size/\V2f w' w.heap.size 9 1 kv ws.length (Oj (O1l ws))/\V2f w' w.heap.size 38 2 sv ws.length (Oc (O1c ws))/\ws.length<=s.size+2/\0<ws.length/\Gr w w'
 |.bad c p=>e=.returned (.tuple #[.agg #[.slice none 0 0,.slice none 0 0],(0:Int),fv c p])/\c≠0/\Gr w w'
theorem Op9{w W:World}{base:Nat}{kv sv uv:Value}{nk ns nu:Nat}{xk xs xu:List Value}(h:V24 w W base (λ _=>False) kv sv uv nk ns nu xk xs xu):Gr w W :=
 ⟨h.st.os,h.st.tape,h.st.output,h.st.size,λ k hk=>h.st.block k hk (λ e=>e)⟩
theorem O4w(T:Nat->UInt8×UInt8)(E:V19)(hE:O2r T E)(s:ByteArray)(i:Int)(n0:Nat)(hi:i=n0)(iJ:n0<=s.size)(hs:s.size<=20000000)(X:Va (List Pl.KW×Nat))(hX:V23 E (bs s) n0=X)(a8:X≠.non)(w:World)(hQ:QW T w):Calls prog 9 #[.string s,i] w (O71 s w X):=by
 have rI:=U10 hQ;clear hQ;subst hi;unfold V23 at hX;rw[O0]at hX;have HX:=U10 hX;obtain⟨iK,k1,k2,k3,k4⟩:=U3u Of8;obtain⟨iS,s1,s2,s3,s4⟩:=U3u Ocv;have fH:=U10 (And.intro k1 (And.intro k2 (And.intro k3 k4)));have dX:=U10 (And.intro s1 (And.intro s2 (And.intro s3 s4)));have kB:decide ((n0:Int)<0)=false:=Yb;have dZ:decide (s.size<n0)=false:=Ye;have Qg:Hid (KS w ((w.alloc (.cells #[.slice none 0 0,.slice none 0 0] 42)).alloc (.cells #[(0:Int),(0:Int)] 29)) (.slice none 0 0) (.slice none 0 0) []):=by
  have fc:∀(b:Nat),(Value.slice none 0 0).ownBlock≠some b:=λ b e=>by simp[Value.ownBlock]at e
  refine⟨⟨((St.refl _ w).alloc _).alloc _ |>.to (λ _ e=>e.elim),Or _ _ _ _,Or _ _ _ _,Or _ _ _ _,λ b e=>absurd e (fc b),λ b e=>absurd e (fc b),λ b e=>absurd e (fc b),λ b e=>absurd e (fc b),λ b e=>absurd e (fc b),λ b e=>absurd e (fc b)⟩,⟨?_,fc _,fc _,fc _⟩,⟨?_,fc _,fc _,fc _⟩⟩;exact (((Gr.refl _).alloc _).block Yb).trans (U1z w _)
  have:=U1z (w.alloc (.cells #[.slice none 0 0,.slice none 0 0] 42)) (.cells #[(0:Int),(0:Int)] 29)
  rwa [U1s]at this
 clear hX k1 k2 k3 k4 s1 s2 s3 s4;go_enter func9,ntmps9;go_wp2_with fail
 go_step3
 go_wp2_with fail
 go_step3
 go_wp2_with fail
 go_loopw [1,5] (λ v1 v5 wr=>∃(n eS:Nat)(m5:Int)(acc:List Pl.KW)(kv sv:Value),v1=.int .i64 n/\v5=.int .i64 m5/\n<=s.size/\V4c E (bs s) eS n acc=X/\KS w wr kv sv acc/\acc.length+eS=s.size+2) (λ v1 _ _=>s.size-(intOf v1).toNat)
 case atStart=>exact⟨n0,s.size+2,0,[],_,_,rfl,rfl,iJ,HX.o,Qg.o,Yb⟩
 case round =>
  obtain⟨n,eS,m5,acc,kv,sv,rfl,rfl,hn,hx,pK,ad⟩:=hrel;cases eS with
  |zero=>exact absurd hx.symm a8
  |succ eS =>
   unfold V4c at hx;obtain⟨c0,c1,z0,z1,pR,pS,y0,y1⟩:=pK.cells;have Qh:=pK.lt;have HK:=U10 pK;clear pK;cases hw:V3x E (bs s) n with
   |non=>rw[hw]at hx;exact absurd hx.symm a8
   |bad c p =>
    rw[hw]at hx;dsimp only at hx;have bV:=U10 hx;have HW:=U10 hw;clear hx hw;go_wp2_with fail;refine Z284 ?_;rintro e w1 ⟨⟨m,rfl⟩,hc,g1⟩;obtain⟨ah,ap,ax⟩:=g1.use;have p0:w1.cell? w=some kv:=(ah _ _ Ya).trans c0;have p1:w1.cell? ⟨w,1,none⟩=some sv:=(ah _ _ Ya).trans c1;have p2:w1.frozen? w=false:=(ap _ _ Ya).trans z0;have p3:w1.frozen? ⟨w,1,none⟩=false:=(ap _ _ Ya).trans z1;have p4:w1.cell? (w.heap.size+1:Nat)=some (.int .i64 0):=(ah _ _ Ya).trans pR;have p5:w1.cell? ⟨w+1,1,none⟩=some (.int .i64 0):=(ah _ _ Ya).trans pS;have p6:w1.frozen? (w.heap.size+1:Nat)=false:=(ap _ _ Ya).trans y0;have p7:w1.frozen? ⟨w+1,1,none⟩=false:=(ap _ _ Ya).trans y1;refine Z168 ?_;intro sI fg;have mg:Gr w wr:=Op9 HK.o.rows;clear ah ap c0 c1 z0 z1 pR pS y0 y1;have jJ:¬(c:Int)=0:=Ya
    go_wp2_with fail
    go_region
    all_goals go_wp2_with fail
    all_goals
     rw[Exit.noGoto_ret];refine U11 (v:=.tuple #[.agg #[.slice none 0 0,.slice none 0 0],(0:Int),fv c p]) (by simp[results,results9,go_sem,p0,p1,p2,p3,p4,p5,p6,p7,sI,fg]) rfl ?_;rw[<-bV.o];exact⟨rfl,hc,Gr.auto⟩
   |ok r =>
    obtain⟨t,e⟩:=r;rw[hw]at hx;dsimp only at hx;have aQ:=word_le E _ _ _ _ hw;have bV:=U10 hx;have HW:=U10 hw;clear hx hw;go_wp2_with fail;refine Z284 ?_;rintro e' w1 ⟨rfl,Ga,g1⟩;have bx:=HK.o.gr g1;have cd:=bx.gr ((Gr.refl w1).alloc (.cells #[(0:Int),(0:Int)] 29));obtain⟨p0,p1,p2,p3,p4,p5,p6,p7⟩:=bx.cells;have Mb:=bx.lt;have Uq:=U10 bx;have Qi:=U10 cd;clear bx cd c0 c1 z0 z1 pR pS y0 y1;go_wp2_with fail;refine Reg.begin' (W:=λ i=>i != 14&&i != 16) (S:=Vdw w kv sv) Yc ?_;obtain⟨V0,hV⟩:=ExZ ((w1.alloc (.cells #[(0:Int),(0:Int)] 29)).drew)
    have oF:=Qi.o.gr ((Gr.refl _).drew);rw[hV]at oF⊢;clear hV p0 p1 p2 p3 p4 p5 p6 p7;have gH:=U10 oF.rows;have y8:=U10 oF.k;have BW:=U10 oF.f;clear oF;have bh:=O2m y8.o;refine Reg.ty 0 ?_;refine Reg.ty 2 ?_;refine Reg.ty 5 ?_;refine Z59 ?_;refine Reg.ty 12 ?_;refine Reg.tl 1 bh ?_ (hy:=by intro w ab;obtain⟨q1,q2⟩:=ab;go_simp;try with_reducible rfl);refine Reg.tl 6 bh ?_ (hy:=by intro w ab;obtain⟨q1,q2⟩:=ab;go_simp;try with_reducible rfl);refine Reg.all (rs:=[3,10]) Yc Yb ?_;refine Z14 ?_;intro j hj;rcases hj with rfl|rfl
    ·refine Reg.one (i:=3) rfl Yh ?_;go_simp;have av:=gH.o.alloc (.cells #[V3h t] 9);have au:=gH.o.newB #[V3h t] 9;have cY:=y8.o.alloc (.cells #[V3h t] 9);have cZ:=BW.o.alloc (.cells #[V3h t] 9);obtain⟨V1,hV⟩:=ExZ (V0.alloc (.cells #[V3h t] 9))
     rw[hV]at av au cY cZ⊢;clear hV;have aN:=U10 av;have np:=U10 cY;have tM:=U10 cZ;have mB:=U10 au;clear av au cY cZ;have cF:=O2m np.o;refine Z98 ?_;refine Reg.all (rs:=[4,10]) Yc Yb ?_;refine Z14 ?_;intro j hj;rcases hj with rfl|rfl
     ·refine Z274 ?_;refine U2z _ (.tmp 33) (.tmp 35) 34 Yh w.heap.size 9 iK _ 1 16 underlying34 fH.o.1 fH.o.2.1 fH.o.2.2.1 fH.o.2.2.2 Yh Yd kv acc.length _ Yh aN.o.k _ 1 1 [V3h t] Yh Yh (U2f mB.o.blk) Yj Yd Yl Ya aN.o.size _ rfl ?_;intro gK aJ V2 ho hg ha hz;have aP:=U10 (aN.o.appK ho hg ha);have mA:=U10 (np.o.appK (n:=acc.length+1) (cap:=aJ) hg ha);have sK:=U10 (tM.o.appK (n:=acc.length+1) (cap:=aJ) hg ha);clear ho hg ha hz;have bi:=O2m mA.o;refine⟨λ _ _=>bi,?_⟩;refine Reg.pt ?_;refine Reg.ty 13 ?_;refine Reg.on 10 ?_;skip;go_simp;have av:=aP.o.alloc (.cells #[n,e] 38);have ak:=aP.o.newB #[n,e] 38;have cY:=mA.o.alloc (.cells #[n,e] 38);have cZ:=sK.o.alloc (.cells #[n,e] 38);obtain⟨V3,hV⟩:=ExZ (V2.alloc (.cells #[n,e] 38))
      rw[hV]at av ak cY cZ⊢;clear hV;have aW:=U10 av;have mx:=U10 cY;have sH:=U10 cZ;have cb:=U10 ak;clear av ak cY cZ;have aC:=O2m mx.o;refine⟨by first|exact aC|exact λ _=>aC,?_⟩;refine Reg.pt ?_;refine Reg.on 11 ?_;skip;exact J97
     refine Reg.one (i:=10) rfl Yh ?_;go_simp;have av:=aN.o.alloc (.cells #[n,e] 38);have ak:=aN.o.newB #[n,e] 38;have cY:=np.o.alloc (.cells #[n,e] 38);have cZ:=tM.o.alloc (.cells #[n,e] 38);have au:=mB.o.alloc (.cells #[n,e] 38);obtain⟨V2,hV⟩:=ExZ (V1.alloc (.cells #[n,e] 38))
     rw[hV]at av ak cY cZ au⊢;clear hV;have aP:=U10 av;have mA:=U10 cY;have sK:=U10 cZ;have cU:=U10 au;have dS:=U10 ak;clear av ak cY cZ au;exact J201
    refine Reg.one (i:=10) rfl Yh ?_;go_simp;have av:=gH.o.alloc (.cells #[n,e] 38);have ak:=gH.o.newB #[n,e] 38;have cY:=y8.o.alloc (.cells #[n,e] 38);have cZ:=BW.o.alloc (.cells #[n,e] 38);obtain⟨V1,hV⟩:=ExZ (V0.alloc (.cells #[n,e] 38))
    rw[hV]at av ak cY cZ⊢;clear hV;have aN:=U10 av;have np:=U10 cY;have tM:=U10 cZ;have sW:=U10 ak;clear av ak cY cZ;have cF:=O2m np.o;refine Z98 ?_;refine Reg.on 3 ?_;skip;go_simp;have av:=aN.o.alloc (.cells #[V3h t] 9);have au:=aN.o.newB #[V3h t] 9;have cY:=np.o.alloc (.cells #[V3h t] 9);have cZ:=tM.o.alloc (.cells #[V3h t] 9);have ak:=sW.o.alloc (.cells #[V3h t] 9);obtain⟨V2,hV⟩:=ExZ (V1.alloc (.cells #[V3h t] 9))
    rw[hV]at av au cY cZ ak⊢;clear hV;have aP:=U10 av;have mA:=U10 cY;have sK:=U10 cZ;have dS:=U10 ak;have cU:=U10 au;clear av au cY cZ ak;exact J201
end Go.Proofs.YtnkgknbdaiakgaaGreatDoor
namespace Go.Proofs.YtnkgknbdaiakgaaGreatDoor
open Pl Go.Proofs.Tryz Go.RowKit Go.Shelf Go.Joins
attribute [local go_sem] U28
variable {Tb:Nat->UInt8×UInt8}
structure GW(T:Nat->UInt8×UInt8)(base:Nat)(w:World):Prop where
 int:V4d w
 q:QW T w
 es:14<base
 sh:0<base
 rad:6<base
 max:3<base
 err:1<base
 pow:2<base
theorem GW.st{base:Nat}{w w':World}{F F':Nat->Prop}(h:GW Tb base w)(g:St F F' w w')(hF:∀k,F k->base<=k):GW Tb base w':=by
 have hc:∀{b o:Nat} {v},b<base->w.cell? ⟨b,o,none⟩=some v->w'.cell? ⟨b,o,none⟩=some v:=λ hb e=>((g.use _ (Lib.lt_of_cell e) (λ hf=>by have:=hF _ hf;simp only at this;omega)).1 _).trans e
 obtain⟨m,hm⟩:=h.int.max;obtain⟨ep,he⟩:=h.int.err;obtain⟨ev,pq,I1⟩:=h.q.es;refine⟨?_,⟨⟨ev,hc h.es pq,I1⟩,λ j v hj=>hc h.sh (h.q.sh j v hj)⟩,h.es,h.sh,h.rad,h.max,h.err,h.pow⟩;refine⟨λ j v hj=>hc h.rad (h.int.rad j v hj),⟨m,hc h.max hm⟩,⟨ep,hc h.err he⟩,?_⟩;have hp:=h.int.pow;have li:prog.globalNamed "internal/strconv.uint64pow10" = some 2:=Yc
 unfold Lib.TabIs World.var? at hp⊢;rw[li]at hp⊢;simp only[Option.bind_some]at hp⊢;have aa:2<w.heap.size:=by
  exact J11
 rw[g.block _ aa (λ hf=>by have:=hF _ hf;have:=h.pow;omega)];exact hp
theorem GW.gr{base:Nat}{w w':World}(h:GW Tb base w)(g:Gr w w'):GW Tb base w':=h.st (F:=λ _=>False) (F':=λ _=>False) (g.st) (λ _ e=>e.elim)
def RK(R:Nat)(w:World):Prop:=∃a b c d,w.heap[R]?=some (.cells #[a,b,c,d] 80 (0,0))
theorem RdV.rk{w:World}{R B base:Nat}{s:ByteArray}{root:Int}{nv:Value}{L:List NdR}{own:Nat->Nat}(h:RdV w R B base s root nv L own):RK R w:=⟨_,_,_,_,h.blk⟩
theorem RK.gr{R:Nat}{w w':World}(h:RK R w)(g:Gr w w'):RK R w':=by
 obtain⟨a,b,c,d,h⟩:=h;exact⟨a,b,c,d,(g.block (U1a.1 h).1).trans h⟩
theorem RK.set{R:Nat}{w:World}(h:RK R w){b o:Nat}(hb:b≠R)(v:Value):RK R (w.setCell ⟨b,o,none⟩ v):=by
 obtain⟨x,y,z,u,h⟩:=h;exact⟨x,y,z,u,by rw[U14 _ _ _ _ (U3p hb)];exact h⟩
theorem RK.drew{R:Nat}{w:World}(h:RK R w):RK R w.drew:=h
def O4v(s:ByteArray)(R B base:Nat)(root:Int)(own:Nat->Nat)(w:World)(X:Va (Nat×Nat×Ve))(e:Ending)(w':World):Prop :=
 match X with
 |.non=>True
 |.bad c p=>e=.returned (.tuple #[(0:Int),(0:Int),fv c p])/\c≠0/\∃F',St (FV own) F' w w'/\RK R w'
 | .ok (i,n,st')=>e=.returned (.tuple #[i,n,f0])/\n<=s.size/\i<st'.length /\
     ∃nv' L' own',RdV w' R B base s root nv' L' own'/\L'.map (·.nd)=st'/\St (FV own) (FV own') w w'/\(∀k,own' k≠0->own k≠0\/w.heap.size<=k)
abbrev Vp:Value := .slice none 0 0
def O3n(k:Nat)(t:Pl.Bs)(a b:Nat):NdR:=⟨V5w k t a b,Vp,Vp,Vp⟩
theorem Oal(w W:World)(R B base:Nat)(s:ByteArray)(root:Int)(nv:Value)(L:List NdR)(own:Nat->Nat)(h:RdV w R B base s root nv L own)(g:Gr w W)(hr:Pl.room (L.map (·.nd))=true)(k:Nat)(h8:k≠8)(t:ByteArray)(a b:Nat)(kk:Int)(cT:kk=k)(b':Int)(hb:b'=b):Calls prog 74 #[.pointer (some ⟨R,0,none⟩),.agg #[.int .u8 kk,.string t,Vp,Vp,Vp,a,b']] W λ e w' => e=.returned L.length/\∃nv' own',RdV w' R B base s root nv' (L++[O3n k (bs t) a b]) own'/\St (FV own) (FV own') w w'/\(∀k,own' k≠0->own k≠0\/W.heap.size<=k)/\St (FV own) (FV own') W w':=by
 have hl:L.length<=30000000:=by simp[Pl.room]at hr;omega
 subst hb cT;refine (O9n W R B base s root nv L own (h.gr g) hl (O3n k (bs t) a b) rfl rfl rfl rfl rfl rfl (O16 (Or _ _ _ _)) (λ e=>absurd e h8) (λ k e=>by simp[O3n,Value.ownBlock]at e) k t Vp Vp Vp a b ?_).mono ?_;simp[ndV,O3n,V5w,bs]
 rintro e w' ⟨rfl,nv',own',h1,h2,h3⟩;have GO:St (FV own) (FV own') W w':=by
  refine⟨h2.os,h2.tape,h2.output,h2.size,λ k hk hn=>h2.block k hk (λ e=>e.elim hn (λ e=>by simp[O3n,Value.ownBlock]at e)),λ k hk=>?_⟩;rcases h2.own k hk with (e|e)|e
  exact .inl e;simp[O3n,Value.ownBlock]at e
  exact .inr e
 refine⟨rfl,nv',own',h1,(g.st).trans GO,λ k hk=>?_,GO⟩;rcases h3 k hk with e|e|e
 exact .inl e;simp[O3n,Value.ownBlock]at e
 exact .inr e
def FX(b:Nat)(x y:Value)(w:World):Prop:=w.cell? b=some x/\w.cell? ⟨b,1,none⟩=some y/\(∀o,w.frozen? ⟨b,o,none⟩=false)/\b<w.heap.size
theorem FX.gr{b:Nat}{x y:Value}{w w':World}(h:FX b x y w)(g:Gr w w'):FX b x y w' :=
 ⟨(g.use.1 _ _ h.2.2.2).trans h.1,(g.use.1 _ _ h.2.2.2).trans h.2.1,λ o=>(g.use.2.1 _ _ h.2.2.2).trans (h.2.2.1 o),U13 h.2.2.2 g.size⟩
theorem FX.st{b:Nat}{x y:Value}{w w':World}{F F':Nat->Prop}(h:FX b x y w)(g:St F F' w w')(hb:¬F b):FX b x y w' :=
 ⟨((g.use _ h.2.2.2 hb).1 _).trans h.1,((g.use _ h.2.2.2 hb).1 _).trans h.2.1,λ o=>((g.use _ h.2.2.2 hb).2 _).trans (h.2.2.1 o),U13 h.2.2.2 g.size⟩
theorem FX.set{b:Nat}{x y:Value}{w:World}(h:FX b x y w)(x' y':Value):FX b x' y' ((w.setCell b x').setCell ⟨b,1,none⟩ y'):=by
 obtain⟨h0,h1,hf,hl⟩:=h;refine⟨?_,?_,λ o=>by simp[hf],by simpa using hl⟩;exact J33
 exact J32
theorem FX.new(w:World)(x y:Value)(T:TypeId):FX w x y (w.alloc (.cells #[x,y] T)):=⟨Yb,Yb,λ o=>by simp[go_sem],Yb⟩
theorem Ons(E:V19)(hE:O2r Tb E)(w:World)(R B base:Nat)(s:ByteArray)(root:Int)(nv:Value)(L:List NdR)(own:Nat->Nat)(h:RdV w R B base s root nv L own)(mg:GW Tb base w)(hs:s.size<=20000000)(i d:Int)(n:Nat)(hi:i=n)(hn:n<=s.size)(X:Va (Nat×Nat×Ve))
    (hX:(match E.str ((bs s).drop n) with
     |.non => .non
     |.bad c p => .bad c (n+p)
     |.ok (t,m)=>if Pl.room (L.map (·.nd)) then .ok ((L.map (·.nd)).length,n+m,L.map (·.nd)++[V5w 3 t n (n+m)]) else .non:Va (Nat×Nat×Ve))=X) (a8:X≠.non) :
    Calls prog 44 #[.pointer (some ⟨R,0,none⟩),i,d] w (O4v s R B base root own w X):=by
 subst hi;rw[show E.str=Vu Tb from hE]at hX;obtain⟨c0,c1,c2,c3,fz⟩:=h.cells;have hR:=h.R_lt;have H:=U10 h;cases hq:Vu Tb ((bs s).drop n) with
 |non=>rw[hq]at hX;exact absurd hX.symm a8
 |bad c p =>
  rw[hq]at hX;subst hX;have HQ:=U10 (λ W (g:Gr w W)=>O6z Tb s n n rfl hn hs _ hq Yb W (mg.q.gr g));clear mg;clear a8 hq fz c0 c1 c3 h;go_enter func44,ntmps44;go_wp2_with fail;refine (HQ.o _ Gr.auto).mono ?_;rintro e w1 ⟨rfl,hc,g1⟩;have kR:¬(c:Int)=0:=Ya
  have Mc:((n+p:Nat):Int)=(n:Int)+(p:Int):=Yb;have d9:=(FX.new w (0:Int) (0:Int) 29).gr g1;have dV:=U10 (d9.set c (.int .i64 (n+p:Nat)));obtain⟨f1,f2,f3,f4⟩:=d9;go_wp2_with fail;refine (O1s c (n+p) kR _).mono ?_;rintro e w2 ⟨rfl,g2⟩;obtain⟨q0,q1,qf,et⟩:=dV.o.gr g2;go_wp2_with fail
  go_region
  all_goals go_wp2_with fail
  exact U11 (v:=.tuple #[(0:Int),(0:Int),fv c (n+p)]) (by simp[results,results44,go_sem,q0,q1,qf,et]) rfl ⟨rfl,hc,FV own,St.auto,H.o.rk.gr Gr.auto⟩
 |ok r =>
  obtain⟨t,m⟩:=r;rw[hq]at hX;simp only at hX;cases hr:Pl.room (L.map (·.nd)) with
  |false=>rw[hr,U1b Yb]at hX;exact absurd hX.symm a8
  |true =>
  rw[hr,U18 rfl]at hX;subst hX;have HQ:=U10 (λ W (g:Gr w W)=>O6z Tb s n n rfl hn hs _ hq Yb W (mg.q.gr g));clear mg;have HR:=U10 hr;have AQ:Hid (¬FV own w.heap.size):=h.not_new (U12 _);clear a8 hq fz c0 c1 c3 h hr;go_enter func44,ntmps44;go_wp2_with fail;refine (HQ.o _ Gr.auto).mono ?_;rintro e w1 ⟨rfl,vr,hm,g1⟩;have d9:=(FX.new w (.int .i64 0) (0:Int) 29).gr g1;have dV:=U10 (d9.set (0:Int) (0:Int));obtain⟨f1,f2,f3,f4⟩:=d9;have Mc:((n+m:Nat):Int)=(n:Int)+(m:Int):=Yb
  go_wp2_with fail;refine Z153 ?_;intro w2 g2;have d5:=dV.o.gr g2;have bC:Gr w w2:=by
   refine Gr.trans (Gr.setCell (Gr.setCell (((Gr.refl w).alloc _).trans g1) (U12 _) _) (U12 _) _) g2
  clear g2 dV g1 f1 f2 f3 f4;go_wp2_with fail;have hS:FX w (0:Int) (0:Int) w2.drew:=d5.gr (Gr.refl _).drew;refine Reg.begin' (W:=λ i=>i != 11) (S:=FX w (0:Int) (0:Int)) Yc ?_;refine Z31 ?_;refine Z40 ?_;refine Reg.ty 5 ?_;refine Reg.ty 7 ?_;refine Reg.tl 8 hS ?_ (hy:=by intro w ab;obtain⟨q0,q1,qf,ql⟩:=ab;go_simp;try with_reducible rfl);refine Reg.on 6 ?_;go_simp;refine (Oal w w2.drew R B base s root nv L own H.o bC.drew HR.o 3 Ya ⟨t.toArray⟩ n (n+m) 3 rfl _ Mc.symm).mono ?_;rintro e w3 ⟨rfl,nv',own',oG,kQ,fT,jF⟩;have cV:=hS.st jF AQ.o;refine Z132 ?_;refine Reg.ty 9 ?_;refine Reg.ty 10 ?_;obtain⟨p0,p1,pf,pl⟩:=cV;have eX:¬FV own' w.heap.size:=by
   intro hf;rcases fT _ hf with e|e
   exact AQ.o e
   have:=hS.2.2.2;omega
  have H3:=U10 oG;have AR:=U10 kQ;have AS:=U10 fT;clear oG kQ fT jF;refine Reg.on 11 ?_;go_simp;refine Z12 ?_;go_wp2_with fail;refine U11 (v:=.tuple #[L.length,.int .i64 (n+m:Nat),f0]) (by simp[results,results44,go_sem,p0,p1,pf,pl]) rfl ?_;refine⟨Yb,vr,Yb,nv',_,own',(H3.o.setCell eX _).setCell eX _,by simp[O3n,bs],?_,λ k hk=>(AS.o k hk).imp id (λ e=>U1k bC.size e)⟩;exact (AR.o.setCell (.inr (U12 _)) _).setCell (.inr (U12 _)) _
end Go.Proofs.YtnkgknbdaiakgaaGreatDoor
namespace Go.Proofs.YtnkgknbdaiakgaaGreatDoor
open Pl Go.Proofs.Tryz Go.RowKit Go.Shelf Go.Joins
attribute [local go_sem] U28
theorem Od3(x:ByteArray):∀(ks:List Pl.Bs)(i:Nat),Lib.idxFromS (ks.map λ k=>(⟨k.toArray⟩:ByteArray)) x i=match ks.findIdx? (λ k=>k==bs x) with
    |none => -1
    |some j=>((i+j:Nat):Int)
 |[],_=>rfl
 | k::ks,i=>by
  have e:((⟨k.toArray⟩:ByteArray)=x) ↔ (k==bs x)=true:=by
   rw[U2w];constructor;intro h;rw[<-h]
   intro h;rw[h]
  rw[U35,List.findIdx?_cons,Lib.idxFromS];cases hk:k==bs x with
  |true=>rw[U18 (e.2 hk)];simp
  |false =>
   rw[U1b (λ h=>by rw[e.1 h]at hk;cases hk),Od3 x ks (i+1)];cases ks.findIdx? (λ k=>k==bs x) with
   |none=>rfl
   |some j =>
    show ((i+1+j:Nat):Int)=((i+(j+1):Nat):Int)
    congr 1;omega
def Op7:V8l->Value
 |.yes i => .tuple #[i,.bool true]
 |_ => .tuple #[(0:Int),.bool false]
theorem Oiu(w:World)(R B base:Nat)(s:ByteArray)(root:Int)(nv:Value)(L:List NdR)(own:Nat->Nat)(h:RdV w R B base s root nv L own)(i:Nat)(key:ByteArray)(X:V8l)(hX:V16 (L.map (·.nd)) i (bs key)=X)(a8:X≠.non):Calls prog 102 #[.pointer (some ⟨R,0,none⟩),i,.string key] w λ e w'=>e=.returned (Op7 X)/\w=w':=by
 unfold V16 at hX;rw[U1m]at hX;cases hr:L[i]? with
 |none=>rw[hr]at hX;exact absurd hX.symm a8
 |some r =>
 rw[hr]at hX;simp only[U29]at hX;have hi:i<L.length:=(U16.1 hr).1;obtain⟨g,cap,cur,rfl,px,aZ,dI,nY,ti,lj,il,ED,eF,jQ⟩:=h.form Ya;obtain⟨c0,c1,c2,c3,fz⟩:=h.cells;obtain⟨n0,n1,n2,n3,n4,n5,n6,nf⟩:=h.ndCells rfl i r hr;refine Z139 ?_;intro nQ eY;have hx:=h.rows i r hr;have HI:Hid (Calls prog 146 #[r.kv,.string key] w λ e w'=>e=.returned (.int .i64 (match r.nd.keys.findIdx? (λ k=>k==bs key) with|none => -1|some j=>(j:Int)))/\w=w'):=by
  refine Z215 ?_;intro du;by_cases hn:0<r.nd.keys.length;obtain⟨b,c,hv,rX,eF⟩:=(O16 hx.k).form hn;have bN:=(O16 hx.k).cells (g:=b) (by rw[hv];rfl);exact J135
  have h0:r.nd.keys=[]:=U2p Ya;obtain⟨a,c,hv⟩:∃a c,r.kv=.slice a 0 c:=by
   rcases ownsRow_forms hx.k with⟨e,_⟩|⟨g',c',e⟩
   exact⟨none,0,e⟩
   exact⟨some ⟨g',0,none⟩,c',by rw[e,h0];rfl⟩
  exact J185
 cases hf:r.nd.keys.findIdx? (λ k=>k==bs key) with
 |none =>
  rw[hf]at hX HI;subst hX;clear hf hx h a8 c1 c2 c3 fz n0 n1 n3 n4 n5 n6 nf lj jQ il;go_enter func102,ntmps102;go_wp2_with fail;refine HI.o.mono ?_;refine Z44 ?_;go_wp2_with fail;exact U11 (v:=.tuple #[(0:Int),.bool false]) (by simp[results,results102,go_sem]) rfl ⟨rfl,rfl⟩
 |some j =>
  rw[hf]at hX HI;simp only at hX HI;cases hu:r.nd.subs[j]? with
  |none=>rw[hu]at hX;exact absurd hX.symm a8
  |some u =>
  rw[hu]at hX;simp only at hX
  split at hX
  ·subst hX;have hj:j<r.nd.subs.length:=(U16.1 hu).1;obtain⟨b,c,hv,rX,eF⟩:=hx.u.form Ya;have bN:=hx.u.cells (g:=b) (by rw[hv];rfl) j u (by simp[O8,hu]);rw[hv]at n4;refine Z252 ?_;intro He;have pT:(j:Int)<(r.nd.subs.length:Int):=by omega
   have Qj:decide ((j:Int)<0)=false:=Yb;clear hf hx h a8 c1 c2 c3 fz n0 n1 n3 n5 n6 nf lj jQ il hu;go_enter func102,ntmps102;go_wp2_with fail;refine HI.o.mono ?_;refine Z44 ?_;go_wp2_with fail;exact U11 (v:=.tuple #[u,.bool true]) (by simp[results,results102,go_sem]) rfl ⟨rfl,rfl⟩
  exact absurd hX.symm a8
end Go.Proofs.YtnkgknbdaiakgaaGreatDoor
namespace Go.Proofs.YtnkgknbdaiakgaaGreatDoor
open Pl Go.Proofs.Tryz Go.RowKit Go.Joins
def V7i(r:NdR)(t:Nat):NdR:=⟨{ r.nd with owner:=t },r.kv,r.sv,r.uv⟩
theorem RdV.owned{w w1:World}{R B base:Nat}{s:ByteArray}{root:Int}{nv:Value}{L:List NdR}{own:Nat->Nat}(h:RdV w R B base s root nv L own)(m:Nat)(r:NdR)(hr:L[m]?=some r)(h0:r.nd.owner=0)(t:Nat)(ht:t≠0)(hm:m<=9223372036854775807)(D:V6b)(hD:Omb D L)(h1:w1.ownsMap prog 3 (plainElem (H:=Unit) prog 3) B (V4t L+1) (D.put m (.lit t)))(hg:w.grownBy w1 (some B)):RdV w1 R B base s root nv (L.set m (V7i r t)) own/\St (FV own) (FV own) w w1:=by
 have hB:=h.B_lt;have cC:∀k,k<w.heap.size->k≠B->w1.heap[k]?=w.heap[k]?:=λ k hk a8=>hg.block k hk (λ e=>a8 (U2u e))
 have hF:∀k t,own k=t->t≠0->t≠2->w1.heap[k]?=w.heap[k]?:=λ k t e h2 h3=>cC k (h.lt k Ya).2 (λ e2=>by subst e2;rw[h.oB]at e;omega)
 have I2:m<L.length:=(U16.1 hr).1;have I3:V3a (L.set m (V7i r t))=V3a L:=by
  unfold V3a;rw[List.flatMap_def,List.flatMap_def];congr 1;apply U46;intro j;simp only[U1m,U2n]
  split
  rename_i e
  subst e;simp[I2,hr,ndV,V7i];have:=(U16.1 hr).2;rw[this];simp
  rfl
 refine⟨⟨by rw[hF R 1 h.oR Ya Ya];exact h.blk,h.oR,h.oB,?_,h.oN,?_,?_,?_⟩,?_⟩;rw[U2k,I3];exact O1 h.nodes λ k e=>hF k 3 (h.oN k e) Ya Ya
 refine⟨DataW.put D m (.lit t),?_,?_⟩
 have e2:=O7n L m r (V7i r t) hr;have e3:V4t [r]=0:=by simp[V4t,h0]
 have e4:V4t [V7i r t]=1:=by simp[V4t,V7i,ht]
 rw[show V4t (L.set m (V7i r t))=V4t L+1 from by omega];exact h1
 have hk:∀i:Nat,i≠m->(Lit.int IntKind.i64 (i:Int))≠.int .i64 (m:Int):=λ i hi e=>hi (by injection e with _ e2;exact Int.ofNat.inj e2)
 refine⟨Maps.IsMap.put hD.1 _ _,λ i hi=>?_,λ i x hx=>?_⟩;rw[U2k]at hi;rw[Maps.atKey_put_other (hk i Ya)];exact hD.2.1 i hi
 rw[U2n]at hx
 split at hx
 rename_i e
 subst e;simp only[I2,U2i,U1f]at hx;subst hx;rw[Maps.atKey_put_same (k:=.int .i64 (m:Int)) hD.1 U3i];rfl
 rename_i e
 rw[Maps.atKey_put_other (hk i (λ e2=>e e2.symm))];exact hD.2.2 i x hx
 intro j x hx;rw[U2n]at hx
 split at hx
 rename_i e
 subst e;simp only[I2,U2i,U1f]at hx;subst hx;have hk:=h.rows m r hr;have cT:V6a w1 base own m r:=⟨O1 hk.k λ k e=>hF k _ (hk.tk k e) Ya Ya,O1 hk.s λ k e=>hF k _ (hk.ts k e) Ya Ya,hk.u.of_block λ k e=>hF k _ (hk.tu k e) Ya Ya,λ h8=>O1 (hk.u8 h8) λ k e=>hF k _ (hk.tu k e) Ya Ya,hk.tk,hk.ts,hk.tu⟩
 exact⟨cT.k,cT.s,cT.u,cT.u8,cT.tk,cT.ts,cT.tu⟩
 have hk:=h.rows j x hx;exact⟨O1 hk.k λ k e=>hF k _ (hk.tk k e) Ya Ya,O1 hk.s λ k e=>hF k _ (hk.ts k e) Ya Ya,hk.u.of_block λ k e=>hF k _ (hk.tu k e) Ya Ya,λ h8=>O1 (hk.u8 h8) λ k e=>hF k _ (hk.tu k e) Ya Ya,hk.tk,hk.ts,hk.tu⟩;intro k hk;have:=h.lt k hk;exact⟨this.1,U13 this.2 hg.size⟩
 exact (St.refl _ w).grown hg (λ k e=>by cases e;exact .inl (by unfold FV;rw[h.oB];omega))
end Go.Proofs.YtnkgknbdaiakgaaGreatDoor
namespace Go.Proofs.YtnkgknbdaiakgaaGreatDoor
open Pl Go.Proofs.Tryz Go.RowKit Go.Shelf Go.Joins
attribute [local go_sem] U28
variable {Tb:Nat->UInt8×UInt8}
def O6e(Tb:Nat->UInt8×UInt8)(s:ByteArray)(R B base:Nat)(root:Int)(V:V2c):Prop :=
 ∀(w:World)(nv:Value)(L:List NdR)(own:Nat->Nat),RdV w R B base s root nv L own->GW Tb base w->∀(n d:Nat),n<=s.size->d<=30000000->∀X,V d n (L.map (·.nd))=X->X≠.non ->
  Calls prog 24 #[.pointer (some ⟨R,0,none⟩),n,d] w (O4v s R B base root own w X)
def O7s(s:ByteArray)(R B base:Nat)(root:Int)(own:Nat->Nat)(w:World)(X:Va (Nat×Ve))(e:Ending)(w':World):Prop :=
 match X with
 |.non=>True
 |.bad c p=>e=.returned (.tuple #[(0:Int),fv c p])/\c≠0/\∃F',St (FV own) F' w w'/\RK R w'
 | .ok (n,st')=>e=.returned (.tuple #[n,f0])/\n<=s.size /\
     ∃nv' L' own',RdV w' R B base s root nv' L' own'/\L'.map (·.nd)=st'/\St (FV own) (FV own') w w'/\(∀k,own' k≠0->own k≠0\/w.heap.size<=k)
theorem Oek(E:V19)(hE:O2r Tb E)(w:World)(R B base:Nat)(s:ByteArray)(root:Int)(nv:Value)(L:List NdR)(own:Nat->Nat)(h:RdV w R B base s root nv L own)(hg:GW Tb base w)(hs:s.size<=20000000)(table d:Int)(n:Nat)(hn:n<=s.size)(c p:Nat)(hX:V23 E (bs s) n=.bad c p):Calls prog 76 #[.pointer (some ⟨R,0,none⟩),table,n,d] w (O7s s R B base root own w (.bad c p)):=by
 obtain⟨c0,c1,c2,c3,fz⟩:=h.cells;have hR:=h.R_lt;have HQ:=U10 (λ W (g:Gr w W)=>O4w Tb E hE s n n rfl hn hs _ hX Yb W (hg.q.gr g));have rN:=U10 h.rk;clear fz c0 c1 c3 h hX;go_enter func76,ntmps76;go_wp2_with fail;refine (HQ.o _ Gr.auto).mono ?_;rintro e w1 ⟨rfl,hc,g1⟩;have kR:¬(c:Int)=0:=Ya;have d9:=(FX.new w (0:Int) (0:Int) 29).gr g1;have dV:=d9.gr ((Gr.refl w1).alloc (.cells #[.slice none 0 0,.slice none 0 0] 42));have d5:=U10 (dV.set c p);obtain⟨f1,f2,f3,f4⟩:=dV;go_wp2_with fail;refine Z231 ?_;intro w2 g2;obtain⟨q0,q1,qf,et⟩:=d5.o.gr g2;have bC:Gr w w2:=by
  refine Gr.trans (Gr.setCell (Gr.setCell ((((Gr.refl w).alloc _).trans g1).alloc _) (U12 _) _) (U12 _) _) g2
 clear g2 d5 f1 f2 f3 f4 d9;go_wp2_with fail
 go_region
 all_goals go_wp2_with fail
 exact U11 (v:=.tuple #[(0:Int),fv c p]) (by simp[results,results76,go_sem,q0,q1,qf,et]) rfl ⟨rfl,hc,FV own,St.auto,rN.o.gr Gr.auto⟩
structure V5i(bF bK gk gs ck cs:Nat)(ws:List Pl.KW)(W:World):Prop where
 f:FX bF (0:Int) (0:Int) W
 k0:W.cell? bK=some (.slice gk ws.length ck)
 k1:W.cell? ⟨bK,1,none⟩=some (.slice gs ws.length cs)
 kl:bK<W.heap.size
 gkl:gk<W.heap.size
 gsl:gs<W.heap.size
 w:∀(j:Nat)(t:Pl.Bs)(a b:Nat),ws[j]?=some (t,a,b)->W.cell? ⟨gk,j,none⟩=some (V3h t)/\W.cell? ⟨gs,j*2,none⟩=some (.int .i64 a)/\W.cell? ⟨gs,j*2+1,none⟩=some (.int .i64 b)
theorem V5i.st{bF bK gk gs ck cs:Nat}{ws:List Pl.KW}{W W':World}{F F':Nat->Prop}(h:V5i bF bK gk gs ck cs ws W)(g:St F F' W W')(h1:¬F bF)(h2:¬F bK)(h3:¬F gk)(h4:¬F gs):V5i bF bK gk gs ck cs ws W' :=
 ⟨h.f.st g h1,((g.use _ h.kl h2).1 _).trans h.k0,((g.use _ h.kl h2).1 _).trans h.k1,U13 h.kl g.size,U13 h.gkl g.size,U13 h.gsl g.size,
  λ j t a b hj=>by
   obtain⟨a1,a2,a3⟩:=h.w j t a b hj;exact⟨((g.use _ h.gkl h3).1 _).trans a1,((g.use _ h.gsl h4).1 _).trans a2,((g.use _ h.gsl h4).1 _).trans a3⟩⟩
theorem V5i.gr{bF bK gk gs ck cs:Nat}{ws:List Pl.KW}{W W':World}(h:V5i bF bK gk gs ck cs ws W)(g:Gr W W'):V5i bF bK gk gs ck cs ws W' :=
 h.st (F:=λ _=>False) (F':=λ _=>False) g.st (λ e=>e) (λ e=>e) (λ e=>e) (λ e=>e)
theorem V5i.setF{bF bK gk gs ck cs:Nat}{ws:List Pl.KW}{W:World}(h:V5i bF bK gk gs ck cs ws W)(h1:bF≠bK)(h2:bF≠gk)(h3:bF≠gs):V5i bF bK gk gs ck cs ws ((W.setCell bF (0:Int)).setCell ⟨bF,1,none⟩ (0:Int)):=by
 have hc:∀b o,bF≠b->((W.setCell bF (0:Int)).setCell ⟨bF,1,none⟩ (0:Int)).cell? ⟨b,o,none⟩=W.cell? ⟨b,o,none⟩:=by
  intro b o hb;rw[U1p _ _ _ _ (by simp[hb,U3p hb]),U1p _ _ _ _ (by simp[hb,U3p hb])]
 refine⟨h.f.set _ _,(hc _ _ h1).trans h.k0,(hc _ _ h1).trans h.k1,by simpa using h.kl,by simpa using h.gkl,by simpa using h.gsl,λ j t a b hj=>?_⟩;obtain⟨a1,a2,a3⟩:=h.w j t a b hj;exact⟨(hc _ _ h2).trans a1,(hc _ _ h3).trans a2,(hc _ _ h3).trans a3⟩
theorem O5l:∀(l:List (Nat×Nat))(j:Nat)(p:Nat×Nat),l[j]?=some p->(Oc l)[j*2]?=some (.int .i64 p.1)/\(Oc l)[j*2+1]?=some (.int .i64 p.2)
 |[],j,p,h=>by simp at h
 | x::l,0,p,h=>by
  simp only[U2e,U1f]at h;subst h;exact⟨rfl,rfl⟩
 | x::l,j+1,p,h=>by
  have:=O5l l j p (by simpa using h);have e:Oc (x::l)=.int .i64 x.1 :: .int .i64 x.2::Oc l:=rfl;rw[e,show (j+1)*2=j*2+1+1 from by omega]
  simpa using this
theorem O9o{W:World}{base:Nat}{ws:List Pl.KW}{kv sv:Value}(hk:V2f W base 9 1 kv ws.length (Oj (O1l ws)))(hs:V2f W base 38 2 sv ws.length (Oc (O1c ws)))(h0:0<ws.length):∃gk gs ck cs,kv=.slice (some ⟨gk,0,none⟩) ws.length ck/\sv=.slice (some ⟨gs,0,none⟩) ws.length cs/\base<=gk/\base<=gs/\gk<W.heap.size/\gs<W.heap.size /\∀(j:Nat)(t:Pl.Bs)(a b:Nat),ws[j]?=some (t,a,b)->W.cell? ⟨gk,j,none⟩=some (V3h t)/\W.cell? ⟨gs,j*2,none⟩=some (.int .i64 a)/\W.cell? ⟨gs,j*2+1,none⟩=some (.int .i64 b):=by
 obtain⟨gk,ck,rfl,_,_⟩:=hk.form h0;obtain⟨gs,cs,rfl,_,_⟩:=hs.form h0;have l1:=hk.lt gk rfl;have l2:=hs.lt gs rfl;refine⟨gk,gs,ck,cs,rfl,rfl,l1.1,l2.1,l1.2,l2.2,λ j t a b hj=>⟨?_,?_,?_⟩⟩;exact hk.cells (g:=gk) rfl j _ (by simp[Oj,O1l,hj]);exact hs.cells (g:=gs) rfl _ _ (O5l _ j (a,b) (by simp[O1c,hj])).1
 exact hs.cells (g:=gs) rfl _ _ (O5l _ j (a,b) (by simp[O1c,hj])).2
def V5s(a b:Int):NdR:=⟨⟨8,[],[],[],[],(a,b),0⟩,Vp,Vp,Vp⟩
theorem Od4(W:World)(R B base:Nat)(s:ByteArray)(root:Int)(nv:Value)(L:List NdR)(own:Nat->Nat)(h:RdV W R B base s root nv L own)(hr:Pl.room (L.map (·.nd))=true)(a b:Int):Calls prog 74 #[.pointer (some ⟨R,0,none⟩),.agg #[.int .u8 8,.string ⟨#[]⟩,Vp,Vp,Vp,a,b]] W λ e w' => e=.returned L.length/\∃nv' own',RdV w' R B base s root nv' (L++[V5s a b]) own'/\St (FV own) (FV own') W w'/\(∀k,own' k≠0->own k≠0\/W.heap.size<=k):=by
 have hl:L.length<=30000000:=by simp[Pl.room]at hr;omega
 refine (O9n W R B base s root nv L own h hl (V5s a b) rfl rfl rfl rfl rfl rfl (O16 (Or _ _ _ _)) (λ _=>Or _ _ _ _) (λ k e=>by simp[V5s,Value.ownBlock]at e) 8 ⟨#[]⟩ Vp Vp Vp a b (by simp[ndV,V5s])).mono ?_;rintro e w' ⟨rfl,nv',own',h1,h2,h3⟩;refine⟨rfl,nv',own',h1,?_,λ k hk=>?_⟩
 refine⟨h2.os,h2.tape,h2.output,h2.size,λ k hk hn=>h2.block k hk (λ e=>e.elim hn (λ e=>by simp[V5s,Value.ownBlock]at e)),λ k hk=>?_⟩;rcases h2.own k hk with (e|e)|e
 exact .inl e;simp[V5s,Value.ownBlock]at e
 exact .inr e
 rcases h3 k hk with e|e|e
 exact .inl e;simp[V5s,Value.ownBlock]at e
 exact .inr e
theorem O7g(L:List NdR)(i:Nat)(r:NdR)(t:Pl.Bs)(sp:Nat×Nat)(n:Nat)(x:NdR)(hr:L[i]?=some r)(hx:x.nd=V12 r.nd t sp n):(L.set i x).map (·.nd)=Vj (L.map (·.nd)) i t sp n:=by
 unfold Vj;apply U46;intro j;rw[U1m,U3s,U1m,U2n];by_cases e:i=j;subst e;have dO:=(U16.1 hr).1;simp[dO,hr,hx];have:=(U16.1 hr).2;rw[this]
 simp[e]
theorem Old(table:Nat)(w:Pl.Bs)(a b:Nat)(rest:List Pl.KW)(into d:Nat)(st:Ve) :
    V3j table ((w,a,b)::rest) into d st=match V16 st into w with
    |.non => .non
    |.yes i =>
     match rest with
     |[] => .bad 5 a
     |_::_=>if V2y st i=table+1 then V3j table rest i (d+1) st else .bad 5 a
    |.no =>
     match rest with
     |[] => .ok (into,d,st)
     |_::_ =>
      if 256<d+1 then .bad 4 a else
      if Pl.kind8 st into&&Pl.room st then V3j table rest st.length (d+1) (Vj (st++[V1s (table+1)]) into w (a,b) st.length) else .non:=by
 rw[V3j.eq_def];dsimp only;cases V16 st into w <;> cases rest <;> rfl
def Vhk(s:ByteArray)(R B base:Nat)(root:Int)(own:Nat->Nat)(w:World)(z0 bF bK gk gs ck cs table:Nat)(ws:List Pl.KW)(Y:Va (Nat×Nat×Ve))(v3 v8 y9 BX:Value)(m:Nat)(wr:World):Prop :=
 ∃(done rest:List Pl.KW)(j into d:Nat)(nv':Value)(L':List NdR)(own':Nat->Nat),v3=.int .i64 d/\v8=.int .i64 m/\y9=.int .i64 into/\BX=.int .i64 j/\done.length=j/\ws=done++rest/\rest≠[]/\d<=256+j /\
  RdV wr R B base s root nv' L' own'/\V3j table rest into d (L'.map (·.nd))=Y/\V5i bF bK gk gs ck cs ws wr/\GW Tb base wr/\St (FV own) (FV own') w wr/\(∀k,own' k≠0->own k≠0\/z0<=k)/\z0<=wr.heap.size
theorem Ogh(E:V19)(hE:O2r Tb E)(w:World)(R B base:Nat)(s:ByteArray)(root:Int)(V:V2c)(hV:O6e Tb s R B base root V)(nv:Value)(L:List NdR)(own:Nat->Nat)(h:RdV w R B base s root nv L own)(hg:GW Tb base w)(hs:s.size<=20000000)(table d n:Nat)(hn:n<=s.size)(hd:d<=256)(ht:table<=30000000)(ws:List Pl.KW)(m:Nat)(hX:V23 E (bs s) n=.ok (ws,m))(X:Va (Nat×Ve))(ag:V1g E V (bs s) table n d (L.map (·.nd))=X)(a8:X≠.non):Calls prog 76 #[.pointer (some ⟨R,0,none⟩),table,n,d] w (O7s s R B base root own w X):=by
 obtain⟨c0,c1,c2,c3,fz⟩:=h.cells;have hR:=h.R_lt;have HQ:=U10 (λ W (g:Gr w W)=>O4w Tb E hE s n n rfl hn hs _ hX Yb W (hg.q.gr g));unfold V1g at ag;rw[hX]at ag;simp only at ag;have H:=U10 h;have HG:=U10 hg;have HV:=U10 hV;obtain⟨Y,hY⟩:=ExZ (V3j table ws table d (L.map (·.nd)))
 rw[hY]at ag;have BY:Y≠.non:=by
  intro e;rw[e]at ag;exact a8 ag.symm
 have HX:=U10 ag;have HN:=U10 a8;have th:=U10 BY;have HY:=U10 hY;clear fz c0 c1 c3 h hX hg hV ag a8 BY hY;go_enter func76,ntmps76;go_wp2_with fail;refine (HQ.o _ Gr.auto).mono ?_;rintro e w1 ⟨kv,sv,rfl,hm,gl,cK,ed,rY,g1⟩;obtain⟨gk,gs,ck,cs,rfl,rfl,fp,dh,BZ,yc,aD⟩:=O9o gl cK rY;simp only[U1s]at fp dh;have ax:=g1.size;simp only[U1s]at ax;have d9:=(FX.new w (0:Int) (0:Int) 29).gr g1;have BC:V5i w.heap.size w1.heap.size gk gs ck cs ws (w1.alloc (.cells #[.slice gk ws.length ck,.slice gs ws.length cs] 42)):=by
  have ga:=(Gr.refl w1).alloc (.cells #[.slice gk ws.length ck,.slice gs ws.length cs] 42);refine⟨d9.gr ga,Yb,Yb,Yb,Ye,Ye,λ j t a b hj=>?_⟩;obtain⟨a1,a2,a3⟩:=aD j t a b hj;exact⟨(ga.use.1 _ _ BZ).trans a1,(ga.use.1 _ _ yc).trans a2,(ga.use.1 _ _ yc).trans a3⟩
 obtain⟨f1,f2,f3,f4⟩:=BC.f;have cx:Gr w (w1.alloc (.cells #[.slice gk ws.length ck,.slice gs ws.length cs] 42)):=(((Gr.refl w).alloc _).trans g1).alloc _;have Md:=U10 (BC.setF Ya Ya Ya);have bC:=U10 (Gr.setCell (p:=⟨w,1,none⟩) (Gr.setCell (p:=w) cx (U12 _) (0:Int)) (U12 _) (0:Int));clear aD gl cK BC cx;go_wp2_with fail;refine Z153 ?_;intro w2 g2;have HK:=U10 (Md.o.gr g2);have hG:=bC.o.trans g2;clear g2 bC Md f1 f2 f3 f4 d9 g1 BZ yc;have EU:=HK.o;obtain⟨k0,k1⟩:=(show _/\_ from ⟨EU.k0,EU.k1⟩)
 have lh:=EU.kl;obtain⟨la,eu⟩:∃la,ws.length=la+1:=⟨ws.length-1,Ya⟩
 have Ai:IntKind.i64.wrap ((ws.length:Int)-1)=(la:Int):=by rw[U1i _ ⟨Ya,Ya⟩];omega
 clear EU;have eC:=U10 eu;clear eu;go_wp2_with fail;have bO:¬FV own w.heap.size:=H.o.not_new (U12 _);have EV:¬FV own w1.heap.size:=H.o.not_new Ya;have tN:¬FV own gk:=H.o.not_new Ya;have tO:¬FV own gs:=H.o.not_new Ya;have eh:St (FV own) (FV own) w w2:=St.auto
 go_loopw [3,8,12,40] (λ v3 v8 y9 BX wr=>Vhk s R B base root own w w2.heap.size w.heap.size w1.heap.size gk gs ck cs table ws Y v3 v8 y9 BX m wr) (λ _ _ _ BX _=>ws.length-(intOf BX).toNat)
 case atStart =>
  exact⟨[],ws,0,table,d,nv,L,own,rfl,rfl,rfl,rfl,rfl,rfl,λ e=>by rw[e]at rY;simp at rY,Ya,H.o.gr hG,HY.o,HK.o,HG.o.gr hG,eh,λ k hk => .inl hk,U12 _⟩
 case round =>
  obtain⟨done,rest,j,into,d',nv',L',own',rfl,rfl,rfl,rfl,yd,mh,aF,ye,hr,nr,kI,mg,a9,bB,dL⟩:=hrel;obtain⟨tab,iR,rfl⟩:∃x l,rest=x::l:=List.exists_cons_of_ne_nil aF;obtain⟨t,a,b⟩:=tab;have yg:ws[j]?=some (t,a,b):=by rw[mh,<-yd];simp
  have Me:ws.length=j+1+iR.length:=by rw[mh];simp[yd];omega
  have B':la=j+iR.length:=by have:=eC.o;omega
  obtain⟨y1,y2,y3⟩:=kI.w j t a b yg;have i0:decide (j<ws.length)=true:=Ye;refine Z252 ?_;intro i1;have i2:(j:Int)<(ws.length:Int):=Ya;have Qk:=kI.k0;have Ql:=kI.k1;obtain⟨Qm,Qn,Qo,Qp,Qq⟩:=hr.cells;have av:=U10 hr;have j0:=U10 nr;have iC:=U10 kI;have mL:=U10 mg;have bv:=U10 a9;have cl:=U10 bB;have pU:=U10 mh;have I4:=U10 Me;have pV:=U10 B';have Aj:=U10 yg;clear hr nr kI mg a9 bB mh Me B' yg aF;go_wp2_with fail;have iu:bs (⟨t.toArray⟩:ByteArray)=t:=by simp[bs]
  have ew:=j0.o;rw[Old]at ew;cases hS:V16 (L'.map (·.nd)) into t with
  |non=>rw[hS]at ew;exact absurd ew.symm th.o
  |yes i =>
   rw[hS]at ew;refine (Oiu wr R B base s root nv' L' own' av.o into ⟨t.toArray⟩ (.yes i) (by rw[iu];exact hS) Yb).mono ?_;rintro e w3 ⟨he,rfl⟩;obtain rfl:e=.returned (.tuple #[.int .i64 i,.bool true]):=he;clear iu;cases iR with
   |nil =>
    simp only at ew;have vj:=U10 ew;clear ew hS;have b1:((j:Int)==(la:Int))=true:=by have:=pV.o;simp at this;simp;omega
    obtain⟨q0,q1,qf,ql⟩:=iC.o.f;exact J127
   |cons x lr =>
    simp only at ew;obtain⟨ri,fG⟩:∃ri,L'[i]?=some ri:=by
     have:i<(L'.map (·.nd)).length:=by
      unfold V16 at hS
      split at hS;cases hS
      split at hS;cases hS
      split at hS;cases hS
      split at hS
      ·cases hS;assumption
      cases hS
     rw[U1n]at this;exact⟨_,U1h this⟩
    have bB:V2y (L'.map (·.nd)) i=ri.nd.owner:=by unfold V2y;simp[fG]
    rw[bB]at ew;have b1:((j:Int)==(la:Int))=false:=by have:=pV.o;simp at this;simp;omega
    have bt:IntKind.i64.wrap ((table:Int)+1)=(table:Int)+1:=U1i _ ⟨Ya,Ya⟩;have I5:i<=9223372036854775807:=by
     have dO:=(U16.1 fG).1;obtain⟨g',pm,Qr,_,_,_,_,_,_,_,_,h8,h9,_⟩:=av.o.form Ya;unfold maxLen at h9;omega
    have C0:∀W,W.heap[B]?=wr.heap[B]?->(Instr.lookup 78 (.map (some B)) i false).run prog W=.ok ri.nd.owner W:=λ W hW=>av.o.look i I5 ri fG W hW
    have Qs:=C0 wr rfl;obtain⟨q0,q1,qf,ql⟩:=iC.o.f;by_cases ho:ri.nd.owner=table+1
    ·rw[U18 ho]at ew;have b2:((ri.nd.owner:Int) != ((table:Int)+1))=false:=by simp;omega
     have oP:=U10 ew;clear ew hS bB ho;go_wp2_with fail
     go_roundw
     case rel =>
      refine⟨done++[(t,a,b)],x::lr,j+1,i,d'+1,nv',L',own',Yb,rfl,rfl,Yb,by simp[yd],by rw[pU.o];simp,Yb,Ya,av.o,oP.o,iC.o,mL.o,bv.o,cl.o,dL⟩
     case measure=>have:=I4.o;simp[intOf];omega
    rw[U1b ho]at ew;have b2:((ri.nd.owner:Int) != ((table:Int)+1))=true:=Ye
    have vj:=U10 ew;clear ew hS bB ho;exact J127
  |no =>
   rw[hS]at ew;refine (Oiu wr R B base s root nv' L' own' av.o into ⟨t.toArray⟩ .no (by rw[iu];exact hS) Yb).mono ?_;rintro e w3 ⟨he,rfl⟩;obtain rfl:e=.returned (.tuple #[.int .i64 0,.bool false]):=he;clear iu hS;cases iR with
   |nil =>
    simp only at ew;have vj:=U10 ew;have b1:((j:Int)==(la:Int))=true:=by have:=pV.o;simp at this;simp;omega
    obtain⟨q0,q1,qf,ql⟩:=iC.o.f;have kJ:=HX.o;rw[<-ew]at kJ;simp only at kJ;obtain⟨e1,pW⟩:=ExZ (V7 (bs s) m)
    have I6:e1<=s.size:=by have:=V8 (bs s) m (by rw[O0];exact hm);rw[O0]at this;omega
    rw[pW]at kJ;clear ew;have vA:=U10 pW;clear pW;go_wp2_with fail;refine (Oa s m m rfl hm Ya _).mono ?_;rintro e w4 ⟨rfl,g4⟩;rw[vA.o];have oo:=av.o.gr g4;have pX:=iC.o.gr g4;obtain⟨tP,tQ,gO,tR,tS⟩:=oo.cells;have cG:=U10 oo;have pY:=U10 pX;have dU:=U10 kJ;clear oo pX kJ;go_wp2_with fail;refine (O25 w4 R s gO e1 e1 rfl).mono ?_;refine Z44 ?_;obtain⟨v0,v1,vf,vl⟩:=pY.o.f;have ls:=U10 (bv.o.gr g4);have I7:=U10 (mL.o.gr g4);have mZ:w2.heap.size<=w4.heap.size:=U1k dL g4.size;clear g4 q0 q1 qf ql Qm Qn Qo Qp Qq Qk Ql y1 y2 y3;by_cases hb:V9 (bs s) e1=61
    ·have kJ:=dU.o;rw[U18 hb]at kJ;have mP:e1<s.size:=U3a λ aQ=>by rw[O13 s e1 Ya]at hb;omega
     have bz:(((V9 (bs s) e1:Nat):Int) != 61)=false:=Ye;obtain⟨e2,yh⟩:=ExZ (V7 (bs s) (e1+1))
     have B9:e2<=s.size:=by have:=V8 (bs s) (e1+1) (by rw[O0];omega);rw[O0]at this;omega
     rw[yh]at kJ;have nZ:=U10 kJ;have Ba:=U10 yh;have Ur:IntKind.i64.wrap ((e1:Int)+1)=(e1:Int)+1:=U1i _ ⟨Ya,Ya⟩;have H6:j<=20000002:=by have:=I4.o;omega
     have Us:IntKind.i64.wrap ((d':Int)+1)=(d':Int)+1:=U1i _ ⟨Ya,Ya⟩;clear kJ hb yh;go_wp2_with fail;refine (Oa s _ (e1+1) Yb Ya Ya _).mono ?_;rintro e w6 ⟨rfl,g6⟩;rw[Ba.o];go_wp2_with fail;have zY:=cG.o.gr g6;have tU:=pY.o.gr g6;have xm:=I7.o.gr g6;have dx:=ls.o.gr g6;have sQ:w2.heap.size<=w6.heap.size:=U1k mZ g6.size;have eo:=nZ.o;cases hZ:V (d'+1) e2 (L'.map (·.nd)) with
     |non=>rw[hZ]at eo;exact absurd eo.symm HN.o
     |bad c p =>
      rw[hZ]at eo;simp only at eo;refine Z221 ?_;refine Z116 ?_;intro w7 hc F' ib xd;have jV:¬FV own' w.heap.size:=λ hf=>by
       rcases cl.o _ hf with e|e
       exact bO e
       have:=HK.o.f.2.2.2;omega
      have kK:=tU.f.st ib jV;have d5:=U10 (kK.set c p);have ij:=U10 (dx.trans ib);obtain⟨p0,p1,pf,pl⟩:=kK;have kR:¬(c:Int)=0:=Ya;have I8:=U10 eo;clear eo ib dx zY tU xm v0 v1 vf vl;go_wp2_with fail;refine Z231 ?_;intro w8 g8;obtain⟨u0,u1,uf,ul⟩:=d5.o.gr g8;have I9:=xd.o.gr g8;have tV:St (FV own) F' w w8:=(((ij.o.setCell (.inr (U12 _)) _).setCell (.inr (U12 _)) _)).gr g8;go_wp2_with fail
      go_region
      all_goals go_wp2_with fail
      rw[<-I8.o];exact U11 (v:=.tuple #[(0:Int),fv c p]) (by simp[results,results76,go_sem,u0,u1,uf,ul]) rfl ⟨rfl,hc,F',((tV.setCell (.inr (U12 _)) _).setCell (.inr (U12 _)) _).drew,((I9.set Ya _).set Ya _).drew⟩
     |ok r =>
      obtain⟨iv,n2,st2⟩:=r;rw[hZ]at eo;simp only at eo;have aZ:ws.getLast?=some (t,a,b):=by rw[pU.o];simp
      rw[aZ]at eo;simp only at eo;cases aX:Pl.kind8 st2 into with
      |false=>rw[aX,U1b Yb]at eo;exact absurd eo.symm HN.o
      |true =>
      rw[aX,U18 rfl]at eo;refine Z221 ?_;rintro e w7 ⟨rfl,l0,EW,Mf,L7,yi,Mg,Mh,ib,bQ⟩;have jV:∀k,k<w2.heap.size->¬FV own k->¬FV own' k:=λ k hk hn hf=>by
       rcases cl.o _ hf with e|e
       exact hn e
       omega
      have yj:=tU.st ib (jV _ HK.o.f.2.2.2 bO) (jV _ HK.o.kl EV) (jV _ HK.o.gkl tN) (jV _ HK.o.gsl tO);have fY:w2.heap.size<=w7.heap.size:=U1k sQ ib.size;have Qt:=U10 (yj.setF Ya Ya Ya);have ij:=U10 (dx.trans ib);have sR:=U10 Mg;have pZ:=U10 bQ;have I8:=U10 eo;have Mi:=U10 Mh;have uO:=U10 aX;obtain⟨p0,p1,pf,pl⟩:=yj.f;clear eo ib dx zY tU xm v0 v1 vf vl Mg bQ Mh aX yj;go_wp2_with fail;refine Z153 ?_;intro w8 g8;have C1:=Qt.o.gr g8;have Mj:¬FV yi w.heap.size:=λ hf=>by
       rcases pZ.o _ hf with e|e
       exact jV _ HK.o.f.2.2.2 bO e
       have:=HK.o.f.2.2.2;omega
      have Mk:=(((sR.o.setCell (p:=w) Mj (0:Int)).setCell (p:=⟨w,1,none⟩) Mj (0:Int)).gr g8).drew;have tV:=(((ij.o.setCell (p:=w) (.inr (U12 _)) (0:Int)).setCell (p:=⟨w,1,none⟩) (.inr (U12 _)) (0:Int)).gr g8).drew;have Ak:=U10 Mk;have iw:=U10 tV;clear Mk tV p0 p1 pf pl;go_wp2_with fail;have hS:=C1.gr (Gr.refl w8).drew;have Ml:la=j:=by have:=pV.o;simp at this;exact this
      have tW:=Aj.o;rw[<-Ml]at tW;have l1:(0:Int)<=(la:Int):=Ya;have l2:(la:Int)<(ws.length:Int):=by have:=eC.o;omega
      clear Ml;refine Reg.begin' (W:=λ _=>true) (S:=V5i w.heap.size w1.heap.size gk gs ck cs ws) Yc ?_;refine Z31 ?_;refine Reg.ty 4 ?_;refine Reg.ty 7 ?_;refine Reg.ty 9 ?_;refine Reg.ty 12 ?_;refine Reg.tl 3 hS ?_ (hy:=by intro w ab;obtain⟨Ia,Ib,Ic,Id,Ie,If,qw⟩:=ab;go_simp;try with_reducible rfl);refine Reg.ty 5 ?_;refine Reg.tl 6 hS ?_ (hy:=by intro w ab;obtain⟨x1,x2,x3⟩:=V5i.w ab la t a b tW;obtain⟨Ia,Ib,Ic,Id,Ie,If,qw⟩:=ab;go_simp;try with_reducible rfl);refine Reg.tl 8 hS ?_ (hy:=by intro w ab;obtain⟨x1,x2,x3⟩:=V5i.w ab la t a b tW;obtain⟨Ia,Ib,Ic,Id,Ie,If,qw⟩:=ab;go_simp;try with_reducible rfl);refine Reg.ty 10 ?_;refine Reg.tl 11 hS ?_ (hy:=by intro w ab;obtain⟨x1,x2,x3⟩:=V5i.w ab la t a b tW;obtain⟨Ia,Ib,Ic,Id,Ie,If,qw⟩:=ab;go_simp;try with_reducible rfl);refine Reg.on 13 ?_;go_simp;have aX:=uO.o;rw[<-Mi.o]at aX;obtain⟨ri,fG⟩:∃ri,L7[into]?=some ri:=by
       unfold Pl.kind8 at aX;rw[U1g,U1m]at aX
       replace aX:=aX.2
       cases hl:L7[into]? with
       |none=>rw[hl]at aX;cases aX
       |some ri=>exact⟨ri,rfl⟩
      unfold Pl.kind8 at aX;rw[U1g,U1m,fG]at aX;obtain⟨Ig,aX⟩:=aX;simp only[U29,U1g,U1x,U2w,U1n]at aX Ig;obtain⟨⟨⟨EX,Al⟩,EY⟩,EZ⟩:=aX;have E':∀k,k<w2.heap.size->¬FV own k->¬FV yi k:=λ k hk hn hf=>by
       rcases pZ.o _ hf with e|e
       exact jV k hk hn e
       omega
      refine (Oiq w8.drew R B base s root Mf L7 yi Ak.o Ig into ri fG EX Al EY EZ ⟨t.toArray⟩ a b iv).mono ?_;rintro e w9 ⟨rfl,yk,Ut,Uu,Uv,Mm,jh,vB⟩;have qa:=hS.st jh (E' _ HK.o.f.2.2.2 bO) (E' _ HK.o.kl EV) (E' _ HK.o.gkl tN) (E' _ HK.o.gsl tO);refine⟨by first|exact qa|exact λ _=>qa|exact λ _ _=>qa,?_⟩;refine Reg.pt ?_;refine Z12 ?_;obtain⟨p0,p1,pf,pl⟩:=qa.f;have C2:w2.heap.size<=w8.heap.size:=by have:=g8.size;simp[World.setCell]at this;omega
      have lu:∀k,yk k≠0->own k≠0\/w.heap.size+1<=k:=by
       intro k hk;rcases vB k hk with e|e
       rcases pZ.o k e with e|e
       rcases cl.o k e with e|e
       exact .inl e
       exact .inr (by have:=HK.o.f.2.2.2;omega)
       exact .inr (by have:=HK.o.f.2.2.2;omega)
       refine .inr ?_;have h1:w8.drew.heap.size=w8.heap.size:=rfl;have h2:=HK.o.f.2.2.2;omega
      have F1:¬FV yk w.heap.size:=λ hf=>by
       rcases lu _ hf with e|e
       exact bO e
       omega
      have Am:=U10 Mm;have eO:=U10 (iw.o.trans jh);have C3:=U10 lu;have Ih:=U10 fG;clear Mm jh vB lu fG EX Al EY EZ Ig qa hS C1;go_wp2_with fail
      go_region
      all_goals go_wp2_with fail
      rw[<-I8.o];refine U11 (v:=.tuple #[n2,f0]) (by simp[results,results76,go_sem,p0,p1,pf,pl]) rfl ⟨rfl,l0,Mf,_,yk,((Am.o.setCell F1 _).setCell F1 _).drew,?_,((eO.o.setCell (.inr (U12 _)) _).setCell (.inr (U12 _)) _).drew,λ k hk=>(C3.o k hk).imp id (λ e=>by omega)⟩;rw[O7g _ into ri t (a,b) iv _ Ih.o (by simp[bs]),Mi.o]
    have kJ:=dU.o;rw[U1b hb]at kJ;have bz:(((V9 (bs s) e1:Nat):Int) != 61)=true:=Ye;have nZ:=U10 kJ;clear kJ hb;go_wp2_with fail;refine (O3s e1 e1 rfl _).mono ?_;rintro e w6 ⟨rfl,g6⟩;obtain⟨u0,u1,uf,ul⟩:=pY.o.f.gr g6;have dx:=ls.o.gr g6;go_wp2_with fail;rw[<-nZ.o];exact U11 (v:=.tuple #[(0:Int),fv 3 e1]) (by simp[results,results76,go_sem,u0,u1,uf,ul]) rfl ⟨rfl,Ya,FV own',((dx.setCell (.inr (U12 _)) _).setCell (.inr (U12 _)) _),(((cG.o.rk.gr g6).set Ya _).set Ya _)⟩
   |cons x lr =>
    simp only at ew;have b1:((j:Int)==(la:Int))=false:=by have:=pV.o;simp at this;simp;omega
    obtain⟨q0,q1,qf,ql⟩:=iC.o.f;by_cases gQ:256<d'+1
    ·rw[U18 gQ]at ew;have b2:decide ((256:Int)<(d':Int)+1)=true:=by simp;omega
     have vj:=U10 ew;clear ew gQ;go_wp2_with fail
     go_region
     all_goals go_wp2_with fail
     have A6:X=.bad 4 a:=by have:=HX.o;rw[<-vj.o]at this;exact this.symm
     rw[A6];exact U11 (v:=.tuple #[(0:Int),fv 4 a]) (by simp[results,results76,go_sem,q0,q1,qf,ql]) rfl ⟨rfl,Ya,FV own',((bv.o.setCell (.inr (U12 _)) _).setCell (.inr (U12 _)) _).drew,((av.o.rk.set Ya _).set Ya _).drew⟩
    rw[U1b gQ]at ew;have b2:decide ((256:Int)<(d':Int)+1)=false:=Ye
    split at ew
    ·rename_i gl
     simp only[U1g]at gl;have vj:=U10 ew;have Ii:=U10 gl;clear ew gQ gl;go_wp2_with fail;refine (Od4 wr R B base s root nv' L' own' av.o Ii.o.2 (-1) (-1)).mono ?_;rintro e w4 ⟨rfl,Ij,qb,oo,ym,vC⟩;have qd:∀k,k<w2.heap.size->¬FV own k->¬FV own' k:=λ k hk hn hf=>by
      rcases cl.o k hf with e|e
      exact hn e
      omega
     have pX:=iC.o.st ym (qd _ HK.o.f.2.2.2 bO) (qd _ HK.o.kl EV) (qd _ HK.o.gkl tN) (qd _ HK.o.gsl tO);obtain⟨tP,tQ,gO,tR,tS⟩:=oo.cells;have cG:=U10 oo;have ls:=U10 ym;have vD:=U10 vC;have pY:=U10 pX;clear oo ym vC pX;have bt:IntKind.i64.wrap ((table:Int)+1)=(table:Int)+1:=U1i _ ⟨Ya,Ya⟩;obtain⟨D,C4,Mn⟩:=cG.o.map;have Ik:=U10 C4;have Qu:=U10 Mn;have vz:L'.length<=20000000:=by have:=Ii.o.2;simpa [Pl.room]using this
     have Il:V4t (L'++[V5s (-1) (-1)])<maxLen:=by have:=On0 (L'++[V5s (-1) (-1)]);simp at this;unfold maxLen;omega
     clear C4 Mn;have jW:∀k,k<w2.heap.size->¬FV own k->¬FV qb k:=λ k hk hn hf=>by
      rcases vD.o k hf with e|e
      exact qd k hk hn e
      omega
     have C5:=jW _ HK.o.f.2.2.2 bO;have C6:=jW _ HK.o.kl EV;have C7:=jW _ HK.o.gkl tN;have C8:=jW _ HK.o.gsl tO;have yn:Hid (∀w5,w5.ownsMap prog 3 (plainElem (H:=Unit) prog 3) B (V4t (L'++[V5s (-1) (-1)])+1) (D.put (.int .i64 (L'.length:Int)) (.lit (.int .i64 ((table:Int)+1))))->w4.grownBy w5 (some B)->RdV w5 R B base s root Ij ((L'++[V5s (-1) (-1)]).set L'.length (V7i (V5s (-1) (-1)) (table+1))) qb/\St (FV qb) (FV qb) w4 w5) :=
      λ w5 ho hg=>cG.o.owned L'.length (V5s (-1) (-1)) Yb rfl (table+1) Ya Ya D Qu.o ho hg
     have Im:(Lit.int .i64 (L'.length:Int)).wf=true:=by simp[Lit.wf,IntKind.min,IntKind.max,IntKind.signed,IntKind.bits];omega
     have In:(Lit.int .i64 ((table:Int)+1)).wf=true:=by simp[Lit.wf,IntKind.min,IntKind.max,IntKind.signed,IntKind.bits];omega
     go_wp2_with (first|(at_mapUpdate;refine wpList_mapUpdate_own _ rfl _ _ _ 78 rfl 3 3 (Maps.int_keyed underlying3) underlying78 (plainElem (H:=Unit) prog 3) B (V4t (L'++[V5s (-1) (-1)])) D rfl Ik.o Il (.int .i64 (L'.length:Int)) (.int .i64 ((table:Int)+1)) (.int .i64 (L'.length:Int)) rfl rfl (U4k underlying3 Im) (.lit (.int .i64 ((table:Int)+1))) [] (plainElem_int underlying3 In) ?_;intro w5 en qe;have h5:=U10 (yn.o w5 en qe);have yo:=U10 (pY.o.st h5.o.2 C5 C6 C7 C8);clear en qe;have z1:=yo.o.k1;obtain⟨_,z2,z3⟩:=yo.o.w j t a b Aj.o));have aX:=Ii.o.1;obtain⟨ri,fG⟩:∃ri,L'[into]?=some ri:=by
      unfold Pl.kind8 at aX;rw[U1g,U1m]at aX
      replace aX:=aX.2
      cases hl:L'[into]? with
      |none=>rw[hl]at aX;cases aX
      |some ri=>exact⟨ri,rfl⟩
     have dO:=(U16.1 fG).1;unfold Pl.kind8 at aX;rw[U1g,U1m,fG]at aX
     replace aX:=aX.2
     simp only[U29,U1g,U1x,U2w]at aX;obtain⟨⟨⟨EX,Al⟩,EY⟩,EZ⟩:=aX;have Qv:(L'++[V5s (-1) (-1)]).set L'.length (V7i (V5s (-1) (-1)) (table+1))=L'++[V7i (V5s (-1) (-1)) (table+1)]:=by
      rw[U4i _ _ (U12 _)];simp
     have uP:=h5.o.1;rw[Qv]at uP;refine (Oiq w5 R B base s root Ij _ qb uP Ye into ri (by rw[U1d dO];exact fG) EX Al EY EZ ⟨t.toArray⟩ a b L'.length).mono ?_;rintro e w6 ⟨rfl,Io,Uw,Ux,Uy,zY,dx,vE⟩;have kP:=U10 zY;have ik:=U10 dx;have C9:=U10 vE;clear uP zY dx vE;go_wp2_with fail
     go_roundw
     case rel =>
      have mi:=h5.o.2;refine⟨done++[(t,a,b)],x::lr,j+1,L'.length,d'+1,Ij,_,Io,Yb,rfl,rfl,Yb,by simp[yd],by rw[pU.o];simp,Yb,Ya,kP.o,?_,?_,?_,?_,?_,?_⟩;rw[O7g _ into ri t (a,b) L'.length _ (by rw[U1d dO];exact fG) (by simp[bs]),U2o];rw[U1n]at vj;exact vj.o;exact yo.o.st ik.o C5 C6 C7 C8;exact ((mL.o.st ls.o (λ k hk=>(av.o.lt k hk).1)).st mi (λ k hk=>(cG.o.lt k hk).1)).st ik.o (λ k hk=>(cG.o.lt k hk).1);exact ((bv.o.trans ls.o).trans mi).trans ik.o
      intro k hk;rcases C9.o k hk with e|e
      rcases vD.o k e with e|e
      exact cl.o k e
      exact J64
      exact .inr (by have:=ls.o.size;have:=mi.size;omega)
      have:=ls.o.size;have:=mi.size;have:=ik.o.size;omega
     case measure=>have:=I4.o;simp[intOf];omega
    exact absurd ew.symm th.o
