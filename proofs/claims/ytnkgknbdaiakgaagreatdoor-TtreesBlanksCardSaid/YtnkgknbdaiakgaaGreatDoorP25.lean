/- The proof's part 25. -/
import Derived.Test.YtnkgknbdaiakgaaGreatDoorP16
import Derived.Test.YtnkgknbdaiakgaaGreatDoorP23
set_option maxHeartbeats 16000000
set_option linter.all false
set_option maxRecDepth 100000
namespace Go.Proofs.YtnkgknbdaiakgaaGreatDoor
open Pl Go.Proofs.Tryz Go.RowKit Go.Joins
def Oaz(long:Bool)(q:UInt8):TypeId:=if long then (if q.toNat==39 then 171 else 172) else (if q.toNat==39 then 169 else 170)
theorem O6e(s:ByteArray)(i:Int)(n:Nat)(hi:i=n)(hn:n<s.size)(hs:s.size<=20000000)(long:Bool)(hl:V3r (bs s) n=long)(w:World) :
    Calls prog 64 #[.string s,i] w λ e w'=>e = .returned (.tuple #[.pointer (some ⟨w.heap.size,0,none⟩),.iface (Oaz long s[n]) (.agg #[.pointer (some ⟨w.heap.size,0,none⟩)])]) /\
     RdQ w' w.heap.size s (n+if long then 3 else 1) s[n] [] (.slice none 0 0)/\Gr w w':=by
 subst hi;have HL:=U0 hl;clear hl;refine Z228 ?_;intro bx cb;unfold Oaz;cases long
 ·cases n9:(s[n].toNat==39)
  all_goals
   obtain⟨b1,b2⟩:=V1o _ 39 _ n9;clear n9;go_enter func64,ntmps64;go_wp2_with (go_at_call 38;refine (O2b s _ n rfl (by omega) hs _).mono ?_;rw[HL.o];rintro e w1 ⟨rfl,rfl⟩)
   go_ret2
   refine⟨rfl,⟨?_,World.ownsRow_nil _ _ _ _⟩,Gr.auto⟩
   simpa using U10 w (.cells #[.string s,.int .i64 (n+1:Nat),Ob s[n],.slice none 0 0] 136)
 cases n9:(s[n].toNat==39)
 all_goals
  obtain⟨b1,b2⟩:=V1o _ 39 _ n9;clear n9;go_enter func64,ntmps64;go_wp2_with (go_at_call 38;refine (O2b s _ n rfl (by omega) hs _).mono ?_;rw[HL.o];rintro e w1 ⟨rfl,rfl⟩)
  go_ret2
  refine⟨rfl,⟨?_,World.ownsRow_nil _ _ _ _⟩,Gr.auto⟩
  simpa using U10 w (.cells #[.string s,.int .i64 (n+3:Nat),Ob s[n],.slice none 0 0] 136)
namespace Pl
def V17(T:Nat->UInt8×UInt8)(long:Bool)(q:UInt8)(l:List UInt8):Option SR :=
 if long then (if q.toNat==39 then some (V2q q l) else some (V30 T q l)) else (if q.toNat==39 then some (V4k q l) else V4d T q l)
def V2m(step:List UInt8->Option SR)(l:Bs):Nat->Nat->Bs->Va (Bs×Nat)
 |0,_,_ => .non
 |f+1,n,out =>
  match l.drop n with
  |[] => .bad 3 l.length
  |c::r =>
   match step (c::r) with
   |none => .non
   |some (.bad p) => .bad 3 (n+p)
   |some (.go m t over)=>if over then .ok (out++t,n+m) else V2m step l f (n+m) (out++t)
def Vj(T:Nat->UInt8×UInt8)(l:Bs):Va (Bs×Nat) :=
 match l with
 |[] => .bad 3 0
 |c::r =>
  if (c.toNat==34 || c.toNat==39)=true then
   if long (c::r) then
    match feed ((c::r).drop 3) with
    |.bad k p => .bad k (3+p)
    |.ok m=>V2m (V17 T true c) (c::r) ((c::r).length+2) (3+m) []
   else V2m (V17 T false c) (c::r) ((c::r).length+2) 1 []
  else .bad 3 0
theorem O33(l:List UInt8)(m:Nat)(t:List UInt8)(o:Bool)(h:V2v l = .go m t o):t.length<=m/\1<=m/\m<=l.length:=by
 cases l with
 |nil=>simp[V2v]at h
 |cons c r =>
  unfold V2v at h;by_cases hp:V3v c=true;simp only[hp,U1j,SR.go.injEq]at h;obtain⟨rfl,rfl,rfl⟩:=h;simp
  simp only[hp,U1d]at h;cases h
theorem Ogo(q:UInt8)(c:UInt8)(r:List UInt8)(hc:(c.toNat==q.toNat)=true)(m:Nat)(t:List UInt8)(o:Bool)(h:V3i q (c::r) = .go m t o):t.length<=m/\1<=m/\m<=(c::r).length:=by
 have h1:=Ogk q (c::r);have h2:1<=run q (c::r):=by unfold run;rw[Uo,Ua hc];simp
 unfold V3i at h;dsimp only at h;have h3:O1q q (c::r)<=run q (c::r)/\1<=O1q q (c::r):=by unfold O1q;omega
 split at h;cases h;simp at h1⊢;omega
 cases h;simp at h1⊢;omega
theorem Oda(q:UInt8)(l:List UInt8)(m:Nat)(t:List UInt8)(o:Bool)(h:V4k q l = .go m t o):t.length<=m/\1<=m/\m<=l.length:=by
 cases l with
 |nil=>simp[V4k]at h
 |cons c r =>
  unfold V4k at h;dsimp only at h
  split at h;cases h;simp
  exact O33 _ _ _ _ h
theorem Odb(T)(q:UInt8)(l:List UInt8)(m:Nat)(t:List UInt8)(o:Bool)(h:V4d T q l=some (.go m t o)):t.length<=m/\1<=m/\m<=l.length:=by
 cases l with
 |nil=>simp[V4d]at h
 |cons c r =>
  unfold V4d at h;dsimp only at h
  split at h;cases h;simp
  split at h;simp only[Uc]at h;exact O2v _ _ _ _ _ h
  simp only[Uc]at h;exact O33 _ _ _ _ h
theorem O3t(q:UInt8)(l:List UInt8)(m:Nat)(t:List UInt8)(o:Bool)(h:V2q q l = .go m t o):t.length<=m/\1<=m/\m<=l.length:=by
 unfold V2q at h
 split at h
 rename_i x hx
 subst h;cases l with
 |nil=>simp[V1e]at hx
 |cons c r =>
  unfold V1e at hx;dsimp only at hx
  split at hx;rename_i hc;simp only[Uc]at hx;exact Ogo q c r hc m t o hx
  split at hx;cases hx
  rename_i n hf
  have:=V3s _ _ hf;cases hx;refine⟨by rw[U17];omega,by omega,this⟩
  cases hx
 exact O33 _ _ _ _ h
theorem O7x(T)(q:UInt8)(l:List UInt8)(m:Nat)(t:List UInt8)(o:Bool)(h:V30 T q l = .go m t o):t.length<=m/\1<=m/\m<=l.length:=by
 unfold V30 at h
 split at h
 rename_i x hx
 subst h;exact O3t q l m t o (by unfold V2q;rw[hx])
 split at h;cases h
 rename_i c r _
 split at h
 split at h;exact O2v _ _ _ _ _ h
 split at h;obtain⟨h1,h2,h3,_⟩:=V4p _ _ _ _ (by simp) h;exact⟨h1,h2,h3⟩
 exact O2v _ _ _ _ _ h
 exact O33 _ _ _ _ h
theorem V3c(T)(long:Bool)(q:UInt8)(l:List UInt8)(m:Nat)(t:List UInt8)(o:Bool)(h:V17 T long q l=some (.go m t o)):t.length<=m/\1<=m/\m<=l.length:=by
 unfold V17 at h
 split at h
 split at h;simp only[Uc]at h;exact O3t _ _ _ _ _ h
 simp only[Uc]at h;exact O7x _ _ _ _ _ _ h
 split at h;simp only[Uc]at h;exact Oda _ _ _ _ _ h
 exact Odb _ _ _ _ _ _ h
end Pl
def O4t(long:Bool)(q:UInt8):FuncId:=if long then (if q.toNat==39 then 248 else 251) else (if q.toNat==39 then 239 else 242)
theorem O6f(long:Bool)(q:UInt8)(w:World)(R:Nat)(s:ByteArray)(a:Nat)(out:List UInt8)(ov:Value)(h:RdQ w R s a q out ov)
    (aa:a<s.size)(hs:s.size<=20000000)(ho:out.length<=a)(T:Nat->UInt8×UInt8)(hQ:QW T w)(sr:Pl.SR)(cQ:V17 T long q ((bs s).drop a)=some sr) :
    Calls prog (O4t long q) #[.agg #[.pointer (some ⟨R,0,none⟩)]] w (O18 R s a q out ov w sr):=by
 unfold V17 at cQ;unfold O4t
 split at cQ
 rename_i hl
 split at cQ
 rename_i hq
 simp only[Uc]at cQ;rw[Ua hl,Ua hq,<-cQ];exact O5o w R s a q out ov h aa hs ho
 rename_i hq
 simp only[Uc]at cQ;rw[Ua hl,Ud hq,<-cQ];exact O6u w R s a q out ov h aa hs ho T hQ
 rename_i hl
 split at cQ
 rename_i hq
 simp only[Uc]at cQ;rw[Ud hl,Ua hq,<-cQ];exact O7r w R s a q out ov h aa hs ho
 rename_i hq
 rw[Ud hl,Ud hq];exact Oal w R s a q out ov h aa hs ho T hQ sr cQ
def V9l(R:Nat)(w:World):Nat:=match w.cell? ⟨R,1,none⟩ with
 |some (.int _ n)=>n.toNat
 |_=>0
theorem O91{w R s a q out ov}(h:RdQ w R s a q out ov):V9l R w=a:=by
 unfold V9l;rw[h.cells.2.1];simp
def O7b(s:ByteArray)(n:Nat)(w:World)(x:Va (Pl.Bs×Nat))(e:Ending)(w':World):Prop :=
 match x with
 |.non=>True
 |.ok (t,m)=>e = .returned (.tuple #[V3a t,.int .i64 (n+m:Nat),f0])/\n+m<=s.size/\1<=m/\Gr w w'
 |.bad c p=>e = .returned (.tuple #[.string ⟨#[]⟩,(0:Int),fv c (n+p)])/\c≠0/\Gr w w'
theorem Odc(long:Bool)(q:UInt8)(a:Addr)(w:World):(method 433 (Oaz long q) (.agg #[.pointer (some a)]) "inarch/tquotes.step").run prog w = .ok (O4t long q,.agg #[.pointer (some a)]) w:=by
 unfold Oaz O4t;cases long <;> cases (q.toNat==39) <;> kernel_rfl
theorem Odd(long:Bool)(q:UInt8):∀args w,(callFunc (O4t long q) args).run prog w = .ok (.enter (O4t long q) args) w:=by
 unfold O4t;cases long <;> cases (q.toNat==39);exact enters_of func242 (by kernel_rfl) rfl;exact enters_of func239 (by kernel_rfl) rfl;exact enters_of func251 (by kernel_rfl) rfl
 exact enters_of func248 (by kernel_rfl) rfl
theorem O7y(s:ByteArray)(i:Int)(n:Nat)(hi:i=n)(hn:n<=s.size)(hs:s.size<=20000000)(h:∀h:n<s.size,(s[n].toNat==34 || s[n].toNat==39)=false)(w:World) :
    Calls prog 40 #[.string s,i] w λ e w'=>e = .returned (.tuple #[.string ⟨#[]⟩,(0:Int),fv 3 n])/\Gr w w':=by
 subst hi;have Be:decide ((n:Int)<0)=false:=by simp
 have ky:decide ((s.size:Int)<(n:Int))=false:=by simp;omega
 by_cases aa:n<s.size
 have h2:=h aa;rw[Bool.or_eq_false_iff]at h2;have c1:((s[n].toNat:Int) != 34)=true:=(V1o _ 34 _ h2.1).2;have c2:((s[n].toNat:Int) != 39)=true:=(V1o _ 39 _ h2.2).2;have he:((n:Int)==(s.size:Int))=false:=by simp;omega
 clear h h2;refine Z228 ?_;intro bx cb;exact J140
 have he:((n:Int)==(s.size:Int))=true:=by simp;omega
 clear h;exact J140
theorem Oj7{w:World}{base:Nat}{ov:Value}{out:List UInt8}(h:w.ownsRow base 5 1 ov out.length (out.map Ob)):(convert 22 9 ov).run prog w = .ok (V3a out) w:=by
 refine Z71 ?_;intro e0;rcases h.2 with⟨rfl,hn⟩|⟨g,cap,cur,rfl,cR,wT,h1,h2,h3,h4⟩
 rw[run_convert_bytes_nil w 22 5 underlying22 underlying5 0 0 9 underlying9];obtain rfl:out=[]:=U1z hn;rfl
 rw[U3e w 22 5 underlying22 underlying5 g 0 out.length cap (out.map λ x=>(x.toNat:Int)) (by simp) (λ i hi=>?_) 9 underlying9,e0];have:=h.cells (g:=g) rfl i (Ob (out[i])) (by simp[hi]);rw[U3b]at this;rw[this];simp[List.getD,hi]
namespace Pl
theorem V7q(step:List UInt8->Option SR)(l:Bs)(f n:Nat)(out:Bs)(X:Va (Bs×Nat))(h:V2m step l (f+1) n out=X)(a8:X ≠ .non)(hn:n<l.length) :
    ∃sr,step (l.drop n)=some sr/\match sr with
     |.bad p => .bad 3 (n+p)=X
     |.go m t over=>(if over=true then .ok (out++t,n+m) else V2m step l f (n+m) (out++t))=X:=by
 unfold V2m at h;obtain⟨c,r,zM⟩:∃c r,l.drop n=c::r:=⟨_,_,Uw hn⟩
 rw[zM]at h⊢;dsimp only at h;cases hs:step (c::r) with
 |none=>rw[hs]at h;exact absurd h.symm a8
 |some sr =>
  rw[hs]at h;refine⟨sr,rfl,?_⟩;cases sr with
  |bad p=>exact h
  |go m t over=>exact h
theorem V86(step:List UInt8->Option SR)(l:Bs)(f n:Nat)(out:Bs)(X:Va (Bs×Nat))(h:V2m step l f n out=X)(a8:X ≠ .non)(hn:¬n<l.length) : .bad 3 l.length=X:=by
 cases f with
 |zero=>exact absurd h.symm a8
 |succ f =>
  unfold V2m at h;rw[Ut (by omega)]at h;exact h
end Pl
inductive V62 (s:ByteArray)(n:Nat):Bool->Nat->Prop where
 |short:V62 s n false (n+1)
 |feed (m:Nat):n+3<s.size->Pl.feed ((bs s).drop (n+3)) = .ok m->V62 s n true (n+3+m)
 |none:n+3=s.size->V62 s n true (n+3)
theorem O4u(T:Nat->UInt8×UInt8)(s:ByteArray)(i:Int)(n:Nat)(hi:i=n)(hn:n<s.size)(hs:s.size<=20000000)(hq:(s[n].toNat==34 || s[n].toNat==39)=true)(long:Bool)(hl:V3r (bs s) n=long)
    (a0:Nat)(hf:V62 s n long a0)(SV:a0<=s.size)(f:Nat)(X:Va (Pl.Bs×Nat))(hX:V2m (V17 T long s[n]) ((bs s).drop n) f (a0-n) []=X)(a8:X ≠ .non)(w:World)(hQ:QW T w) :
    Calls prog 40 #[.string s,i] w (O7b s n w X):=by
 subst hi;have Be:decide ((n:Int)<0)=false:=by simp
 have ky:decide ((s.size:Int)<(n:Int))=false:=by simp;omega
 have he:((n:Int)==(s.size:Int))=false:=by simp;omega
 refine Z228 ?_;intro bx cb;have HX:=U0 hX;have rh:=U0 hQ;clear hQ;have HL:=U0 hl;obtain⟨q,oF⟩:=ExZ (s[n])
 have HQ:=U0 oF;rw[oF]at hq;have KP:=U0 hq;clear hX hl oF hq;rw[HQ.o]at HX;have P9:=Odc long q ⟨w.heap.size+1,0,none⟩;have sW:=Odd long q;refine Z159 ?_;intro jI;have Ef:n+3<s.size->decide ((n:Int)+3<(s.size:Int))=true:=λ h=>by simp;omega
 rcases jI with⟨c1,c2⟩|c1
 all_goals
  cases hf with
  |short =>
   clear Ef;go_enter func40,ntmps40;go_wp2_with (first|(go_at_call 38;refine (O2b s _ n rfl (by omega) hs _).mono ?_;rw[HL.o];rintro e w1 ⟨rfl,rfl⟩)|(go_at_call 64;refine (O6e s _ n rfl hn hs _ HL.o _).mono ?_;rw[HQ.o];rintro e w1 ⟨rfl,aU,g1⟩;simp only[Uv,U11,U1d,U1j]at aU;obtain⟨d0,d1,d2,d3,dz⟩:=aU.cells;have aL:=U0 aU;clear aU;obtain⟨ah,ar,ay⟩:=g1.use;simp at ay));have aJ:=aL.o.lt
   go_loopw [12] (λ _ wr=>∃(k a:Nat)(out:List UInt8)(ov:Value),RdQ wr (w.heap.size+1) s a q out ov/\V2m (V17 T false q) ((bs s).drop n) k (a-n) out=X/\n<a/\a<=s.size/\out.length<=a/\Gr w wr/\w.heap.size+2<=wr.heap.size /\
       wr.cell? ⟨w.heap.size,0,none⟩=some (.int .i64 0)/\wr.cell? ⟨w.heap.size,1,none⟩=some (.int .i64 0)/\wr.frozen? ⟨w.heap.size,0,none⟩=false/\wr.frozen? ⟨w.heap.size,1,none⟩=false) (λ _ wr=>s.size-V9l (w.heap.size+1) wr)
   case atStart =>
    refine⟨f,n+1,[],_,aL.o,HX.o,by omega,by omega,by simp,Gr.auto,by omega,(ah _ _ (by simp)).trans (by simp),(ah _ _ (by simp)).trans (by simp),(ar _ _ (by simp)).trans (by simp[go_sem]),(ar _ _ (by simp)).trans (by simp[go_sem])⟩
   case round =>
    obtain⟨k,a,out,ov,hr,hx,KX,ND,AT,hg,hz,m0,m1,m2,m3⟩:=hrel;obtain⟨e0,e1,e2,e3,ez⟩:=hr.cells;have eu:=O91 hr;have HP:=U0 eu;have HR:=U0 hr;have dX:=U0 hx;clear hr hx d0 d1 d2 d3 dz e3 eu;by_cases aa:a<s.size
    ·obtain⟨k,rfl⟩:∃k',k=k'+1:=by
      cases k with
      |zero=>exact absurd dX.o.symm a8
      |succ k=>exact⟨k,rfl⟩
     refine Z232 ?_;intro sr sj ko;go_wp2_with fail;cases sr with
     |bad p =>
      refine (O6f false q _ _ s a out ov HR.o aa hs AT T (rh.o.gr hg) _ sj.o).mono ?_;exact J118
     |go m t over =>
      have jK:=V3c _ _ _ _ _ _ _ sj.o;rw[U3,O0]at jK;refine (O6f false q _ _ s a out ov HR.o aa hs AT T (rh.o.gr hg) _ sj.o).mono ?_;exact J105
    exact J34
  |feed Eg h1 h2 =>
   have rx:=Ef h1;have GR:=U0 h2;clear Ef h2;go_enter func40,ntmps40;go_wp2_with (first|(go_at_call 38;refine (O2b s _ n rfl (by omega) hs _).mono ?_;rw[HL.o];rintro e w1 ⟨rfl,rfl⟩)|(go_at_call 64;refine (O6e s _ n rfl hn hs _ HL.o _).mono ?_;rw[HQ.o];rintro e w1 ⟨rfl,aU,g1⟩;simp only[Uv,U11,U1d,U1j]at aU;obtain⟨d0,d1,d2,d3,dz⟩:=aU.cells;have aL:=U0 aU;clear aU;obtain⟨ah,ar,ay⟩:=g1.use;simp at ay)|(go_at_call 65;refine (O6d _ _ s (n+3) q [] _ aL.o h1 hs).mono ?_;rw[GR.o];rintro e w4 ⟨rfl,g4⟩;have oh:=aL.o.gr g4;clear d0 d1 d2 d3 dz;obtain⟨d0,d1,d2,d3,dz⟩:=oh.cells;have cL:=U0 oh;have Pa:=oh.lt;clear oh;obtain⟨mW,nV,mX⟩:=g4.use));have aJ:=cL.o.lt
   go_loopw [12] (λ _ wr=>∃(k a:Nat)(out:List UInt8)(ov:Value),RdQ wr (w.heap.size+1) s a q out ov/\V2m (V17 T true q) ((bs s).drop n) k (a-n) out=X/\n<a/\a<=s.size/\out.length<=a/\Gr w wr/\w.heap.size+2<=wr.heap.size /\
       wr.cell? ⟨w.heap.size,0,none⟩=some (.int .i64 0)/\wr.cell? ⟨w.heap.size,1,none⟩=some (.int .i64 0)/\wr.frozen? ⟨w.heap.size,0,none⟩=false/\wr.frozen? ⟨w.heap.size,1,none⟩=false) (λ _ wr=>s.size-V9l (w.heap.size+1) wr)
   case atStart =>
    rw[show ((n:Int)+3+(Eg:Int))=((n+3+Eg:Nat):Int) from by omega];have Lt:Gr w w4:=(((Gr.refl w).alloc _).trans g1).trans g4;have q0:w4.cell? ⟨w.heap.size,0,none⟩=some (.int .i64 0):=(mW _ _ (by omega)).trans ((ah _ _ (by simp)).trans (by simp));have q1:w4.cell? ⟨w.heap.size,1,none⟩=some (.int .i64 0):=(mW _ _ (by omega)).trans ((ah _ _ (by simp)).trans (by simp));have q2:w4.frozen? ⟨w.heap.size,0,none⟩=false:=(nV _ _ (by omega)).trans ((ar _ _ (by simp)).trans (by simp[go_sem]));have q3:w4.frozen? ⟨w.heap.size,1,none⟩=false:=(nV _ _ (by omega)).trans ((ar _ _ (by simp)).trans (by simp[go_sem]));have rR:w.heap.size<w4.heap.size:=by omega
    refine⟨f,n+3+Eg,[],.slice none 0 0,(cL.o.setAt (n+3+Eg)).alloc _,HX.o,by omega,by omega,by simp,(Lt.setCell (by simp) _).alloc _,by simp[World.setCell];omega,?_,?_,?_,?_⟩
    all_goals (simp[go_sem,rR];try assumption)
   case round =>
    exact J35
  |none h1 =>
   have rx:decide ((n:Int)+3<(s.size:Int))=false:=by simp;omega
   clear Ef;go_enter func40,ntmps40;go_wp2_with (first|(go_at_call 38;refine (O2b s _ n rfl (by omega) hs _).mono ?_;rw[HL.o];rintro e w1 ⟨rfl,rfl⟩)|(go_at_call 64;refine (O6e s _ n rfl hn hs _ HL.o _).mono ?_;rw[HQ.o];rintro e w1 ⟨rfl,aU,g1⟩;simp only[Uv,U11,U1d,U1j]at aU;obtain⟨d0,d1,d2,d3,dz⟩:=aU.cells;have aL:=U0 aU;clear aU;obtain⟨ah,ar,ay⟩:=g1.use;simp at ay));have aJ:=aL.o.lt
   go_loopw [12] (λ _ wr=>∃(k a:Nat)(out:List UInt8)(ov:Value),RdQ wr (w.heap.size+1) s a q out ov/\V2m (V17 T true q) ((bs s).drop n) k (a-n) out=X/\n<a/\a<=s.size/\out.length<=a/\Gr w wr/\w.heap.size+2<=wr.heap.size /\
       wr.cell? ⟨w.heap.size,0,none⟩=some (.int .i64 0)/\wr.cell? ⟨w.heap.size,1,none⟩=some (.int .i64 0)/\wr.frozen? ⟨w.heap.size,0,none⟩=false/\wr.frozen? ⟨w.heap.size,1,none⟩=false) (λ _ wr=>s.size-V9l (w.heap.size+1) wr)
   case atStart =>
    refine⟨f,n+3,[],_,aL.o,HX.o,by omega,by omega,by simp,Gr.auto,by omega,(ah _ _ (by simp)).trans (by simp),(ah _ _ (by simp)).trans (by simp),(ar _ _ (by simp)).trans (by simp[go_sem]),(ar _ _ (by simp)).trans (by simp[go_sem])⟩
   case round =>
    exact J35
theorem Obe(s:ByteArray)(i:Int)(n:Nat)(hi:i=n)(hn:n<s.size)(hs:s.size<=20000000)(hq:(s[n].toNat==34 || s[n].toNat==39)=true)(hl:V3r (bs s) n=true)
    (h3:n+3<s.size)(c p:Nat)(hf:Pl.feed ((bs s).drop (n+3)) = .bad c p)(w:World) :
    Calls prog 40 #[.string s,i] w (O7b s n w (.bad c (3+p))):=by
 subst hi;obtain⟨rfl,rfl⟩:=V48 _ _ _ hf;have Be:decide ((n:Int)<0)=false:=by simp
 have ky:decide ((s.size:Int)<(n:Int))=false:=by simp;omega
 have he:((n:Int)==(s.size:Int))=false:=by simp;omega
 refine Z228 ?_;intro bx cb;have HL:=U0 hl;have GR:=U0 hf;obtain⟨q,oF⟩:=ExZ (s[n])
 have HQ:=U0 oF;rw[oF]at hq;have KP:=U0 hq;clear hl oF hq hf;refine Z159 ?_;intro jI;have rx:decide ((n:Int)+3<(s.size:Int))=true:=by simp;omega
 rcases jI with⟨c1,c2⟩|c1
 all_goals
  go_enter func40,ntmps40;go_wp2_with (first|(go_at_call 38;refine (O2b s _ n rfl (by omega) hs _).mono ?_;rw[HL.o];rintro e w1 ⟨rfl,rfl⟩)|(go_at_call 64;refine (O6e s _ n rfl hn hs _ HL.o _).mono ?_;rw[HQ.o];rintro e w1 ⟨rfl,aU,g1⟩;simp only[Uv,U11,U1d,U1j]at aU;obtain⟨d0,d1,d2,d3,dz⟩:=aU.cells;have aL:=U0 aU;clear aU;obtain⟨ah,ar,ay⟩:=g1.use;simp at ay));refine (O6d _ _ s (n+3) q [] _ aL.o h3 hs).mono ?_;rw[GR.o];rintro e w4 ⟨rfl,g4⟩;clear d0 d1 d2 d3 dz;have aJ:=aL.o.lt;obtain⟨mW,nV,mX⟩:=g4.use;have q0:w4.cell? ⟨w.heap.size,0,none⟩=some (.int .i64 0):=(mW _ _ (by omega)).trans ((ah _ _ (by simp)).trans (by simp));have q1:w4.cell? ⟨w.heap.size,1,none⟩=some (.int .i64 0):=(mW _ _ (by omega)).trans ((ah _ _ (by simp)).trans (by simp));have q2:w4.frozen? ⟨w.heap.size,0,none⟩=false:=(nV _ _ (by omega)).trans ((ar _ _ (by simp)).trans (by simp[go_sem]));have q3:w4.frozen? ⟨w.heap.size,1,none⟩=false:=(nV _ _ (by omega)).trans ((ar _ _ (by simp)).trans (by simp[go_sem]));have rR:w.heap.size<w4.heap.size:=by omega
  have Lt:Gr w w4:=(((Gr.refl w).alloc _).trans g1).trans g4;clear ah ar mW nV;go_wp2_with fail
  go_region
  all_goals go_wp2_with fail
  all_goals
   refine U1 (v := .tuple #[.string ⟨#[]⟩,(0:Int),fv 3 (n+3+1)]) (by simp[results,results40,go_sem,q0,q1,q2,q3,rR]) rfl ⟨rfl,by omega,Gr.auto⟩
theorem O6g(T:Nat->UInt8×UInt8)(s:ByteArray)(i:Int)(n:Nat)(hi:i=n)(hn:n<=s.size)(hs:s.size<=20000000)(X:Va (Pl.Bs×Nat))(hX:Vj T ((bs s).drop n)=X)(a8:X ≠ .non)(w:World)(hQ:QW T w) :
    Calls prog 40 #[.string s,i] w (O7b s n w X):=by
 by_cases aa:n<s.size
 rw[O8 s n aa]at hX;unfold Vj at hX;dsimp only at hX;cases hq:(s[n].toNat==34 || s[n].toNat==39)
 rw[hq]at hX;simp only[U11,U1d]at hX;subst hX;exact (O7y s i n hi hn hs (λ _=>hq) w).mono λ e w' ⟨h1,h2⟩=>⟨h1,by omega,h2⟩
 rw[hq]at hX;simp only[U1j]at hX;rw[<-O8 s n aa]at hX;cases hl:V3r (bs s) n
 have ph:Pl.long ((bs s).drop n)=false:=hl;rw[ph]at hX;simp only[U11,U1d]at hX;exact O4u T s i n hi aa hs hq false hl (n+1) .short (by omega) _ X (by rw[show n+1-n=1 from by omega];exact hX) a8 w hQ
 have ph:Pl.long ((bs s).drop n)=true:=hl;rw[ph]at hX;simp only[U1j]at hX;have h3:n+3<=s.size:=by
  exact J168
 rw[U16]at hX;by_cases h4:n+3<s.size
 cases hf:Pl.feed ((bs s).drop (n+3)) with
 |bad c p =>
  rw[hf]at hX;simp only at hX;subst hX;exact Obe s i n hi aa hs hq hl h4 c p hf w
 |ok m =>
  rw[hf]at hX;simp only at hX;have hm:=V3s _ _ hf;rw[U3,O0]at hm;exact O4u T s i n hi aa hs hq true hl (n+3+m) (.feed m h4 hf) (by omega) _ X (by rw[show n+3+m-n=3+m from by omega];exact hX) a8 w hQ
 have hf:Pl.feed ((bs s).drop (n+3)) = .ok 0:=by rw[Ut (by rw[O0];omega)];rfl
 rw[hf]at hX;simp only at hX;exact O4u T s i n hi aa hs hq true hl (n+3) (.none (by omega)) (by omega) _ X (by rw[show n+3-n=3+0 from by omega];exact hX) a8 w hQ
 have e:(bs s).drop n=[]:=Ut (by rw[O0];omega);rw[e]at hX;unfold Vj at hX;subst hX;exact (O7y s i n hi hn hs (λ h=>absurd h aa) w).mono λ e w' ⟨h1,h2⟩=>⟨h1,by omega,h2⟩
theorem O6h(c:UInt8)(w:World) :
    Calls prog 39 #[.int .u8 c.toNat] w λ e w'=>e = .returned (.bool (V2j c))/\w=w':=by
 go_enter func39,ntmps39
 go_wp2
 all_goals go_ret
 all_goals (refine⟨O3g ?_,rfl⟩;rw[U2f];simp[V2j];try omega)
theorem Obf(l:List UInt8)(a k:Nat)(h:a+k<l.length)(hk:k<=V16 (l.drop a))(hb:V2j (l[a+k]'h)=true):k+1<=V16 (l.drop a):=by
 induction k generalizing a with
 |zero =>
  have:l.drop a=l[a]'(by omega)::l.drop (a+1):=Uw (by omega);have fP:V2j l[a]=true:=hb;rw[this];unfold V16;rw[Uo,Ua fP];simp
 |succ k ih =>
  have e:l.drop a=l[a]'(by omega)::l.drop (a+1):=Uw (by omega);rw[e]at hk⊢;unfold V16 at hk⊢;rw[Uo]at hk⊢
  split at hk
  rename_i h1
  rw[Ua h1];have:=ih (a+1) (by omega) (by unfold V16;simp at hk;omega) (by simpa [show a+1+k=a+(k+1) from by omega]using hb);unfold V16 at this;simp;omega
  simp at hk
theorem Obg(l:List UInt8)(a k:Nat)(hk:k<=V16 (l.drop a))(hb:∀h:a+k<l.length,V2j (l[a+k]'h)=false):V16 (l.drop a)=k:=by
 induction k generalizing a with
 |zero =>
  by_cases h:a<l.length;have:l.drop a=l[a]'h::l.drop (a+1):=Uw h;have fP:V2j l[a]=false:=hb h;rw[this];unfold V16;rw[Uo,Ud (by rw[fP];simp)];rfl
  rw[Ut (by omega)];rfl
 |succ k ih =>
  by_cases h:a<l.length
  have e:l.drop a=l[a]'h::l.drop (a+1):=Uw h;rw[e]at hk⊢;unfold V16 at hk⊢;rw[Uo]at hk⊢
  split at hk
  rename_i h1
  rw[Ua h1];have:=ih (a+1) (by unfold V16;simp at hk;omega) (λ h=>by have:=hb (by omega);simpa [show a+1+k=a+(k+1) from by omega]using this);unfold V16 at this;simp;omega
  simp at hk
  rw[Ut (by omega)]at hk;simp[V16]at hk
def Oj8(s:ByteArray)(w:World)(x:Va (Pl.Bs×Nat))(e:Ending)(w':World):Prop :=
 match x with
 |.non=>True
 |.ok (t,m)=>e = .returned (.tuple #[V3a t,m,f0])/\m<=s.size/\Gr w w'
 |.bad c p=>(∃m:Nat,e = .returned (.tuple #[.string ⟨#[]⟩,m,fv c p]))/\c≠0/\Gr w w'
def O2f(T:Nat->UInt8×UInt8)(E:Vz):Prop:=E.str=Vj T
theorem Obh(s:ByteArray)(n k:Nat):s.extract n (n+k)=⟨(((bs s).drop n).take k).toArray⟩:=by
 apply U1y;apply U21.1;rw[U27,show n+k-n=k from by omega]
theorem Olu(T:Nat->UInt8×UInt8)(E:Vz)(hE:O2f T E)(s:ByteArray)(i:Int)(n:Nat)(hi:i=n)(hn:n<=s.size)(hs:s.size<=20000000)(X:Va (Pl.Bs×Nat))(hX:V3w E (bs s) n=X)(a8:X ≠ .non)(w:World)(hQ:QW T w) :
    Calls prog 19 #[.string s,i] w (Oj8 s w X):=by
 have rh:=U0 hQ;clear hQ;subst hi;unfold V3w at hX;cases hl:V3r (bs s) n
 ·rw[hl]at hX;simp only[U11,U1d]at hX;have HL:=U0 hl;have HX:=U0 hX;have py:=Vg V2j ((bs s).drop n);rw[U3,O0]at py;clear hl hX;go_enter func19,ntmps19;go_wp2_with (go_at_call 38;refine (O2b s _ n rfl hn hs _).mono ?_;rw[HL.o];rintro e w1 ⟨rfl,rfl⟩)
  go_loopw [5] (λ v wr=>∃k:Nat,v = .int .i64 (n+k:Nat)/\k<=V16 ((bs s).drop n)/\wr=w.alloc (.cells #[(0:Int),(0:Int)] 29)) (λ v _=>s.size-(intOf v).toNat)
  case atStart=>exact⟨0,rfl,by omega,rfl⟩
  case round =>
   obtain⟨k,rfl,hk,rfl⟩:=hrel;have cS:k<=s.size-n:=Uj hk py;by_cases dM:∃aa:n+k<s.size,V2j s[n+k]=true
   ·obtain⟨aa,hb⟩:=dM;have ky:decide ((n:Int)+(k:Int)<(s.size:Int))=true:=by simp;omega
    have bx:(0:Int)<=(n:Int)+(k:Int):=by omega
    have cb:(n:Int)+(k:Int)<(s.size:Int):=by omega
    have fw:((n:Int)+(k:Int)).toNat=n+k:=by omega
    have Pb:=Obf (bs s) n k (by rw[O0];exact aa) hk hb;have HB:=U0 hb;clear hb;go_wp2_with (go_at_call 39;refine (O6h _ _).mono ?_;rw[HB.o];rintro e w1 ⟨rfl,rfl⟩)
    go_roundw
    case rel=>exact⟨k+1,by go_num,Pb,U2d⟩
    case measure=>simp[intOf];omega
   have a9:=Obg (bs s) n k hk (λ h=>by
    cases hb:V2j ((bs s)[n+k]'h) with
    |false=>rfl
    |true=>exact absurd ⟨by rw[<-O0];exact h,hb⟩ dM)
   have fg:(¬n+k<s.size)\/(∃aa:n+k<s.size,V2j s[n+k]=false):=by
    by_cases aa:n+k<s.size
    refine .inr ⟨aa,?_⟩;cases hb:V2j s[n+k] with
    |false=>rfl
    |true=>exact absurd ⟨aa,hb⟩ dM
    exact .inl aa
   have dX:=HX.o;rw[a9]at dX;clear dM a9 hk;by_cases dw:k=0
   ·subst dw;simp only[U1j]at dX;rw[hE]at dX;cases ip:Vj T ((bs s).drop n) with
    |non=>rw[ip]at dX;exact absurd dX.symm a8
    |ok r =>
     obtain⟨t,m⟩:=r;rw[ip]at dX;simp only at dX;have nh:=U0 ip;have bV:=U0 dX;clear ip dX;rcases fg with aa|⟨aa,hb⟩
     ·exfalso;have h9:=nh.o;rw[Ut (by rw[O0];omega)]at h9;cases h9
     all_goals first
      |(have fP:V2j s[n]=false:=hb;have ky:decide ((n:Int)<(s.size:Int))=true:=by { simp;omega };have HB:=U0 fP;clear hb fP;have bx:(0:Int)<=(n:Int):=by { omega };have cb:(n:Int)<(s.size:Int):=by { omega })
      |(have ky:decide ((n:Int)<(s.size:Int))=false:=by { simp;omega };skip)
     all_goals
      go_wp2_with (first|(go_at_call 39;refine (O6h _ _).mono ?_;rw[HB.o];rintro e w1 ⟨rfl,rfl⟩)|(go_at_call 40;refine (O6g T s _ n rfl hn hs _ nh.o (by simp) _ (rh.o.gr Gr.auto)).mono ?_;rintro e w1 ⟨rfl,ry,jn,g1⟩;simp only[f0];obtain⟨ah,ar,ay⟩:=g1.use;simp only[Uv]at ay;have p0:w1.cell? ⟨w.heap.size,0,none⟩=some (.int .i64 0):=(ah _ _ (by simp)).trans (by simp);have p1:w1.cell? ⟨w.heap.size,1,none⟩=some (.int .i64 0):=(ah _ _ (by simp)).trans (by simp);have p2:w1.frozen? ⟨w.heap.size,0,none⟩=false:=(ar _ _ (by simp)).trans (by simp[go_sem]);have p3:w1.frozen? ⟨w.heap.size,1,none⟩=false:=(ar _ _ (by simp)).trans (by simp[go_sem]);have eI:w.heap.size<w1.heap.size:=ay;clear ah ar));refine U1 (v := .tuple #[V3a t,.int .i64 (n+m:Nat),f0]) (by simp[results,results19,go_sem,p0,p1,p2,p3,eI]) rfl ?_;rw[<-bV.o];exact⟨rfl,ry,Gr.auto⟩
    |bad c p =>
     rw[ip]at dX;simp only at dX;have nh:=U0 ip;have bV:=U0 dX;clear ip dX;rcases fg with aa|⟨aa,hb⟩
     all_goals first
      |(have fP:V2j s[n]=false:=hb;have ky:decide ((n:Int)<(s.size:Int))=true:=by { simp;omega };have HB:=U0 fP;clear hb fP;have bx:(0:Int)<=(n:Int):=by { omega };have cb:(n:Int)<(s.size:Int):=by { omega })
      |(have ky:decide ((n:Int)<(s.size:Int))=false:=by { simp;omega };skip)
     all_goals
      go_wp2_with (first|(go_at_call 39;refine (O6h _ _).mono ?_;rw[HB.o];rintro e w1 ⟨rfl,rfl⟩)|(go_at_call 40;refine (O6g T s _ n rfl hn hs _ nh.o (by simp) _ (rh.o.gr Gr.auto)).mono ?_;rintro e w1 ⟨rfl,ry,g1⟩;obtain⟨ah,ar,ay⟩:=g1.use;simp only[Uv]at ay;have p0:w1.cell? ⟨w.heap.size,0,none⟩=some (.int .i64 0):=(ah _ _ (by simp)).trans (by simp);have p1:w1.cell? ⟨w.heap.size,1,none⟩=some (.int .i64 0):=(ah _ _ (by simp)).trans (by simp);have p2:w1.frozen? ⟨w.heap.size,0,none⟩=false:=(ar _ _ (by simp)).trans (by simp[go_sem]);have p3:w1.frozen? ⟨w.heap.size,1,none⟩=false:=(ar _ _ (by simp)).trans (by simp[go_sem]);have eI:w.heap.size<w1.heap.size:=ay;clear ah ar));refine U1 (v := .tuple #[.string ⟨#[]⟩,(0:Int),fv c (n+p)]) (by simp[results,results19,go_sem,p0,p1,p2,p3,eI]) rfl ?_;rw[<-bV.o];exact⟨⟨0,rfl⟩,ry,Gr.auto⟩
   rw[Ud dw]at dX;have bV:=U0 dX;clear dX;have OD:decide ((n:Int)<(n:Int)+(k:Int))=true:=by simp;omega
   have mS:(n:Int)+(k:Int)<=(s.size:Int):=by omega
   have bx:(0:Int)<=(n:Int)+(k:Int):=by omega
   have fw:((n:Int)+(k:Int)).toNat=n+k:=by omega
   have uO:(n:Int)<=(n:Int)+(k:Int):=by omega
   have zX:(0:Int)<=(n:Int):=by omega
   rcases fg with aa|⟨aa,hb⟩
   all_goals first
    |(have HB:=U0 hb;have ky:decide ((n:Int)+(k:Int)<(s.size:Int))=true:=by { simp;omega };clear hb;have cb:(n:Int)+(k:Int)<(s.size:Int):=by { omega })
    |(have ky:decide ((n:Int)+(k:Int)<(s.size:Int))=false:=by { simp;omega };skip)
   all_goals
    go_wp2_with (first|(go_at_call 39;refine (O6h _ _).mono ?_;rw[HB.o];rintro e w1 ⟨rfl,rfl⟩))
    go_region
    all_goals go_wp2_with fail
    all_goals
     refine U1 (v := .tuple #[.string (s.extract n (n+k)),.int .i64 (n+k:Nat),f0]) (by simp[results,results19,go_sem]) rfl ?_;rw[<-bV.o];refine⟨by rw[Obh],by omega,Gr.auto⟩
 rw[hl]at hX;simp only[U1j]at hX;subst hX;have HL:=U0 hl;have h3:n+2<=s.size:=by
  have ph:Pl.long ((bs s).drop n)=true:=hl;exact J168
 clear hl;go_enter func19,ntmps19;go_wp2_with (go_at_call 38;refine (O2b s _ n rfl hn hs _).mono ?_;rw[HL.o];rintro e w1 ⟨rfl,rfl⟩)
 go_region
 all_goals go_wp2_with fail
 all_goals
  refine U1 (v := .tuple #[.string ⟨#[]⟩,.int .i64 (n+2:Nat),f0]) (by simp[results,results19,go_sem]) rfl ⟨rfl,h3,Gr.auto⟩
def O1f(acc:List Pl.KW):List Pl.Bs:=acc.map (·.1)
def O19(acc:List Pl.KW):List (Nat×Nat):=acc.map (·.2)
structure KS(w W:World)(kv sv:Value)(acc:List Pl.KW):Prop where
 rows:V1x w W w.heap.size (λ _=>False) kv sv (.slice none 0 0) acc.length acc.length 0 (Oh (O1f acc)) (Oc (O19 acc)) []
 k:V3b W w.heap.size #[kv,sv] 42 kv sv (.slice none 0 0)
 f:V3b W (w.heap.size+1) #[(0:Int),(0:Int)] 29 kv sv (.slice none 0 0)
theorem KS.gr{w W W':World}{kv sv:Value}{acc:List Pl.KW}(h:KS w W kv sv acc)(g:Gr W W'):KS w W' kv sv acc:=⟨h.rows.gr g,h.k.gr g,h.f.gr g⟩
theorem KS.cells{w W:World}{kv sv:Value}{acc:List Pl.KW}(h:KS w W kv sv acc) :
    W.cell? ⟨w.heap.size,0,none⟩=some kv/\W.cell? ⟨w.heap.size,1,none⟩=some sv/\W.frozen? ⟨w.heap.size,0,none⟩=false/\W.frozen? ⟨w.heap.size,1,none⟩=false /\
    W.cell? ⟨w.heap.size+1,0,none⟩=some (.int .i64 0)/\W.cell? ⟨w.heap.size+1,1,none⟩=some (.int .i64 0)/\W.frozen? ⟨w.heap.size+1,0,none⟩=false/\W.frozen? ⟨w.heap.size+1,1,none⟩=false :=
 ⟨(h.k.cell (i:=0) rfl).1,(h.k.cell (i:=1) rfl).1,(h.k.cell (i:=0) rfl).2,(h.k.cell (i:=1) rfl).2,(h.f.cell (i:=0) rfl).1,(h.f.cell (i:=1) rfl).1,(h.f.cell (i:=0) rfl).2,(h.f.cell (i:=1) rfl).2⟩
theorem KS.below{w W:World}{kv sv:Value}{acc:List Pl.KW}(h:KS w W kv sv acc):Gr w W:=h.rows.st.below (Gr.refl w) (λ _ hF=>hF.elim)
theorem KS.lt{w W:World}{kv sv:Value}{acc:List Pl.KW}(h:KS w W kv sv acc):w.heap.size+1<W.heap.size:=h.f.lt
def Vcw(w:World)(kv sv:Value)(V:World):Prop:=V.cell? ⟨w.heap.size,0,none⟩=some kv/\V.cell? ⟨w.heap.size,1,none⟩=some sv
theorem O2d{w V:World}{a b kv sv uv:Value}(h:V3b V w.heap.size #[a,b] 42 kv sv uv):Vcw w a b V:=⟨(h.cell (i:=0) rfl).1,(h.cell (i:=1) rfl).1⟩
theorem Ons{w V:World}{kv sv:Value}{a b:Value}{t:Pl.Bs}{n e:Nat}{acc:List Pl.KW}
    (H:V1x w V w.heap.size (λ _=>False) kv sv (.slice none 0 0) (acc.length+1) (acc.length+1) 0 (Oh (O1f acc)++[V3a t]) (Oc (O19 acc)++[.int .i64 n,.int .i64 e]) [])
    (C:V3b V w.heap.size #[a,b] 42 kv sv (.slice none 0 0))(Ff:V3b V (w.heap.size+1) #[(0:Int),(0:Int)] 29 kv sv (.slice none 0 0)) :
    KS w ((V.setCell ⟨w.heap.size,0,none⟩ kv).setCell ⟨w.heap.size,1,none⟩ sv) kv sv (acc++[(t,n,e)]):=by
 refine⟨?_,?_,?_⟩
 have h1:=(H.setCell (i:=0) (U2 _) C.k C.s C.u kv).setCell (i:=1) (U2 _) C.k C.s C.u sv;have e1:(acc++[(t,n,e)]).length=acc.length+1:=by simp
 have e2:Oh (O1f (acc++[(t,n,e)]))=Oh (O1f acc)++[V3a t]:=by simp[Oh,O1f]
 have e3:Oc (O19 (acc++[(t,n,e)]))=Oc (O19 acc)++[.int .i64 n,.int .i64 e]:=by simp[Oc,O19]
 rw[e1,e2,e3];exact h1;have:=(C.set (i:=0) kv).set (i:=1) sv;exact J15
 exact (Ff.setOther (by simp) _).setOther (by simp) _
def Ob0(w:World)(V:World):Prop:=V.cell? ⟨w.heap.size+1,0,none⟩=some (.int .i64 0)/\V.cell? ⟨w.heap.size+1,1,none⟩=some (.int .i64 0)
theorem Ogu{w V:World}{a b:Value}(h:Ob0 w V):Ob0 w ((V.setCell ⟨w.heap.size,0,none⟩ a).setCell ⟨w.heap.size,1,none⟩ b) :=
 ⟨by rw[Um _ _ _ _ (by simp),Um _ _ _ _ (by simp)];exact h.1,by rw[Um _ _ _ _ (by simp),Um _ _ _ _ (by simp)];exact h.2⟩
theorem Oly{w V:World}{kv sv:Value}{acc:List Pl.KW}(h:KS w V kv sv acc) :
    V26 ((((V.setCell ⟨w.heap.size,0,none⟩ (O4 kv)).setCell ⟨w.heap.size,1,none⟩ (O4 sv)).setCell ⟨w.heap.size+1,0,none⟩ (0:Int)).setCell ⟨w.heap.size+1,1,none⟩ (0:Int)) w.heap.size 9 1 (O4 kv) acc.length (Oh (O1f acc)) /\
    V26 ((((V.setCell ⟨w.heap.size,0,none⟩ (O4 kv)).setCell ⟨w.heap.size,1,none⟩ (O4 sv)).setCell ⟨w.heap.size+1,0,none⟩ (0:Int)).setCell ⟨w.heap.size+1,1,none⟩ (0:Int)) w.heap.size 38 2 (O4 sv) acc.length (Oc (O19 acc)) /\
    Gr w ((((V.setCell ⟨w.heap.size,0,none⟩ (O4 kv)).setCell ⟨w.heap.size,1,none⟩ (O4 sv)).setCell ⟨w.heap.size+1,0,none⟩ (0:Int)).setCell ⟨w.heap.size+1,1,none⟩ (0:Int)):=by
 have h1:=(((h.rows.setCell (i:=0) (U2 _) h.k.k h.k.s h.k.u (O4 kv)).setCell (i:=1) (U2 _) h.k.k h.k.s h.k.u (O4 sv)).setCell (i:=0) (U1w _) h.f.k h.f.s h.f.u (0:Int)).setCell (i:=1) (U1w _) h.f.k h.f.s h.f.u (0:Int);exact⟨O2c h1.k,O2c h1.s,⟨h1.st.os,h1.st.tape,h1.st.output,h1.st.size,λ k hk=>h1.st.block k hk (λ e=>e)⟩⟩
def O6j(s:ByteArray)(w:World)(x:Va (List Pl.KW×Nat))(e:Ending)(w':World):Prop :=
 match x with
 |.non=>True
 |.ok (ws,m)=>∃kv sv,e = .returned (.tuple #[.agg #[kv,sv],m,f0])/\m<=s.size/\V26 w' w.heap.size 9 1 kv ws.length (Oh (O1f ws))/\V26 w' w.heap.size 38 2 sv ws.length (Oc (O19 ws))/\ws.length<=s.size+2/\0<ws.length/\Gr w w'
 |.bad c p=>e = .returned (.tuple #[.agg #[.slice none 0 0,.slice none 0 0],(0:Int),fv c p])/\c≠0/\Gr w w'
theorem Ont{w W:World}{base:Nat}{kv sv uv:Value}{nk ns nu:Nat}{xk xs xu:List Value}(h:V1x w W base (λ _=>False) kv sv uv nk ns nu xk xs xu):Gr w W :=
 ⟨h.st.os,h.st.tape,h.st.output,h.st.size,λ k hk=>h.st.block k hk (λ e=>e)⟩
theorem O4d(T:Nat->UInt8×UInt8)(E:Vz)(hE:O2f T E)(s:ByteArray)(i:Int)(n0:Nat)(hi:i=n0)(iF:n0<=s.size)(hs:s.size<=20000000)(X:Va (List Pl.KW×Nat))(hX:V1k E (bs s) n0=X)(a8:X ≠ .non)(w:World)(hQ:QW T w) :
    Calls prog 9 #[.string s,i] w (O6j s w X):=by
 have rh:=U0 hQ;clear hQ;subst hi;unfold V1k at hX;rw[O0]at hX;have HX:=U0 hX;obtain⟨iK,k1,k2,k3,k4⟩:=U2u Oe3;obtain⟨iS,s1,s2,s3,s4⟩:=U2u Ob6;have fG:=U0 (And.intro k1 (And.intro k2 (And.intro k3 k4)));have eh:=U0 (And.intro s1 (And.intro s2 (And.intro s3 s4)));have Be:decide ((n0:Int)<0)=false:=by simp
 have ky:decide (s.size<n0)=false:=by simp;omega
 have Pc:Hid (KS w ((w.alloc (.cells #[.slice none 0 0,.slice none 0 0] 42)).alloc (.cells #[(0:Int),(0:Int)] 29)) (.slice none 0 0) (.slice none 0 0) []):=by
  have fd:∀(b:Nat),(Value.slice none 0 0).ownBlock≠some b:=λ b e=>by simp[Value.ownBlock]at e
  refine⟨⟨((St.refl _ w).alloc _).alloc _ |>.to (λ _ e=>e.elim),On _ _ _ _,On _ _ _ _,On _ _ _ _,λ b e=>absurd e (fd b),λ b e=>absurd e (fd b),λ b e=>absurd e (fd b),λ b e=>absurd e (fd b),λ b e=>absurd e (fd b),λ b e=>absurd e (fd b)⟩,⟨?_,fd _,fd _,fd _⟩,⟨?_,fd _,fd _,fd _⟩⟩;exact (((Gr.refl _).alloc _).block (by simp)).trans (U10 w _)
  have:=U10 (w.alloc (.cells #[.slice none 0 0,.slice none 0 0] 42)) (.cells #[(0:Int),(0:Int)] 29)
  rwa [Uv]at this
 clear hX k1 k2 k3 k4 s1 s2 s3 s4;go_enter func9,ntmps9;go_wp2_with fail
 go_step3
 go_wp2_with fail
 go_step3
 go_wp2_with fail
 go_loopw [1,5] (λ v1 v5 wr=>∃(n ik:Nat)(m5:Int)(acc:List Pl.KW)(kv sv:Value),v1 = .int .i64 n/\v5 = .int .i64 m5/\n<=s.size/\V4c E (bs s) ik n acc=X/\KS w wr kv sv acc/\acc.length+ik=s.size+2) (λ v1 _ _=>s.size-(intOf v1).toNat)
 case atStart=>exact⟨n0,s.size+2,0,[],_,_,rfl,rfl,iF,HX.o,Pc.o,by simp⟩
 case round =>
  obtain⟨n,ik,m5,acc,kv,sv,rfl,rfl,hn,hx,sQ,ao⟩:=hrel;cases ik with
  |zero=>exact absurd hx.symm a8
  |succ ik =>
   unfold V4c at hx;obtain⟨c0,c1,z0,z1,sX,sY,y0,y1⟩:=sQ.cells;have Pd:=sQ.lt;have HK:=U0 sQ;clear sQ;cases hw:V3w E (bs s) n with
   |non=>rw[hw]at hx;exact absurd hx.symm a8
   |bad c p =>
    rw[hw]at hx;dsimp only at hx;have bV:=U0 hx;have HW:=U0 hw;clear hx hw;go_wp2_with fail;refine Z278 ?_;rintro e w1 ⟨⟨m,rfl⟩,hc,g1⟩;obtain⟨ah,ar,ay⟩:=g1.use;have p0:w1.cell? ⟨w.heap.size,0,none⟩=some kv:=(ah _ _ (by omega)).trans c0;have p1:w1.cell? ⟨w.heap.size,1,none⟩=some sv:=(ah _ _ (by omega)).trans c1;have p2:w1.frozen? ⟨w.heap.size,0,none⟩=false:=(ar _ _ (by omega)).trans z0;have p3:w1.frozen? ⟨w.heap.size,1,none⟩=false:=(ar _ _ (by omega)).trans z1;have p4:w1.cell? ⟨w.heap.size+1,0,none⟩=some (.int .i64 0):=(ah _ _ (by omega)).trans sX;have p5:w1.cell? ⟨w.heap.size+1,1,none⟩=some (.int .i64 0):=(ah _ _ (by omega)).trans sY;have p6:w1.frozen? ⟨w.heap.size+1,0,none⟩=false:=(ar _ _ (by omega)).trans y0;have p7:w1.frozen? ⟨w.heap.size+1,1,none⟩=false:=(ar _ _ (by omega)).trans y1;refine Z168 ?_;intro rR gj;have lp:Gr w wr:=Ont HK.o.rows;clear ah ar c0 c1 z0 z1 sX sY y0 y1;have jI:¬(c:Int)=0:=by omega
    go_wp2_with fail
    go_region
    all_goals go_wp2_with fail
    all_goals
     rw[Exit.noGoto_ret];refine U1 (v := .tuple #[.agg #[.slice none 0 0,.slice none 0 0],(0:Int),fv c p]) (by simp[results,results9,go_sem,p0,p1,p2,p3,p4,p5,p6,p7,rR,gj]) rfl ?_;rw[<-bV.o];exact⟨rfl,hc,Gr.auto⟩
   |ok r =>
    obtain⟨t,e⟩:=r;rw[hw]at hx;dsimp only at hx;have aK:=word_le E _ _ _ _ hw;have bV:=U0 hx;have HW:=U0 hw;clear hx hw;go_wp2_with fail;refine Z278 ?_;rintro e' w1 ⟨rfl,F9,g1⟩;have bx:=HK.o.gr g1;have cb:=bx.gr ((Gr.refl w1).alloc (.cells #[(0:Int),(0:Int)] 29));obtain⟨p0,p1,p2,p3,p4,p5,p6,p7⟩:=bx.cells;have Lu:=bx.lt;have SW:=U0 bx;have Pe:=U0 cb;clear bx cb c0 c1 z0 z1 sX sY y0 y1;go_wp2_with fail;refine Reg.begin' (W:=λ i=>i != 14&&i != 16) (S:=Vcw w kv sv) (by kernel_rfl) ?_;obtain⟨V0,hV⟩:=ExZ ((w1.alloc (.cells #[(0:Int),(0:Int)] 29)).drew)
    have oC:=Pe.o.gr ((Gr.refl _).drew);rw[hV]at oC⊢;clear hV p0 p1 p2 p3 p4 p5 p6 p7;have iy:=U0 oC.rows;have xA:=U0 oC.k;have Bv:=U0 oC.f;clear oC;have bi:=O2d xA.o;refine Reg.ty 0 ?_;refine Reg.ty 2 ?_;refine Reg.ty 5 ?_;refine Z59 ?_;refine Reg.ty 12 ?_;refine Reg.tl 1 bi ?_ (hy:=by intro w ab;obtain⟨q1,q2⟩:=ab;go_simp;try with_reducible rfl);refine Reg.tl 6 bi ?_ (hy:=by intro w ab;obtain⟨q1,q2⟩:=ab;go_simp;try with_reducible rfl);refine Reg.all (rs:=[3,10]) (by kernel_rfl) (by simp) ?_;refine Z14 ?_;intro j hj;rcases hj with rfl|rfl
    ·refine Reg.one (i:=3) rfl (by rfl) ?_;go_simp;have aw:=iy.o.alloc (.cells #[V3a t] 9);have av:=iy.o.newB #[V3a t] 9;have dc:=xA.o.alloc (.cells #[V3a t] 9);have de:=Bv.o.alloc (.cells #[V3a t] 9);obtain⟨V1,hV⟩:=ExZ (V0.alloc (.cells #[V3a t] 9))
     rw[hV]at aw av dc de⊢;clear hV;have aL:=U0 aw;have nj:=U0 dc;have sZ:=U0 de;have my:=U0 av;clear aw av dc de;have cm:=O2d nj.o;refine Z99 ?_;refine Reg.all (rs:=[4,10]) (by kernel_rfl) (by simp) ?_;refine Z14 ?_;intro j hj;rcases hj with rfl|rfl
     ·refine Z268 ?_;refine U23 _ (.tmp 33) (.tmp 35) 34 (by rfl) w.heap.size 9 iK _ 1 16 underlying34 fG.o.1 fG.o.2.1 fG.o.2.2.1 fG.o.2.2.2 (by rfl) (by decide) kv acc.length _ (by rfl) aL.o.k _ 1 1 [V3a t] (by rfl) (by rfl) (U1e my.o.blk) (by simp[Value.oneCell']) (by decide) (by unfold maxLen;omega) (by omega) aL.o.size _ rfl ?_;intro gK aI V2 ho hg ha hz;have aP:=U0 (aL.o.appK ho hg ha);have mx:=U0 (nj.o.appK (n:=acc.length+1) (cap:=aI) hg ha);have rU:=U0 (sZ.o.appK (n:=acc.length+1) (cap:=aI) hg ha);clear ho hg ha hz;have bj:=O2d mx.o;refine⟨λ _ _=>bj,?_⟩;refine Reg.pt ?_;refine Reg.ty 13 ?_;refine Reg.on 10 ?_;skip;go_simp;have aw:=aP.o.alloc (.cells #[n,e] 38);have ak:=aP.o.newB #[n,e] 38;have dc:=mx.o.alloc (.cells #[n,e] 38);have de:=rU.o.alloc (.cells #[n,e] 38);obtain⟨V3,hV⟩:=ExZ (V2.alloc (.cells #[n,e] 38))
      rw[hV]at aw ak dc de⊢;clear hV;have aW:=U0 aw;have mv:=U0 dc;have rQ:=U0 de;have ca:=U0 ak;clear aw ak dc de;have aD:=O2d mv.o;refine⟨by first|exact aD|exact λ _=>aD,?_⟩;refine Reg.pt ?_;refine Reg.on 11 ?_;skip;exact J99
     refine Reg.one (i:=10) rfl (by rfl) ?_;go_simp;have aw:=aL.o.alloc (.cells #[n,e] 38);have ak:=aL.o.newB #[n,e] 38;have dc:=nj.o.alloc (.cells #[n,e] 38);have de:=sZ.o.alloc (.cells #[n,e] 38);have av:=my.o.alloc (.cells #[n,e] 38);obtain⟨V2,hV⟩:=ExZ (V1.alloc (.cells #[n,e] 38))
     rw[hV]at aw ak dc de av⊢;clear hV;have aP:=U0 aw;have mx:=U0 dc;have rU:=U0 de;have d6:=U0 av;have dV:=U0 ak;clear aw ak dc de av;exact J201
    refine Reg.one (i:=10) rfl (by rfl) ?_;go_simp;have aw:=iy.o.alloc (.cells #[n,e] 38);have ak:=iy.o.newB #[n,e] 38;have dc:=xA.o.alloc (.cells #[n,e] 38);have de:=Bv.o.alloc (.cells #[n,e] 38);obtain⟨V1,hV⟩:=ExZ (V0.alloc (.cells #[n,e] 38))
    rw[hV]at aw ak dc de⊢;clear hV;have aL:=U0 aw;have nj:=U0 dc;have sZ:=U0 de;have sw:=U0 ak;clear aw ak dc de;have cm:=O2d nj.o;refine Z99 ?_;refine Reg.on 3 ?_;skip;go_simp;have aw:=aL.o.alloc (.cells #[V3a t] 9);have av:=aL.o.newB #[V3a t] 9;have dc:=nj.o.alloc (.cells #[V3a t] 9);have de:=sZ.o.alloc (.cells #[V3a t] 9);have ak:=sw.o.alloc (.cells #[V3a t] 9);obtain⟨V2,hV⟩:=ExZ (V1.alloc (.cells #[V3a t] 9))
    rw[hV]at aw av dc de ak⊢;clear hV;have aP:=U0 aw;have mx:=U0 dc;have rU:=U0 de;have dV:=U0 ak;have d6:=U0 av;clear aw av dc de ak;exact J201
end Go.Proofs.YtnkgknbdaiakgaaGreatDoor
namespace Go.Proofs.YtnkgknbdaiakgaaGreatDoor
open Pl Go.Proofs.Tryz Go.RowKit Go.Shelf Go.Joins
attribute [local go_sem] Uy
variable {Tb:Nat->UInt8×UInt8}
structure GW(T:Nat->UInt8×UInt8)(base:Nat)(w:World):Prop where
 int:V3z w
 q:QW T w
 es:14<base
 sh:0<base
 rad:6<base
 max:3<base
 err:1<base
 pow:2<base
theorem GW.st{base:Nat}{w w':World}{F F':Nat->Prop}(h:GW Tb base w)(g:St F F' w w')(hF:∀k,F k->base<=k):GW Tb base w':=by
 have hc:∀{b o:Nat} {v},b<base->w.cell? ⟨b,o,none⟩=some v->w'.cell? ⟨b,o,none⟩=some v:=λ hb e=>((g.use _ (Lib.lt_of_cell e) (λ hf=>by have:=hF _ hf;simp only at this;omega)).1 _).trans e
 obtain⟨m,hm⟩:=h.int.max;obtain⟨ep,he⟩:=h.int.err;obtain⟨ev,pk,GT⟩:=h.q.es;refine⟨?_,⟨⟨ev,hc h.es pk,GT⟩,λ j v hj=>hc h.sh (h.q.sh j v hj)⟩,h.es,h.sh,h.rad,h.max,h.err,h.pow⟩;refine⟨λ j v hj=>hc h.rad (h.int.rad j v hj),⟨m,hc h.max hm⟩,⟨ep,hc h.err he⟩,?_⟩;have hp:=h.int.pow;have lc:prog.globalNamed "internal/strconv.uint64pow10" = some 2:=by kernel_rfl
 unfold Lib.TabIs World.var? at hp⊢;rw[lc]at hp⊢;simp only[Option.bind_some]at hp⊢;have aa:2<w.heap.size:=by
  exact J37
 rw[g.block _ aa (λ hf=>by have:=hF _ hf;have:=h.pow;omega)];exact hp
theorem GW.gr{base:Nat}{w w':World}(h:GW Tb base w)(g:Gr w w'):GW Tb base w':=h.st (F:=λ _=>False) (F':=λ _=>False) (g.st) (λ _ e=>e.elim)
def RK(R:Nat)(w:World):Prop:=∃a b c d,w.heap[R]?=some (.cells #[a,b,c,d] 80 (0,0))
theorem RdV.rk{w:World}{R B base:Nat}{s:ByteArray}{root:Int}{nv:Value}{L:List Vw}{own:Nat->Nat}(h:RdV w R B base s root nv L own):RK R w:=⟨_,_,_,_,h.blk⟩
theorem RK.gr{R:Nat}{w w':World}(h:RK R w)(g:Gr w w'):RK R w':=by
 obtain⟨a,b,c,d,h⟩:=h;exact⟨a,b,c,d,(g.block (U8.1 h).1).trans h⟩
theorem RK.set{R:Nat}{w:World}(h:RK R w){b o:Nat}(hb:b≠R)(v:Value):RK R (w.setCell ⟨b,o,none⟩ v):=by
 obtain⟨x,y,z,u,h⟩:=h;exact⟨x,y,z,u,by rw[U5 _ _ _ _ (U2k hb)];exact h⟩
theorem RK.drew{R:Nat}{w:World}(h:RK R w):RK R w.drew:=h
def O4c(s:ByteArray)(R B base:Nat)(root:Int)(own:Nat->Nat)(w:World)(X:Va (Nat×Nat×Vc))(e:Ending)(w':World):Prop :=
 match X with
 |.non=>True
 |.bad c p=>e = .returned (.tuple #[(0:Int),(0:Int),fv c p])/\c≠0/\∃F',St (FV own) F' w w'/\RK R w'
 | .ok (i,n,st')=>e = .returned (.tuple #[i,n,f0])/\n<=s.size/\i<st'.length /\
     ∃nv' L' own',RdV w' R B base s root nv' L' own'/\L'.map (·.nd)=st'/\St (FV own) (FV own') w w'/\(∀k,own' k≠0->own k≠0\/w.heap.size<=k)
abbrev Vn:Value := .slice none 0 0
def O35(k:Nat)(t:Pl.Bs)(a b:Nat):Vw:=⟨V5k k t a b,Vn,Vn,Vn⟩
theorem O9q(w W:World)(R B base:Nat)(s:ByteArray)(root:Int)(nv:Value)(L:List Vw)(own:Nat->Nat)(h:RdV w R B base s root nv L own)(g:Gr w W)(hr:Pl.room (L.map (·.nd))=true)
    (k:Nat)(h8:k≠8)(t:ByteArray)(a b:Nat)(kk:Int)(cZ:kk=k)(b':Int)(hb:b'=b) :
    Calls prog 74 #[.pointer (some ⟨R,0,none⟩),.agg #[.int .u8 kk,.string t,Vn,Vn,Vn,a,b']] W λ e w' =>
     e = .returned L.length/\∃nv' own',RdV w' R B base s root nv' (L++[O35 k (bs t) a b]) own'/\St (FV own) (FV own') w w'/\(∀k,own' k≠0->own k≠0\/W.heap.size<=k)/\St (FV own) (FV own') W w':=by
 have hl:L.length<=30000000:=by simp[Pl.room]at hr;omega
 subst hb cZ;refine (O8w W R B base s root nv L own (h.gr g) hl (O35 k (bs t) a b) rfl rfl rfl rfl rfl rfl (O14 (On _ _ _ _)) (λ e=>absurd e h8) (λ k e=>by simp[O35,Value.ownBlock]at e) k t Vn Vn Vn a b ?_).mono ?_;simp[ndV,O35,V5k,bs]
 rintro e w' ⟨rfl,nv',own',h1,h2,h3⟩;have Gf:St (FV own) (FV own') W w':=by
  refine⟨h2.os,h2.tape,h2.output,h2.size,λ k hk hn=>h2.block k hk (λ e=>e.elim hn (λ e=>by simp[O35,Value.ownBlock]at e)),λ k hk=>?_⟩;rcases h2.own k hk with (e|e)|e
  exact .inl e;simp[O35,Value.ownBlock]at e
  exact .inr e
 refine⟨rfl,nv',own',h1,(g.st).trans Gf,λ k hk=>?_,Gf⟩;rcases h3 k hk with e|e|e
 exact .inl e;simp[O35,Value.ownBlock]at e
 exact .inr e
def FX(b:Nat)(x y:Value)(w:World):Prop:=w.cell? ⟨b,0,none⟩=some x/\w.cell? ⟨b,1,none⟩=some y/\(∀o,w.frozen? ⟨b,o,none⟩=false)/\b<w.heap.size
theorem FX.gr{b:Nat}{x y:Value}{w w':World}(h:FX b x y w)(g:Gr w w'):FX b x y w' :=
 ⟨(g.use.1 _ _ h.2.2.2).trans h.1,(g.use.1 _ _ h.2.2.2).trans h.2.1,λ o=>(g.use.2.1 _ _ h.2.2.2).trans (h.2.2.1 o),U4 h.2.2.2 g.size⟩
theorem FX.st{b:Nat}{x y:Value}{w w':World}{F F':Nat->Prop}(h:FX b x y w)(g:St F F' w w')(hb:¬F b):FX b x y w' :=
 ⟨((g.use _ h.2.2.2 hb).1 _).trans h.1,((g.use _ h.2.2.2 hb).1 _).trans h.2.1,λ o=>((g.use _ h.2.2.2 hb).2 _).trans (h.2.2.1 o),U4 h.2.2.2 g.size⟩
theorem FX.set{b:Nat}{x y:Value}{w:World}(h:FX b x y w)(x' y':Value):FX b x' y' ((w.setCell ⟨b,0,none⟩ x').setCell ⟨b,1,none⟩ y'):=by
 obtain⟨h0,h1,hf,hl⟩:=h;refine⟨?_,?_,λ o=>by simp[hf],by simpa using hl⟩;exact J19
 exact J18
theorem FX.new(w:World)(x y:Value)(T:TypeId):FX w.heap.size x y (w.alloc (.cells #[x,y] T)):=⟨by simp,by simp,λ o=>by simp[go_sem],by simp⟩
theorem Olx(E:Vz)(hE:O2f Tb E)(w:World)(R B base:Nat)(s:ByteArray)(root:Int)(nv:Value)(L:List Vw)(own:Nat->Nat)(h:RdV w R B base s root nv L own)(lp:GW Tb base w)(hs:s.size<=20000000)
    (i d:Int)(n:Nat)(hi:i=n)(hn:n<=s.size)(X:Va (Nat×Nat×Vc))
    (hX:(match E.str ((bs s).drop n) with
     |.non => .non
     |.bad c p => .bad c (n+p)
     |.ok (t,m)=>if Pl.room (L.map (·.nd)) then .ok ((L.map (·.nd)).length,n+m,L.map (·.nd)++[V5k 3 t n (n+m)]) else .non:Va (Nat×Nat×Vc))=X) (a8:X ≠ .non) :
    Calls prog 44 #[.pointer (some ⟨R,0,none⟩),i,d] w (O4c s R B base root own w X):=by
 subst hi;rw[show E.str=Vj Tb from hE]at hX;obtain⟨c0,c1,c2,c3,fz⟩:=h.cells;have hR:=h.R_lt;have H:=U0 h;cases hq:Vj Tb ((bs s).drop n) with
 |non=>rw[hq]at hX;exact absurd hX.symm a8
 |bad c p =>
  rw[hq]at hX;subst hX;have HQ:=U0 (λ W (g:Gr w W)=>O6g Tb s n n rfl hn hs _ hq (by simp) W (lp.q.gr g));clear lp;clear a8 hq fz c0 c1 c3 h;go_enter func44,ntmps44;go_wp2_with fail;refine (HQ.o _ Gr.auto).mono ?_;rintro e w1 ⟨rfl,hc,g1⟩;have kL:¬(c:Int)=0:=by omega
  have Lv:((n+p:Nat):Int)=(n:Int)+(p:Int):=by simp
  have dl:=(FX.new w (0:Int) (0:Int) 29).gr g1;have dY:=U0 (dl.set c (.int .i64 (n+p:Nat)));obtain⟨f1,f2,f3,f4⟩:=dl;go_wp2_with fail;refine (O1k c (n+p) kL _).mono ?_;rintro e w2 ⟨rfl,g2⟩;obtain⟨q0,q1,qf,eA⟩:=dY.o.gr g2;go_wp2_with fail
  go_region
  all_goals go_wp2_with fail
  exact U1 (v := .tuple #[(0:Int),(0:Int),fv c (n+p)]) (by simp[results,results44,go_sem,q0,q1,qf,eA]) rfl ⟨rfl,hc,FV own,St.auto,H.o.rk.gr Gr.auto⟩
 |ok r =>
  obtain⟨t,m⟩:=r;rw[hq]at hX;simp only at hX;cases hr:Pl.room (L.map (·.nd)) with
  |false=>rw[hr,Ud (by simp)]at hX;exact absurd hX.symm a8
  |true =>
  rw[hr,Ua rfl]at hX;subst hX;have HQ:=U0 (λ W (g:Gr w W)=>O6g Tb s n n rfl hn hs _ hq (by simp) W (lp.q.gr g));clear lp;have HR:=U0 hr;have As:Hid (¬FV own w.heap.size):=h.not_new (U2 _);clear a8 hq fz c0 c1 c3 h hr;go_enter func44,ntmps44;go_wp2_with fail;refine (HQ.o _ Gr.auto).mono ?_;rintro e w1 ⟨rfl,uK,hm,g1⟩;have dl:=(FX.new w (.int .i64 0) (0:Int) 29).gr g1;have dY:=U0 (dl.set (0:Int) (0:Int));obtain⟨f1,f2,f3,f4⟩:=dl;have Lv:((n+m:Nat):Int)=(n:Int)+(m:Int):=by simp
  go_wp2_with fail;refine Z153 ?_;intro w2 g2;have df:=dY.o.gr g2;have bC:Gr w w2:=by
   refine Gr.trans (Gr.setCell (Gr.setCell (((Gr.refl w).alloc _).trans g1) (U2 _) _) (U2 _) _) g2
  clear g2 dY g1 f1 f2 f3 f4;go_wp2_with fail;have hS:FX w.heap.size (0:Int) (0:Int) w2.drew:=df.gr (Gr.refl _).drew;refine Reg.begin' (W:=λ i=>i != 11) (S:=FX w.heap.size (0:Int) (0:Int)) (by kernel_rfl) ?_;refine Z32 ?_;refine Z42 ?_;refine Reg.ty 5 ?_;refine Reg.ty 7 ?_;refine Reg.tl 8 hS ?_ (hy:=by intro w ab;obtain⟨q0,q1,qf,ql⟩:=ab;go_simp;try with_reducible rfl);refine Reg.on 6 ?_;go_simp;refine (O9q w w2.drew R B base s root nv L own H.o bC.drew HR.o 3 (by omega) ⟨t.toArray⟩ n (n+m) 3 rfl _ Lv.symm).mono ?_;rintro e w3 ⟨rfl,nv',own',oD,kK,fV,jE⟩;have d7:=hS.st jE As.o;refine Z133 ?_;refine Reg.ty 9 ?_;refine Reg.ty 10 ?_;obtain⟨p0,p1,pf,pl⟩:=d7;have eG:¬FV own' w.heap.size:=by
   intro hf;rcases fV _ hf with e|e
   exact As.o e
   have:=hS.2.2.2;omega
  have H3:=U0 oD;have wl:=U0 kK;have wn:=U0 fV;clear oD kK fV jE;refine Reg.on 11 ?_;go_simp;refine Z12 ?_;go_wp2_with fail;refine U1 (v := .tuple #[L.length,.int .i64 (n+m:Nat),f0]) (by simp[results,results44,go_sem,p0,p1,pf,pl]) rfl ?_;refine⟨by simp,uK,by simp,nv',_,own',(H3.o.setCell eG _).setCell eG _,by simp[O35,bs],?_,λ k hk=>(wn.o k hk).imp id (λ e=>Uj bC.size e)⟩;exact (wl.o.setCell (.inr (U2 _)) _).setCell (.inr (U2 _)) _
end Go.Proofs.YtnkgknbdaiakgaaGreatDoor
namespace Go.Proofs.YtnkgknbdaiakgaaGreatDoor
open Pl Go.Proofs.Tryz Go.RowKit Go.Shelf Go.Joins
attribute [local go_sem] Uy
theorem Obm(x:ByteArray):∀(ks:List Pl.Bs)(i:Nat),Lib.idxFromS (ks.map λ k=>(⟨k.toArray⟩:ByteArray)) x i=match ks.findIdx? (λ k=>k==bs x) with
    |none => -1
    |some j=>((i+j:Nat):Int)
 |[],_=>rfl
 | k::ks,i=>by
  have e:((⟨k.toArray⟩:ByteArray)=x) ↔ (k==bs x)=true:=by
   rw[U1v];constructor;intro h;rw[<-h]
   intro h;rw[h]
  rw[U2i,List.findIdx?_cons,Lib.idxFromS];cases hk:k==bs x with
  |true=>rw[Ua (e.2 hk)];simp
  |false =>
   rw[Ud (λ h=>by rw[e.1 h]at hk;cases hk),Obm x ks (i+1)];cases ks.findIdx? (λ k=>k==bs x) with
   |none=>rfl
   |some j =>
    show ((i+1+j:Nat):Int)=((i+(j+1):Nat):Int)
    congr 1;omega
def Onr:V7v->Value
 |.yes i => .tuple #[i,.bool true]
 |_ => .tuple #[(0:Int),.bool false]
theorem Ogt(w:World)(R B base:Nat)(s:ByteArray)(root:Int)(nv:Value)(L:List Vw)(own:Nat->Nat)(h:RdV w R B base s root nv L own)
    (i:Nat)(key:ByteArray)(X:V7v)(hX:V12 (L.map (·.nd)) i (bs key)=X)(a8:X ≠ .non) :
    Calls prog 102 #[.pointer (some ⟨R,0,none⟩),i,.string key] w λ e w'=>e = .returned (Onr X)/\w=w':=by
 unfold V12 at hX;rw[Uq]at hX;cases hr:L[i]? with
 |none=>rw[hr]at hX;exact absurd hX.symm a8
 |some r =>
 rw[hr]at hX;simp only[U18]at hX;have hi:i<L.length:=(U7.1 hr).1;obtain⟨g,cap,cur,rfl,lW,aY,dM,nR,sB,ld,iY,DY,eL,lX⟩:=h.form (by omega);obtain⟨c0,c1,c2,c3,fz⟩:=h.cells;obtain⟨n0,n1,n2,n3,n4,n5,n6,nf⟩:=h.ndCells rfl i r hr;refine Z140 ?_;intro mF ei;have hx:=h.rows i r hr;have HI:Hid (Calls prog 146 #[r.kv,.string key] w λ e w'=>e = .returned (.int .i64 (match r.nd.keys.findIdx? (λ k=>k==bs key) with|none => -1|some j=>(j:Int)))/\w=w'):=by
  refine Z214 ?_;intro dB;by_cases hn:0<r.nd.keys.length;obtain⟨b,c,hv,lZ,eL⟩:=(O14 hx.k).form hn;have cX:=(O14 hx.k).cells (g:=b) (by rw[hv];rfl);exact J138
  have h0:r.nd.keys=[]:=U1z (by omega);obtain⟨a,c,hv⟩:∃a c,r.kv = .slice a 0 c:=by
   rcases ownsRow_forms hx.k with⟨e,_⟩|⟨g',c',e⟩
   exact⟨none,0,e⟩
   exact⟨some ⟨g',0,none⟩,c',by rw[e,h0];rfl⟩
  exact J188
 cases hf:r.nd.keys.findIdx? (λ k=>k==bs key) with
 |none =>
  rw[hf]at hX HI;subst hX;clear hf hx h a8 c1 c2 c3 fz n0 n1 n3 n4 n5 n6 nf ld lX iY;go_enter func102,ntmps102;go_wp2_with fail;refine HI.o.mono ?_;refine Z48 ?_;go_wp2_with fail;exact U1 (v := .tuple #[(0:Int),.bool false]) (by simp[results,results102,go_sem]) rfl ⟨rfl,rfl⟩
 |some j =>
  rw[hf]at hX HI;simp only at hX HI;cases hu:r.nd.subs[j]? with
  |none=>rw[hu]at hX;exact absurd hX.symm a8
  |some u =>
  rw[hu]at hX;simp only at hX
  split at hX
  ·subst hX;have hj:j<r.nd.subs.length:=(U7.1 hu).1;obtain⟨b,c,hv,lZ,eL⟩:=hx.u.form (by omega);have cX:=hx.u.cells (g:=b) (by rw[hv];rfl) j u (by simp[O7,hu]);rw[hv]at n4;refine Z291 ?_;intro AS;have pv:(j:Int)<(r.nd.subs.length:Int):=by omega
   have NU:decide ((j:Int)<0)=false:=by simp
   clear hf hx h a8 c1 c2 c3 fz n0 n1 n3 n5 n6 nf ld lX iY hu;go_enter func102,ntmps102;go_wp2_with fail;refine HI.o.mono ?_;refine Z48 ?_;go_wp2_with fail;exact U1 (v := .tuple #[u,.bool true]) (by simp[results,results102,go_sem]) rfl ⟨rfl,rfl⟩
  exact absurd hX.symm a8
