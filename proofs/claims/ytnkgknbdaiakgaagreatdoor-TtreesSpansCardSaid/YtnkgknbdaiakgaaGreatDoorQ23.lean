/- The proof's part 23. -/
import Derived.Test.YtnkgknbdaiakgaaGreatDoorQ15
import Derived.Test.YtnkgknbdaiakgaaGreatDoorQ21
set_option maxHeartbeats 16000000
set_option linter.all false
set_option maxRecDepth 100000
namespace Go.Proofs.YtnkgknbdaiakgaaGreatDoor
open Pl Go.Proofs.Tryz Go.RowKit Go.Joins
def Oas(long:Bool)(q:UInt8):TypeId:=if long then (if q.toNat==39 then 171 else 172) else (if q.toNat==39 then 169 else 170)
theorem O69(s:ByteArray)(i:Int)(n:Nat)(hi:i=n)(hn:n<s.size)(hs:s.size<=20000000)(long:Bool)(hl:V35 (bs s) n=long)(w:World):Calls prog 64 #[.string s,i] w λ e w'=>e=.returned (.tuple #[.pointer (some ⟨w,0,none⟩),.iface (Oas long s[n]) (.agg #[.pointer (some ⟨w,0,none⟩)])]) /\RdQ w' w.heap.size s (n+if long then 3 else 1) s[n] [] (.slice none 0 0)/\Gr w w':=by
 subst hi;have HL:=U10 hl;clear hl;refine Z228 ?_;intro bB bX;unfold Oas;cases long
 ·cases kD:(s[n].toNat==39)
  all_goals
   obtain⟨b1,b2⟩:=V1u _ 39 _ kD;clear kD;go_enter func64,ntmps64;go_wp2_with (go_at_call 38;refine (O2b s _ n rfl Ya hs _).mono ?_;rw[HL.o];rintro e w1 ⟨rfl,rfl⟩)
   go_ret2
   refine⟨rfl,⟨?_,World.ownsRow_nil _ _ _ _⟩,Gr.auto⟩
   simpa using U1w w (.cells #[.string s,.int .i64 (n+1:Nat),Ob s[n],.slice none 0 0] 136)
 cases kD:(s[n].toNat==39)
 all_goals
  obtain⟨b1,b2⟩:=V1u _ 39 _ kD;clear kD;go_enter func64,ntmps64;go_wp2_with (go_at_call 38;refine (O2b s _ n rfl Ya hs _).mono ?_;rw[HL.o];rintro e w1 ⟨rfl,rfl⟩)
  go_ret2
  refine⟨rfl,⟨?_,World.ownsRow_nil _ _ _ _⟩,Gr.auto⟩
  simpa using U1w w (.cells #[.string s,.int .i64 (n+3:Nat),Ob s[n],.slice none 0 0] 136)
namespace Pl
def V15(T:Nat->UInt8×UInt8)(long:Bool)(q:UInt8)(l:List UInt8):Option SR :=
 if long then (if q.toNat==39 then some (V2u q l) else some (V38 T q l)) else (if q.toNat==39 then some (V4s q l) else V49 T q l)
def V2i(step:List UInt8->Option SR)(l:Bs):Nat->Nat->Bs->V9 (Bs×Nat)
 |0,_,_ => .non
 |f+1,n,out =>
  match l.drop n with
  |[] => .bad 3 l.length
  |c::r =>
   match step (c::r) with
   |none => .non
   |some (.bad p) => .bad 3 (n+p)
   |some (.go m t over)=>if over then .ok (out++t,n+m) else V2i step l f (n+m) (out++t)
def Vi(T:Nat->UInt8×UInt8)(l:Bs):V9 (Bs×Nat) :=
 match l with
 |[] => .bad 3 0
 |c::r =>
  if (c.toNat==34 || c.toNat==39)=true then
   if long (c::r) then
    match feed ((c::r).drop 3) with
    |.bad k p => .bad k (3+p)
    |.ok m=>V2i (V15 T true c) (c::r) ((c::r).length+2) (3+m) []
   else V2i (V15 T false c) (c::r) ((c::r).length+2) 1 []
  else .bad 3 0
theorem O3a(l:List UInt8)(m:Nat)(t:List UInt8)(o:Bool)(h:V33 l=.go m t o):t.length<=m/\1<=m/\m<=l.length:=by
 cases l with
 |nil=>simp[V33]at h
 |cons c r =>
  unfold V33 at h;by_cases hp:V3u c=true;simp only[hp,U2o,SR.go.injEq]at h;obtain⟨rfl,rfl,rfl⟩:=h;simp
  simp only[hp,U2f]at h;cases h
theorem Ogt(q:UInt8)(c:UInt8)(r:List UInt8)(hc:(c.toNat==q.toNat)=true)(m:Nat)(t:List UInt8)(o:Bool)(h:V3j q (c::r)=.go m t o):t.length<=m/\1<=m/\m<=(c::r).length:=by
 have h1:=Ogp q (c::r);have h2:1<=run q (c::r):=by unfold run;rw[U1p,U1a hc];simp
 unfold V3j at h;dsimp only at h;have h3:O2i q (c::r)<=run q (c::r)/\1<=O2i q (c::r):=by unfold O2i;omega
 split at h;cases h;simp at h1⊢;omega
 cases h;simp at h1⊢;omega
theorem Od3(q:UInt8)(l:List UInt8)(m:Nat)(t:List UInt8)(o:Bool)(h:V4s q l=.go m t o):t.length<=m/\1<=m/\m<=l.length:=by
 cases l with
 |nil=>simp[V4s]at h
 |cons c r =>
  unfold V4s at h;dsimp only at h
  split at h;cases h;simp
  exact O3a _ _ _ _ h
theorem Od4(T)(q:UInt8)(l:List UInt8)(m:Nat)(t:List UInt8)(o:Bool)(h:V49 T q l=some (.go m t o)):t.length<=m/\1<=m/\m<=l.length:=by
 cases l with
 |nil=>simp[V49]at h
 |cons c r =>
  unfold V49 at h;dsimp only at h
  split at h;cases h;simp
  split at h;simp only[U1f]at h;exact O31 _ _ _ _ _ h
  simp only[U1f]at h;exact O3a _ _ _ _ h
theorem O3w(q:UInt8)(l:List UInt8)(m:Nat)(t:List UInt8)(o:Bool)(h:V2u q l=.go m t o):t.length<=m/\1<=m/\m<=l.length:=by
 unfold V2u at h
 split at h
 rename_i x hx
 subst h;cases l with
 |nil=>simp[V1k]at hx
 |cons c r =>
  unfold V1k at hx;dsimp only at hx
  split at hx;rename_i hc;simp only[U1f]at hx;exact Ogt q c r hc m t o hx
  split at hx;cases hx
  rename_i n hf
  have:=V3q _ _ hf;cases hx;refine⟨by rw[U26];omega,Ya,this⟩
  cases hx
 exact O3a _ _ _ _ h
theorem O81(T)(q:UInt8)(l:List UInt8)(m:Nat)(t:List UInt8)(o:Bool)(h:V38 T q l=.go m t o):t.length<=m/\1<=m/\m<=l.length:=by
 unfold V38 at h
 split at h
 rename_i x hx
 subst h;exact O3w q l m t o (by unfold V2u;rw[hx])
 split at h;cases h
 rename_i c r _
 split at h
 split at h;exact O31 _ _ _ _ _ h
 split at h;obtain⟨h1,h2,h3,_⟩:=V4y _ _ _ _ Yb h;exact⟨h1,h2,h3⟩
 exact O31 _ _ _ _ _ h
 exact O3a _ _ _ _ h
theorem V3p(T)(long:Bool)(q:UInt8)(l:List UInt8)(m:Nat)(t:List UInt8)(o:Bool)(h:V15 T long q l=some (.go m t o)):t.length<=m/\1<=m/\m<=l.length:=by
 unfold V15 at h
 split at h
 split at h;simp only[U1f]at h;exact O3w _ _ _ _ _ h
 simp only[U1f]at h;exact O81 _ _ _ _ _ _ h
 split at h;simp only[U1f]at h;exact Od3 _ _ _ _ _ h
 exact Od4 _ _ _ _ _ _ h
end Pl
def O52(long:Bool)(q:UInt8):FuncId:=if long then (if q.toNat==39 then 248 else 251) else (if q.toNat==39 then 239 else 242)
theorem O6a(long:Bool)(q:UInt8)(w:World)(R:Nat)(s:ByteArray)(a:Nat)(out:List UInt8)(ov:Value)(h:RdQ w R s a q out ov)(a9:a<s.size)(hs:s.size<=20000000)(ho:out.length<=a)(T:Nat->UInt8×UInt8)(hQ:QW T w)(sr:Pl.SR)(cR:V15 T long q ((bs s).drop a)=some sr):Calls prog (O52 long q) #[.agg #[.pointer (some ⟨R,0,none⟩)]] w (O19 R s a q out ov w sr):=by
 unfold V15 at cR;unfold O52
 split at cR
 rename_i hl
 split at cR
 rename_i hq
 simp only[U1f]at cR;rw[U1a hl,U1a hq,<-cR];exact O5g w R s a q out ov h a9 hs ho
 rename_i hq
 simp only[U1f]at cR;rw[U1a hl,U1c hq,<-cR];exact O6m w R s a q out ov h a9 hs ho T hQ
 rename_i hl
 split at cR
 rename_i hq
 simp only[U1f]at cR;rw[U1c hl,U1a hq,<-cR];exact O7y w R s a q out ov h a9 hs ho
 rename_i hq
 rw[U1c hl,U1c hq];exact Oad w R s a q out ov h a9 hs ho T hQ sr cR
def V9l(R:Nat)(w:World):Nat:=match w.cell? ⟨R,1,none⟩ with
 |some (.int _ n)=>n.toNat
 |_=>0
theorem O8t{w R s a q out ov}(h:RdQ w R s a q out ov):V9l R w=a:=by
 unfold V9l;rw[h.cells.2.1];simp
def O73(s:ByteArray)(n:Nat)(w:World)(x:V9 (Pl.Bs×Nat))(e:Ending)(w':World):Prop :=
 match x with
 |.non=>True
 |.ok (t,m)=>e=.returned (.tuple #[V2s t,.int .i64 (n+m:Nat),f0])/\n+m<=s.size/\1<=m/\Gr w w'
 |.bad c p=>e=.returned (.tuple #[.string ⟨#[]⟩,(0:Int),fv c (n+p)])/\c≠0/\Gr w w'
theorem Odg(long:Bool)(q:UInt8)(a:Addr)(w:World):(method 433 (Oas long q) (.agg #[.pointer (some a)]) "inarch/tquotes.step").run prog w=.ok (O52 long q,.agg #[.pointer (some a)]) w:=by
 unfold Oas O52;cases long <;> cases (q.toNat==39) <;> kernel_rfl
theorem Odh(long:Bool)(q:UInt8):∀args w,(callFunc (O52 long q) args).run prog w=.ok (.enter (O52 long q) args) w:=by
 unfold O52;cases long <;> cases (q.toNat==39);exact enters_of func242 Yc rfl;exact enters_of func239 Yc rfl;exact enters_of func251 Yc rfl
 exact enters_of func248 Yc rfl
theorem O85(s:ByteArray)(i:Int)(n:Nat)(hi:i=n)(hn:n<=s.size)(hs:s.size<=20000000)(h:∀h:n<s.size,(s[n].toNat==34 || s[n].toNat==39)=false)(w:World):Calls prog 40 #[.string s,i] w λ e w'=>e=.returned (.tuple #[.string ⟨#[]⟩,(0:Int),fv 3 n])/\Gr w w':=by
 subst hi;have C7:decide ((n:Int)<0)=false:=Yb
 have mu:decide ((s.size:Int)<(n:Int))=false:=Ye
 by_cases a9:n<s.size
 have h2:=h a9;rw[Bool.or_eq_false_iff]at h2;have c1:((s[n].toNat:Int) != 34)=true:=(V1u _ 34 _ h2.1).2;have c2:((s[n].toNat:Int) != 39)=true:=(V1u _ 39 _ h2.2).2;have he:((n:Int)==(s.size:Int))=false:=Ye;clear h h2;refine Z228 ?_;intro bB bX;exact J143
 have he:((n:Int)==(s.size:Int))=true:=Ye;clear h;exact J143
theorem Okg{w:World}{base:Nat}{ov:Value}{out:List UInt8}(h:w.ownsRow base 5 1 ov out.length (out.map Ob)):(convert 22 9 ov).run prog w=.ok (V2s out) w:=by
 refine Z71 ?_;intro e0;rcases h.2 with⟨rfl,hn⟩|⟨g,cap,cur,rfl,cr,y9,h1,h2,h3,h4⟩
 rw[run_convert_bytes_nil w 22 5 underlying22 underlying5 0 0 9 underlying9];obtain rfl:out=[]:=U31 hn;rfl
 rw[U4c w 22 5 underlying22 underlying5 g 0 out.length cap (out.map λ x=>(x.toNat:Int)) Yb (λ i hi=>?_) 9 underlying9,e0];have:=h.cells (g:=g) rfl i (Ob (out[i])) (by simp[hi]);rw[U49]at this;rw[this];simp[List.getD,hi]
namespace Pl
theorem V7r(step:List UInt8->Option SR)(l:Bs)(f n:Nat)(out:Bs)(X:V9 (Bs×Nat))(h:V2i step l (f+1) n out=X)(a8:X≠.non)(hn:n<l.length) :
    ∃sr,step (l.drop n)=some sr/\match sr with
     |.bad p => .bad 3 (n+p)=X
     |.go m t over=>(if over=true then .ok (out++t,n+m) else V2i step l f (n+m) (out++t))=X:=by
 unfold V2i at h;obtain⟨c,r,AC⟩:∃c r,l.drop n=c::r:=⟨_,_,U1u hn⟩
 rw[AC]at h⊢;dsimp only at h;cases hs:step (c::r) with
 |none=>rw[hs]at h;exact absurd h.symm a8
 |some sr =>
  rw[hs]at h;refine⟨sr,rfl,?_⟩;cases sr with
  |bad p=>exact h
  |go m t over=>exact h
theorem V87(step:List UInt8->Option SR)(l:Bs)(f n:Nat)(out:Bs)(X:V9 (Bs×Nat))(h:V2i step l f n out=X)(a8:X≠.non)(hn:¬n<l.length) : .bad 3 l.length=X:=by
 cases f with
 |zero=>exact absurd h.symm a8
 |succ f =>
  unfold V2i at h;rw[U1t Ya]at h;exact h
end Pl
inductive V5z (s:ByteArray)(n:Nat):Bool->Nat->Prop where
 |short:V5z s n false (n+1)
 |feed (m:Nat):n+3<s.size->Pl.feed ((bs s).drop (n+3))=.ok m->V5z s n true (n+3+m)
 |none:n+3=s.size->V5z s n true (n+3)
theorem O54(T:Nat->UInt8×UInt8)(s:ByteArray)(i:Int)(n:Nat)(hi:i=n)(hn:n<s.size)(hs:s.size<=20000000)(hq:(s[n].toNat==34 || s[n].toNat==39)=true)(long:Bool)(hl:V35 (bs s) n=long)(a0:Nat)(hf:V5z s n long a0)(Uy:a0<=s.size)(f:Nat)(X:V9 (Pl.Bs×Nat))(hX:V2i (V15 T long s[n]) ((bs s).drop n) f (a0-n) []=X)(a8:X≠.non)(w:World)(hQ:QW T w):Calls prog 40 #[.string s,i] w (O73 s n w X):=by
 subst hi;have C7:decide ((n:Int)<0)=false:=Yb
 have mu:decide ((s.size:Int)<(n:Int))=false:=Ye;have he:((n:Int)==(s.size:Int))=false:=Ye;refine Z228 ?_;intro bB bX;have HX:=U10 hX;have sx:=U10 hQ;clear hQ;have HL:=U10 hl;obtain⟨q,pG⟩:=ExZ (s[n])
 have HQ:=U10 pG;rw[pG]at hq;have Md:=U10 hq;clear hX hl pG hq;rw[HQ.o]at HX;have Qz:=Odg long q ⟨w+1,0,none⟩;have um:=Odh long q;refine Z161 ?_;intro ke;have Fl:n+3<s.size->decide ((n:Int)+3<(s.size:Int))=true:=λ h=>by simp;omega
 rcases ke with⟨c1,c2⟩|c1
 all_goals
  cases hf with
  |short =>
   clear Fl;go_enter func40,ntmps40;go_wp2_with (first|(go_at_call 38;refine (O2b s _ n rfl Ya hs _).mono ?_;rw[HL.o];rintro e w1 ⟨rfl,rfl⟩)|(go_at_call 64;refine (O69 s _ n rfl hn hs _ HL.o _).mono ?_;rw[HQ.o];rintro e w1 ⟨rfl,aZ,g1⟩;simp only[U1s,U23,U2f,U2o]at aZ;obtain⟨d0,d1,d2,d3,dz⟩:=aZ.cells;have aN:=U10 aZ;clear aZ;obtain⟨ag,au,az⟩:=g1.use;simp at az));have aM:=aN.o.lt
   go_loopw [12] (λ _ wr=>∃(k a:Nat)(out:List UInt8)(ov:Value),RdQ wr (w.heap.size+1) s a q out ov/\V2i (V15 T false q) ((bs s).drop n) k (a-n) out=X/\n<a/\a<=s.size/\out.length<=a/\Gr w wr/\w.heap.size+2<=wr.heap.size /\
       wr.cell? w=some (.int .i64 0)/\wr.cell? ⟨w,1,none⟩=some (.int .i64 0)/\wr.frozen? w=false/\wr.frozen? ⟨w,1,none⟩=false) (λ _ wr=>s.size-V9l (w.heap.size+1) wr)
   case atStart =>
    refine⟨f,n+1,[],_,aN.o,HX.o,Ya,Ya,Yb,Gr.auto,Ya,(ag _ _ Yb).trans Yb,(ag _ _ Yb).trans Yb,(au _ _ Yb).trans Yh,(au _ _ Yb).trans Yh⟩
   case round =>
    obtain⟨k,a,out,ov,hr,hx,ET,PJ,BM,hg,hz,m0,m1,m2,m3⟩:=hrel;obtain⟨e0,e1,e2,e3,ez⟩:=hr.cells;have eW:=O8t hr;have HP:=U10 eW;have HR:=U10 hr;have ek:=U10 hx;clear hr hx d0 d1 d2 d3 dz e3 eW;by_cases a9:a<s.size
    ·obtain⟨k,rfl⟩:∃k',k=k'+1:=by
      cases k with
      |zero=>exact absurd ek.o.symm a8
      |succ k=>exact⟨k,rfl⟩
     refine Z233 ?_;intro sr tD jo;go_wp2_with fail;cases sr with
     |bad p =>
      refine (O6a false q _ _ s a out ov HR.o a9 hs BM T (sx.o.gr hg) _ tD.o).mono ?_;exact J119
     |go m t over =>
      have km:=V3p _ _ _ _ _ _ _ tD.o;rw[U16,O0]at km;refine (O6a false q _ _ s a out ov HR.o a9 hs BM T (sx.o.gr hg) _ tD.o).mono ?_;exact J106
    exact J66
  |feed Fm h1 h2 =>
   have sE:=Fl h1;have Iv:=U10 h2;clear Fl h2;go_enter func40,ntmps40;go_wp2_with (first|(go_at_call 38;refine (O2b s _ n rfl Ya hs _).mono ?_;rw[HL.o];rintro e w1 ⟨rfl,rfl⟩)|(go_at_call 64;refine (O69 s _ n rfl hn hs _ HL.o _).mono ?_;rw[HQ.o];rintro e w1 ⟨rfl,aZ,g1⟩;simp only[U1s,U23,U2f,U2o]at aZ;obtain⟨d0,d1,d2,d3,dz⟩:=aZ.cells;have aN:=U10 aZ;clear aZ;obtain⟨ag,au,az⟩:=g1.use;simp at az)|(go_at_call 65;refine (O68 _ _ s (n+3) q [] _ aN.o h1 hs).mono ?_;rw[Iv.o];rintro e w4 ⟨rfl,g4⟩;have pn:=aN.o.gr g4;clear d0 d1 d2 d3 dz;obtain⟨d0,d1,d2,d3,dz⟩:=pn.cells;have cN:=U10 pn;have QA:=pn.lt;clear pn;obtain⟨nQ,lH,nR⟩:=g4.use));have aM:=cN.o.lt
   go_loopw [12] (λ _ wr=>∃(k a:Nat)(out:List UInt8)(ov:Value),RdQ wr (w.heap.size+1) s a q out ov/\V2i (V15 T true q) ((bs s).drop n) k (a-n) out=X/\n<a/\a<=s.size/\out.length<=a/\Gr w wr/\w.heap.size+2<=wr.heap.size /\
       wr.cell? w=some (.int .i64 0)/\wr.cell? ⟨w,1,none⟩=some (.int .i64 0)/\wr.frozen? w=false/\wr.frozen? ⟨w,1,none⟩=false) (λ _ wr=>s.size-V9l (w.heap.size+1) wr)
   case atStart =>
    rw[show ((n:Int)+3+(Fm:Int))=((n+3+Fm:Nat):Int) from by omega];have Mz:Gr w w4:=(((Gr.refl w).alloc _).trans g1).trans g4;have q0:w4.cell? w=some (.int .i64 0):=(nQ _ _ Ya).trans ((ag _ _ Yb).trans Yb);have q1:w4.cell? ⟨w,1,none⟩=some (.int .i64 0):=(nQ _ _ Ya).trans ((ag _ _ Yb).trans Yb);have q2:w4.frozen? w=false:=(lH _ _ Ya).trans ((au _ _ Yb).trans Yh);have q3:w4.frozen? ⟨w,1,none⟩=false:=(lH _ _ Ya).trans ((au _ _ Yb).trans Yh);have tj:w.heap.size<w4.heap.size:=Ya
    refine⟨f,n+3+Fm,[],.slice none 0 0,(cN.o.setAt (n+3+Fm)).alloc _,HX.o,Ya,Ya,Yb,(Mz.setCell Yb _).alloc _,by simp[World.setCell];omega,?_,?_,?_,?_⟩
    all_goals (simp[go_sem,tj];try assumption)
   case round =>
    exact J67
  |none h1 =>
   have sE:decide ((n:Int)+3<(s.size:Int))=false:=Ye;clear Fl;go_enter func40,ntmps40;go_wp2_with (first|(go_at_call 38;refine (O2b s _ n rfl Ya hs _).mono ?_;rw[HL.o];rintro e w1 ⟨rfl,rfl⟩)|(go_at_call 64;refine (O69 s _ n rfl hn hs _ HL.o _).mono ?_;rw[HQ.o];rintro e w1 ⟨rfl,aZ,g1⟩;simp only[U1s,U23,U2f,U2o]at aZ;obtain⟨d0,d1,d2,d3,dz⟩:=aZ.cells;have aN:=U10 aZ;clear aZ;obtain⟨ag,au,az⟩:=g1.use;simp at az));have aM:=aN.o.lt
   go_loopw [12] (λ _ wr=>∃(k a:Nat)(out:List UInt8)(ov:Value),RdQ wr (w.heap.size+1) s a q out ov/\V2i (V15 T true q) ((bs s).drop n) k (a-n) out=X/\n<a/\a<=s.size/\out.length<=a/\Gr w wr/\w.heap.size+2<=wr.heap.size /\
       wr.cell? w=some (.int .i64 0)/\wr.cell? ⟨w,1,none⟩=some (.int .i64 0)/\wr.frozen? w=false/\wr.frozen? ⟨w,1,none⟩=false) (λ _ wr=>s.size-V9l (w.heap.size+1) wr)
   case atStart =>
    refine⟨f,n+3,[],_,aN.o,HX.o,Ya,Ya,Yb,Gr.auto,Ya,(ag _ _ Yb).trans Yb,(ag _ _ Yb).trans Yb,(au _ _ Yb).trans Yh,(au _ _ Yb).trans Yh⟩
   case round =>
    exact J67
theorem Oc2(s:ByteArray)(i:Int)(n:Nat)(hi:i=n)(hn:n<s.size)(hs:s.size<=20000000)(hq:(s[n].toNat==34 || s[n].toNat==39)=true)(hl:V35 (bs s) n=true)(h3:n+3<s.size)(c p:Nat)(hf:Pl.feed ((bs s).drop (n+3))=.bad c p)(w:World):Calls prog 40 #[.string s,i] w (O73 s n w (.bad c (3+p))):=by
 subst hi;obtain⟨rfl,rfl⟩:=V46 _ _ _ hf;have C7:decide ((n:Int)<0)=false:=Yb
 have mu:decide ((s.size:Int)<(n:Int))=false:=Ye;have he:((n:Int)==(s.size:Int))=false:=Ye;refine Z228 ?_;intro bB bX;have HL:=U10 hl;have Iv:=U10 hf;obtain⟨q,pG⟩:=ExZ (s[n])
 have HQ:=U10 pG;rw[pG]at hq;have Md:=U10 hq;clear hl pG hq hf;refine Z161 ?_;intro ke;have sE:decide ((n:Int)+3<(s.size:Int))=true:=Ye
 rcases ke with⟨c1,c2⟩|c1
 all_goals
  go_enter func40,ntmps40;go_wp2_with (first|(go_at_call 38;refine (O2b s _ n rfl Ya hs _).mono ?_;rw[HL.o];rintro e w1 ⟨rfl,rfl⟩)|(go_at_call 64;refine (O69 s _ n rfl hn hs _ HL.o _).mono ?_;rw[HQ.o];rintro e w1 ⟨rfl,aZ,g1⟩;simp only[U1s,U23,U2f,U2o]at aZ;obtain⟨d0,d1,d2,d3,dz⟩:=aZ.cells;have aN:=U10 aZ;clear aZ;obtain⟨ag,au,az⟩:=g1.use;simp at az));refine (O68 _ _ s (n+3) q [] _ aN.o h3 hs).mono ?_;rw[Iv.o];rintro e w4 ⟨rfl,g4⟩;clear d0 d1 d2 d3 dz;have aM:=aN.o.lt;obtain⟨nQ,lH,nR⟩:=g4.use;have q0:w4.cell? w=some (.int .i64 0):=(nQ _ _ Ya).trans ((ag _ _ Yb).trans Yb);have q1:w4.cell? ⟨w,1,none⟩=some (.int .i64 0):=(nQ _ _ Ya).trans ((ag _ _ Yb).trans Yb);have q2:w4.frozen? w=false:=(lH _ _ Ya).trans ((au _ _ Yb).trans Yh);have q3:w4.frozen? ⟨w,1,none⟩=false:=(lH _ _ Ya).trans ((au _ _ Yb).trans Yh);have tj:w.heap.size<w4.heap.size:=Ya
  have Mz:Gr w w4:=(((Gr.refl w).alloc _).trans g1).trans g4;clear ag au nQ lH;go_wp2_with fail
  go_region
  all_goals go_wp2_with fail
  all_goals
   refine U11 (v:=.tuple #[.string ⟨#[]⟩,(0:Int),fv 3 (n+3+1)]) (by simp[results,results40,go_sem,q0,q1,q2,q3,tj]) rfl ⟨rfl,Ya,Gr.auto⟩
theorem O6f(T:Nat->UInt8×UInt8)(s:ByteArray)(i:Int)(n:Nat)(hi:i=n)(hn:n<=s.size)(hs:s.size<=20000000)(X:V9 (Pl.Bs×Nat))(hX:Vi T ((bs s).drop n)=X)(a8:X≠.non)(w:World)(hQ:QW T w):Calls prog 40 #[.string s,i] w (O73 s n w X):=by
 by_cases a9:n<s.size
 rw[O8 s n a9]at hX;unfold Vi at hX;dsimp only at hX;cases hq:(s[n].toNat==34 || s[n].toNat==39)
 rw[hq]at hX;simp only[U23,U2f]at hX;subst hX;exact (O85 s i n hi hn hs (λ _=>hq) w).mono λ e w' ⟨h1,h2⟩=>⟨h1,Ya,h2⟩
 rw[hq]at hX;simp only[U2o]at hX;rw[<-O8 s n a9]at hX;cases hl:V35 (bs s) n
 have kx:Pl.long ((bs s).drop n)=false:=hl;rw[kx]at hX;simp only[U23,U2f]at hX;exact O54 T s i n hi a9 hs hq false hl (n+1) .short Ya _ X (by rw[show n+1-n=1 from by omega];exact hX) a8 w hQ
 have kx:Pl.long ((bs s).drop n)=true:=hl;rw[kx]at hX;simp only[U2o]at hX;have h3:n+3<=s.size:=by
  exact J169
 rw[U2j]at hX;by_cases h4:n+3<s.size
 cases hf:Pl.feed ((bs s).drop (n+3)) with
 |bad c p =>
  rw[hf]at hX;simp only at hX;subst hX;exact Oc2 s i n hi a9 hs hq hl h4 c p hf w
 |ok m =>
  rw[hf]at hX;simp only at hX;have hm:=V3q _ _ hf;rw[U16,O0]at hm;exact O54 T s i n hi a9 hs hq true hl (n+3+m) (.feed m h4 hf) Ya _ X (by rw[show n+3+m-n=3+m from by omega];exact hX) a8 w hQ
 have hf:Pl.feed ((bs s).drop (n+3))=.ok 0:=by rw[U1t (by rw[O0];omega)];rfl
 rw[hf]at hX;simp only at hX;exact O54 T s i n hi a9 hs hq true hl (n+3) (.none Ya) Ya _ X (by rw[show n+3-n=3+0 from by omega];exact hX) a8 w hQ
 have e:(bs s).drop n=[]:=U1t (by rw[O0];omega);rw[e]at hX;unfold Vi at hX;subst hX;exact (O85 s i n hi hn hs (λ h=>absurd h a9) w).mono λ e w' ⟨h1,h2⟩=>⟨h1,Ya,h2⟩
theorem O6g(c:UInt8)(w:World):Calls prog 39 #[.int .u8 c.toNat] w λ e w'=>e=.returned (.bool (V2h c))/\w=w':=by
 go_enter func39,ntmps39
 go_wp2
 all_goals go_ret
 all_goals (refine⟨O3l ?_,rfl⟩;rw[U3d];simp[V2h];try omega)
theorem Oc3(l:List UInt8)(a k:Nat)(h:a+k<l.length)(hk:k<=Vs (l.drop a))(hb:V2h (l[a+k]'h)=true):k+1<=Vs (l.drop a):=by
 induction k generalizing a with
 |zero =>
  have:l.drop a=l[a]' Ya::l.drop (a+1):=U1u Ya;have j8:V2h l[a]=true:=hb;rw[this];unfold Vs;rw[U1p,U1a j8];simp
 |succ k ih =>
  have e:l.drop a=l[a]' Ya::l.drop (a+1):=U1u Ya;rw[e]at hk⊢;unfold Vs at hk⊢;rw[U1p]at hk⊢
  split at hk
  rename_i h1
  rw[U1a h1];have:=ih (a+1) Ya (by unfold Vs;simp at hk;omega) (by simpa [show a+1+k=a+(k+1) from by omega]using hb);unfold Vs at this;simp;omega
  simp at hk
theorem Oc4(l:List UInt8)(a k:Nat)(hk:k<=Vs (l.drop a))(hb:∀h:a+k<l.length,V2h (l[a+k]'h)=false):Vs (l.drop a)=k:=by
 induction k generalizing a with
 |zero =>
  by_cases h:a<l.length;have:l.drop a=l[a]'h::l.drop (a+1):=U1u h;have j8:V2h l[a]=false:=hb h;rw[this];unfold Vs;rw[U1p,U1c (by rw[j8];simp)];rfl
  rw[U1t Ya];rfl
 |succ k ih =>
  by_cases h:a<l.length
  have e:l.drop a=l[a]'h::l.drop (a+1):=U1u h;rw[e]at hk⊢;unfold Vs at hk⊢;rw[U1p]at hk⊢
  split at hk
  rename_i h1
  rw[U1a h1];have:=ih (a+1) (by unfold Vs;simp at hk;omega) (λ h=>by have:=hb Ya;simpa [show a+1+k=a+(k+1) from by omega]using this);unfold Vs at this;simp;omega
  simp at hk
  rw[U1t Ya]at hk;simp[Vs]at hk
def Okh(s:ByteArray)(w:World)(x:V9 (Pl.Bs×Nat))(e:Ending)(w':World):Prop :=
 match x with
 |.non=>True
 |.ok (t,m)=>e=.returned (.tuple #[V2s t,m,f0])/\m<=s.size/\Gr w w'
 |.bad c p=>(∃m:Nat,e=.returned (.tuple #[.string ⟨#[]⟩,m,fv c p]))/\c≠0/\Gr w w'
def O2l(T:Nat->UInt8×UInt8)(E:Vv):Prop:=E.str=Vi T
theorem Oc5(s:ByteArray)(n k:Nat):s.extract n (n+k)=⟨(((bs s).drop n).take k).toArray⟩:=by
 apply U30;apply U2q.1;rw[U36,show n+k-n=k from by omega]
theorem Omx(T:Nat->UInt8×UInt8)(E:Vv)(hE:O2l T E)(s:ByteArray)(i:Int)(n:Nat)(hi:i=n)(hn:n<=s.size)(hs:s.size<=20000000)(X:V9 (Pl.Bs×Nat))(hX:Pl.word E (bs s) n=X)(a8:X≠.non)(w:World)(hQ:QW T w):Calls prog 19 #[.string s,i] w (Okh s w X):=by
 have sx:=U10 hQ;clear hQ;subst hi;unfold Pl.word at hX;cases hl:V35 (bs s) n
 ·rw[hl]at hX;simp only[U23,U2f]at hX;have HL:=U10 hl;have HX:=U10 hX;have qq:=Vj V2h ((bs s).drop n);rw[U16,O0]at qq;clear hl hX;go_enter func19,ntmps19;go_wp2_with (go_at_call 38;refine (O2b s _ n rfl hn hs _).mono ?_;rw[HL.o];rintro e w1 ⟨rfl,rfl⟩)
  go_loopw [5] (λ v wr=>∃k:Nat,v=.int .i64 (n+k:Nat)/\k<=Vs ((bs s).drop n)/\wr=w.alloc (.cells #[(0:Int),(0:Int)] 29)) (λ v _=>s.size-(intOf v).toNat)
  case atStart=>exact⟨0,rfl,Ya,rfl⟩
  case round =>
   obtain⟨k,rfl,hk,rfl⟩:=hrel;have ed:k<=s.size-n:=U1l hk qq;by_cases dR:∃a9:n+k<s.size,V2h s[n+k]=true
   ·obtain⟨a9,hb⟩:=dR;have mu:decide ((n:Int)+(k:Int)<(s.size:Int))=true:=by simp;omega
    have bB:(0:Int)<=(n:Int)+(k:Int):=Ya;have bX:(n:Int)+(k:Int)<(s.size:Int):=Ya;have fy:((n:Int)+(k:Int)).toNat=n+k:=Ya;have QB:=Oc3 (bs s) n k (by rw[O0];exact a9) hk hb;have HB:=U10 hb;clear hb;go_wp2_with (go_at_call 39;refine (O6g _ _).mono ?_;rw[HB.o];rintro e w1 ⟨rfl,rfl⟩)
    go_roundw
    case rel=>exact⟨k+1,by go_num,QB,U3f⟩
    case measure=>simp[intOf];omega
   have aa:=Oc4 (bs s) n k hk (λ h=>by
    cases hb:V2h ((bs s)[n+k]'h) with
    |false=>rfl
    |true=>exact absurd ⟨by rw[<-O0];exact h,hb⟩ dR)
   have fp:(¬n+k<s.size)\/(∃a9:n+k<s.size,V2h s[n+k]=false):=by
    by_cases a9:n+k<s.size
    refine .inr ⟨a9,?_⟩;cases hb:V2h s[n+k] with
    |false=>rfl
    |true=>exact absurd ⟨a9,hb⟩ dR
    exact .inl a9
   have ek:=HX.o;rw[aa]at ek;clear dR aa hk;by_cases dB:k=0
   ·subst dB;simp only[U2o]at ek;rw[hE]at ek;cases iC:Vi T ((bs s).drop n) with
    |non=>rw[iC]at ek;exact absurd ek.symm a8
    |ok r =>
     obtain⟨t,m⟩:=r;rw[iC]at ek;simp only at ek;have o8:=U10 iC;have bY:=U10 ek;clear iC ek;rcases fp with a9|⟨a9,hb⟩
     ·exfalso;have h9:=o8.o;rw[U1t (by rw[O0];omega)]at h9;cases h9
     all_goals first
      |(have j8:V2h s[n]=false:=hb;have mu:decide ((n:Int)<(s.size:Int))=true:=by { simp;omega };have HB:=U10 j8;clear hb j8;have bB:(0:Int)<=(n:Int):=by { omega };have bX:(n:Int)<(s.size:Int):=by { omega })
      |(have mu:decide ((n:Int)<(s.size:Int))=false:=by { simp;omega };skip)
     all_goals
      go_wp2_with (first|(go_at_call 39;refine (O6g _ _).mono ?_;rw[HB.o];rintro e w1 ⟨rfl,rfl⟩)|(go_at_call 40;refine (O6f T s _ n rfl hn hs _ o8.o Yb _ (sx.o.gr Gr.auto)).mono ?_;rintro e w1 ⟨rfl,jS,jM,g1⟩;simp only[f0];obtain⟨ag,au,az⟩:=g1.use;simp only[U1s]at az;have p0:w1.cell? w=some (.int .i64 0):=(ag _ _ Yb).trans Yb;have p1:w1.cell? ⟨w,1,none⟩=some (.int .i64 0):=(ag _ _ Yb).trans Yb;have p2:w1.frozen? w=false:=(au _ _ Yb).trans Yh;have p3:w1.frozen? ⟨w,1,none⟩=false:=(au _ _ Yb).trans Yh;have eN:w.heap.size<w1.heap.size:=az;clear ag au));refine U11 (v:=.tuple #[V2s t,.int .i64 (n+m:Nat),f0]) (by simp[results,results19,go_sem,p0,p1,p2,p3,eN]) rfl ?_;rw[<-bY.o];exact⟨rfl,jS,Gr.auto⟩
    |bad c p =>
     rw[iC]at ek;simp only at ek;have o8:=U10 iC;have bY:=U10 ek;clear iC ek;rcases fp with a9|⟨a9,hb⟩
     all_goals first
      |(have j8:V2h s[n]=false:=hb;have mu:decide ((n:Int)<(s.size:Int))=true:=by { simp;omega };have HB:=U10 j8;clear hb j8;have bB:(0:Int)<=(n:Int):=by { omega };have bX:(n:Int)<(s.size:Int):=by { omega })
      |(have mu:decide ((n:Int)<(s.size:Int))=false:=by { simp;omega };skip)
     all_goals
      go_wp2_with (first|(go_at_call 39;refine (O6g _ _).mono ?_;rw[HB.o];rintro e w1 ⟨rfl,rfl⟩)|(go_at_call 40;refine (O6f T s _ n rfl hn hs _ o8.o Yb _ (sx.o.gr Gr.auto)).mono ?_;rintro e w1 ⟨rfl,jS,g1⟩;obtain⟨ag,au,az⟩:=g1.use;simp only[U1s]at az;have p0:w1.cell? w=some (.int .i64 0):=(ag _ _ Yb).trans Yb;have p1:w1.cell? ⟨w,1,none⟩=some (.int .i64 0):=(ag _ _ Yb).trans Yb;have p2:w1.frozen? w=false:=(au _ _ Yb).trans Yh;have p3:w1.frozen? ⟨w,1,none⟩=false:=(au _ _ Yb).trans Yh;have eN:w.heap.size<w1.heap.size:=az;clear ag au));refine U11 (v:=.tuple #[.string ⟨#[]⟩,(0:Int),fv c (n+p)]) (by simp[results,results19,go_sem,p0,p1,p2,p3,eN]) rfl ?_;rw[<-bY.o];exact⟨⟨0,rfl⟩,jS,Gr.auto⟩
   rw[U1c dB]at ek;have bY:=U10 ek;clear ek;have Q8:decide ((n:Int)<(n:Int)+(k:Int))=true:=Ye
   have nO:(n:Int)+(k:Int)<=(s.size:Int):=Ya;have bB:(0:Int)<=(n:Int)+(k:Int):=Ya;have fy:((n:Int)+(k:Int)).toNat=n+k:=Ya;have C0:(n:Int)<=(n:Int)+(k:Int):=Ya;have yD:(0:Int)<=(n:Int):=Ya
   rcases fp with a9|⟨a9,hb⟩
   all_goals first
    |(have HB:=U10 hb;have mu:decide ((n:Int)+(k:Int)<(s.size:Int))=true:=by { simp;omega };clear hb;have bX:(n:Int)+(k:Int)<(s.size:Int):=by { omega })
    |(have mu:decide ((n:Int)+(k:Int)<(s.size:Int))=false:=by { simp;omega };skip)
   all_goals
    go_wp2_with (first|(go_at_call 39;refine (O6g _ _).mono ?_;rw[HB.o];rintro e w1 ⟨rfl,rfl⟩))
    go_region
    all_goals go_wp2_with fail
    all_goals
     refine U11 (v:=.tuple #[.string (s.extract n (n+k)),.int .i64 (n+k:Nat),f0]) (by simp[results,results19,go_sem]) rfl ?_;rw[<-bY.o];refine⟨by rw[Oc5],Ya,Gr.auto⟩
 rw[hl]at hX;simp only[U2o]at hX;subst hX;have HL:=U10 hl;have h3:n+2<=s.size:=by
  have kx:Pl.long ((bs s).drop n)=true:=hl;exact J169
 clear hl;go_enter func19,ntmps19;go_wp2_with (go_at_call 38;refine (O2b s _ n rfl hn hs _).mono ?_;rw[HL.o];rintro e w1 ⟨rfl,rfl⟩)
 go_region
 all_goals go_wp2_with fail
 all_goals
  refine U11 (v:=.tuple #[.string ⟨#[]⟩,.int .i64 (n+2:Nat),f0]) (by simp[results,results19,go_sem]) rfl ⟨rfl,h3,Gr.auto⟩
end Go.Proofs.YtnkgknbdaiakgaaGreatDoor
namespace Go.Proofs.YtnkgknbdaiakgaaGreatDoor
open Pl Go.Proofs.Tryz Go.RowKit Go.Shelf Go.Joins
attribute [local go_sem] U22
variable {Tb:Nat->UInt8×UInt8}
structure GW(T:Nat->UInt8×UInt8)(base:Nat)(w:World):Prop where
 int:V3y w
 q:QW T w
 es:14<base
 sh:0<base
 rad:6<base
 max:3<base
 err:1<base
 pow:2<base
theorem GW.st{base:Nat}{w w':World}{F F':Nat->Prop}(h:GW Tb base w)(g:St F F' w w')(hF:∀k,F k->base<=k):GW Tb base w':=by
 have hc:∀{b o:Nat} {v},b<base->w.cell? ⟨b,o,none⟩=some v->w'.cell? ⟨b,o,none⟩=some v:=λ hb e=>((g.use _ (Lib.lt_of_cell e) (λ hf=>by have:=hF _ hf;simp only at this;omega)).1 _).trans e
 obtain⟨m,hm⟩:=h.int.max;obtain⟨ep,he⟩:=h.int.err;obtain⟨ev,q8,Iw⟩:=h.q.es;refine⟨?_,⟨⟨ev,hc h.es q8,Iw⟩,λ j v hj=>hc h.sh (h.q.sh j v hj)⟩,h.es,h.sh,h.rad,h.max,h.err,h.pow⟩;refine⟨λ j v hj=>hc h.rad (h.int.rad j v hj),⟨m,hc h.max hm⟩,⟨ep,hc h.err he⟩,?_⟩;have hp:=h.int.pow;have ki:prog.globalNamed "internal/strconv.uint64pow10" = some 2:=Yc
 unfold Lib.TabIs World.var? at hp⊢;rw[ki]at hp⊢;simp only[Option.bind_some]at hp⊢;have a9:2<w.heap.size:=by
  exact J14
 rw[g.block _ a9 (λ hf=>by have:=hF _ hf;have:=h.pow;omega)];exact hp
theorem GW.gr{base:Nat}{w w':World}(h:GW Tb base w)(g:Gr w w'):GW Tb base w':=h.st (F:=λ _=>False) (F':=λ _=>False) (g.st) (λ _ e=>e.elim)
def RK(R:Nat)(w:World):Prop:=∃a b c d,w.heap[R]?=some (.cells #[a,b,c,d] 80 (0,0))
theorem RdV.rk{w:World}{R B base:Nat}{s:ByteArray}{root:Int}{nv:Value}{L:List Vy}{own:Nat->Nat}(h:RdV w R B base s root nv L own):RK R w:=⟨_,_,_,_,h.blk⟩
theorem RK.gr{R:Nat}{w w':World}(h:RK R w)(g:Gr w w'):RK R w':=by
 obtain⟨a,b,c,d,h⟩:=h;exact⟨a,b,c,d,(g.block (U18.1 h).1).trans h⟩
theorem RK.set{R:Nat}{w:World}(h:RK R w){b o:Nat}(hb:b≠R)(v:Value):RK R (w.setCell ⟨b,o,none⟩ v):=by
 obtain⟨x,y,z,u,h⟩:=h;exact⟨x,y,z,u,by rw[U15 _ _ _ _ (U3l hb)];exact h⟩
theorem RK.drew{R:Nat}{w:World}(h:RK R w):RK R w.drew:=h
def O4l(s:ByteArray)(R B base:Nat)(root:Int)(own:Nat->Nat)(w:World)(X:V9 (Nat×Nat×Vc))(e:Ending)(w':World):Prop :=
 match X with
 |.non=>True
 |.bad c p=>e=.returned (.tuple #[(0:Int),(0:Int),fv c p])/\c≠0/\∃F',St (FV own) F' w w'/\RK R w'
 | .ok (i,n,st')=>e=.returned (.tuple #[i,n,f0])/\n<=s.size/\i<st'.length /\
     ∃nv' L' own',RdV w' R B base s root nv' L' own'/\L'.map (·.nd)=st'/\St (FV own) (FV own') w w'/\(∀k,own' k≠0->own k≠0\/w.heap.size<=k)
abbrev Vo:Value := .slice none 0 0
def O3f(k:Nat)(t:Pl.Bs)(a b:Nat):Vy:=⟨V4t k t a b,Vo,Vo,Vo⟩
theorem O9y(w W:World)(R B base:Nat)(s:ByteArray)(root:Int)(nv:Value)(L:List Vy)(own:Nat->Nat)(h:RdV w R B base s root nv L own)(g:Gr w W)(hr:Pl.room (L.map (·.nd))=true)(k:Nat)(h8:k≠8)(t:ByteArray)(a b:Nat)(kk:Int)(cI:kk=k)(b':Int)(hb:b'=b):Calls prog 74 #[.pointer (some ⟨R,0,none⟩),.agg #[.int .u8 kk,.string t,Vo,Vo,Vo,a,b']] W λ e w' => e=.returned L.length/\∃nv' own',RdV w' R B base s root nv' (L++[O3f k (bs t) a b]) own'/\St (FV own) (FV own') w w'/\(∀k,own' k≠0->own k≠0\/W.heap.size<=k)/\St (FV own) (FV own') W w':=by
 have hl:L.length<=30000000:=by simp[Pl.room]at hr;omega
 subst hb cI;refine (O8y W R B base s root nv L own (h.gr g) hl (O3f k (bs t) a b) rfl rfl rfl rfl rfl rfl (O16 (Ot _ _ _ _)) (λ e=>absurd e h8) (λ k e=>by simp[O3f,Value.ownBlock]at e) k t Vo Vo Vo a b ?_).mono ?_;simp[ndV,O3f,V4t,bs]
 rintro e w' ⟨rfl,nv',own',h1,h2,h3⟩;have Hs:St (FV own) (FV own') W w':=by
  refine⟨h2.os,h2.tape,h2.output,h2.size,λ k hk hn=>h2.block k hk (λ e=>e.elim hn (λ e=>by simp[O3f,Value.ownBlock]at e)),λ k hk=>?_⟩;rcases h2.own k hk with (e|e)|e
  exact .inl e;simp[O3f,Value.ownBlock]at e
  exact .inr e
 refine⟨rfl,nv',own',h1,(g.st).trans Hs,λ k hk=>?_,Hs⟩;rcases h3 k hk with e|e|e
 exact .inl e;simp[O3f,Value.ownBlock]at e
 exact .inr e
def FX(b:Nat)(x y:Value)(w:World):Prop:=w.cell? b=some x/\w.cell? ⟨b,1,none⟩=some y/\(∀o,w.frozen? ⟨b,o,none⟩=false)/\b<w.heap.size
theorem FX.gr{b:Nat}{x y:Value}{w w':World}(h:FX b x y w)(g:Gr w w'):FX b x y w' :=
 ⟨(g.use.1 _ _ h.2.2.2).trans h.1,(g.use.1 _ _ h.2.2.2).trans h.2.1,λ o=>(g.use.2.1 _ _ h.2.2.2).trans (h.2.2.1 o),U13 h.2.2.2 g.size⟩
theorem FX.st{b:Nat}{x y:Value}{w w':World}{F F':Nat->Prop}(h:FX b x y w)(g:St F F' w w')(hb:¬F b):FX b x y w' :=
 ⟨((g.use _ h.2.2.2 hb).1 _).trans h.1,((g.use _ h.2.2.2 hb).1 _).trans h.2.1,λ o=>((g.use _ h.2.2.2 hb).2 _).trans (h.2.2.1 o),U13 h.2.2.2 g.size⟩
theorem FX.set{b:Nat}{x y:Value}{w:World}(h:FX b x y w)(x' y':Value):FX b x' y' ((w.setCell b x').setCell ⟨b,1,none⟩ y'):=by
 obtain⟨h0,h1,hf,hl⟩:=h;refine⟨?_,?_,λ o=>by simp[hf],by simpa using hl⟩;exact J37
 exact J36
theorem FX.new(w:World)(x y:Value)(T:TypeId):FX w x y (w.alloc (.cells #[x,y] T)):=⟨Yb,Yb,λ o=>by simp[go_sem],Yb⟩
theorem On0(E:Vv)(hE:O2l Tb E)(w:World)(R B base:Nat)(s:ByteArray)(root:Int)(nv:Value)(L:List Vy)(own:Nat->Nat)(h:RdV w R B base s root nv L own)(lK:GW Tb base w)(hs:s.size<=20000000)(i d:Int)(n:Nat)(hi:i=n)(hn:n<=s.size)(X:V9 (Nat×Nat×Vc))
    (hX:(match E.str ((bs s).drop n) with
     |.non => .non
     |.bad c p => .bad c (n+p)
     |.ok (t,m)=>if Pl.room (L.map (·.nd)) then .ok ((L.map (·.nd)).length,n+m,L.map (·.nd)++[V4t 3 t n (n+m)]) else .non:V9 (Nat×Nat×Vc))=X) (a8:X≠.non) :
    Calls prog 44 #[.pointer (some ⟨R,0,none⟩),i,d] w (O4l s R B base root own w X):=by
 subst hi;rw[show E.str=Vi Tb from hE]at hX;obtain⟨c0,c1,c2,c3,fz⟩:=h.cells;have hR:=h.R_lt;have H:=U10 h;cases hq:Vi Tb ((bs s).drop n) with
 |non=>rw[hq]at hX;exact absurd hX.symm a8
 |bad c p =>
  rw[hq]at hX;subst hX;have HQ:=U10 (λ W (g:Gr w W)=>O6f Tb s n n rfl hn hs _ hq Yb W (lK.q.gr g));clear lK;clear a8 hq fz c0 c1 c3 h;go_enter func44,ntmps44;go_wp2_with fail;refine (HQ.o _ Gr.auto).mono ?_;rintro e w1 ⟨rfl,hc,g1⟩;have lp:¬(c:Int)=0:=Ya
  have MA:((n+p:Nat):Int)=(n:Int)+(p:Int):=Yb;have dl:=(FX.new w (0:Int) (0:Int) 29).gr g1;have eo:=U10 (dl.set c (.int .i64 (n+p:Nat)));obtain⟨f1,f2,f3,f4⟩:=dl;go_wp2_with fail;refine (O1k c (n+p) lp _).mono ?_;rintro e w2 ⟨rfl,g2⟩;obtain⟨q0,q1,qf,en⟩:=eo.o.gr g2;go_wp2_with fail
  go_region
  all_goals go_wp2_with fail
  exact U11 (v:=.tuple #[(0:Int),(0:Int),fv c (n+p)]) (by simp[results,results44,go_sem,q0,q1,qf,en]) rfl ⟨rfl,hc,FV own,St.auto,H.o.rk.gr Gr.auto⟩
 |ok r =>
  obtain⟨t,m⟩:=r;rw[hq]at hX;simp only at hX;cases hr:Pl.room (L.map (·.nd)) with
  |false=>rw[hr,U1c Yb]at hX;exact absurd hX.symm a8
  |true =>
  rw[hr,U1a rfl]at hX;subst hX;have HQ:=U10 (λ W (g:Gr w W)=>O6f Tb s n n rfl hn hs _ hq Yb W (lK.q.gr g));clear lK;have HR:=U10 hr;have Bl:Hid (¬FV own w.heap.size):=h.not_new (U12 _);clear a8 hq fz c0 c1 c3 h hr;go_enter func44,ntmps44;go_wp2_with fail;refine (HQ.o _ Gr.auto).mono ?_;rintro e w1 ⟨rfl,vS,hm,g1⟩;have dl:=(FX.new w (.int .i64 0) (0:Int) 29).gr g1;have eo:=U10 (dl.set (0:Int) (0:Int));obtain⟨f1,f2,f3,f4⟩:=dl;have MA:((n+m:Nat):Int)=(n:Int)+(m:Int):=Yb
  go_wp2_with fail;refine Z155 ?_;intro w2 g2;have df:=eo.o.gr g2;have bM:Gr w w2:=by
   refine Gr.trans (Gr.setCell (Gr.setCell (((Gr.refl w).alloc _).trans g1) (U12 _) _) (U12 _) _) g2
  clear g2 eo g1 f1 f2 f3 f4;go_wp2_with fail;have hS:FX w (0:Int) (0:Int) w2.drew:=df.gr (Gr.refl _).drew;refine Reg.begin' (W:=λ i=>i != 11) (S:=FX w (0:Int) (0:Int)) Yc ?_;refine Z32 ?_;refine Z41 ?_;refine Reg.ty 5 ?_;refine Reg.ty 7 ?_;refine Reg.tl 8 hS ?_ (hy:=by intro w ab;obtain⟨q0,q1,qf,ql⟩:=ab;go_simp;try with_reducible rfl);refine Reg.on 6 ?_;go_simp;refine (O9y w w2.drew R B base s root nv L own H.o bM.drew HR.o 3 Ya ⟨t.toArray⟩ n (n+m) 3 rfl _ MA.symm).mono ?_;rintro e w3 ⟨rfl,nv',own',pE,ln,fY,jY⟩;have d6:=hS.st jY Bl.o;refine Z133 ?_;refine Reg.ty 9 ?_;refine Reg.ty 10 ?_;obtain⟨p0,p1,pf,pl⟩:=d6;have fg:¬FV own' w.heap.size:=by
   intro hf;rcases fY _ hf with e|e
   exact Bl.o e
   have:=hS.2.2.2;omega
  have H3:=U10 pE;have jh:=U10 ln;have Bm:=U10 fY;clear pE ln fY jY;refine Reg.on 11 ?_;go_simp;refine Z12 ?_;go_wp2_with fail;refine U11 (v:=.tuple #[L.length,.int .i64 (n+m:Nat),f0]) (by simp[results,results44,go_sem,p0,p1,pf,pl]) rfl ?_;refine⟨Yb,vS,Yb,nv',_,own',(H3.o.setCell fg _).setCell fg _,by simp[O3f,bs],?_,λ k hk=>(Bm.o k hk).imp id (λ e=>U1l bM.size e)⟩;exact (jh.o.setCell (.inr (U12 _)) _).setCell (.inr (U12 _)) _
end Go.Proofs.YtnkgknbdaiakgaaGreatDoor
namespace Go.Proofs.YtnkgknbdaiakgaaGreatDoor
open Pl Go.Proofs.Tryz Go.RowKit Go.Joins
def O1f(acc:List Pl.KW):List Pl.Bs:=acc.map (·.1)
def O1a(acc:List Pl.KW):List (Nat×Nat):=acc.map (·.2)
structure KS(w W:World)(kv sv:Value)(acc:List Pl.KW):Prop where
 rows:V20 w W w.heap.size (λ _=>False) kv sv (.slice none 0 0) acc.length acc.length 0 (Oh (O1f acc)) (Oc (O1a acc)) []
 k:V3b W w.heap.size #[kv,sv] 42 kv sv (.slice none 0 0)
 f:V3b W (w.heap.size+1) #[(0:Int),(0:Int)] 29 kv sv (.slice none 0 0)
theorem KS.gr{w W W':World}{kv sv:Value}{acc:List Pl.KW}(h:KS w W kv sv acc)(g:Gr W W'):KS w W' kv sv acc:=⟨h.rows.gr g,h.k.gr g,h.f.gr g⟩
theorem KS.cells{w W:World}{kv sv:Value}{acc:List Pl.KW}(h:KS w W kv sv acc):W.cell? w=some kv/\W.cell? ⟨w,1,none⟩=some sv/\W.frozen? w=false/\W.frozen? ⟨w,1,none⟩=false /\W.cell? (w.heap.size+1:Nat)=some (.int .i64 0)/\W.cell? ⟨w+1,1,none⟩=some (.int .i64 0)/\W.frozen? (w.heap.size+1:Nat)=false/\W.frozen? ⟨w+1,1,none⟩=false :=
 ⟨(h.k.cell (i:=0) rfl).1,(h.k.cell (i:=1) rfl).1,(h.k.cell (i:=0) rfl).2,(h.k.cell (i:=1) rfl).2,(h.f.cell (i:=0) rfl).1,(h.f.cell (i:=1) rfl).1,(h.f.cell (i:=0) rfl).2,(h.f.cell (i:=1) rfl).2⟩
theorem KS.below{w W:World}{kv sv:Value}{acc:List Pl.KW}(h:KS w W kv sv acc):Gr w W:=h.rows.st.below (Gr.refl w) (λ _ hF=>hF.elim)
theorem KS.lt{w W:World}{kv sv:Value}{acc:List Pl.KW}(h:KS w W kv sv acc):w.heap.size+1<W.heap.size:=h.f.lt
def Vd1(w:World)(kv sv:Value)(V:World):Prop:=V.cell? w=some kv/\V.cell? ⟨w,1,none⟩=some sv
theorem O2e{w V:World}{a b kv sv uv:Value}(h:V3b V w.heap.size #[a,b] 42 kv sv uv):Vd1 w a b V:=⟨(h.cell (i:=0) rfl).1,(h.cell (i:=1) rfl).1⟩
theorem Oo9{w V:World}{kv sv:Value}{a b:Value}{t:Pl.Bs}{n e:Nat}{acc:List Pl.KW}(H:V20 w V w.heap.size (λ _=>False) kv sv (.slice none 0 0) (acc.length+1) (acc.length+1) 0 (Oh (O1f acc)++[V2s t]) (Oc (O1a acc)++[.int .i64 n,.int .i64 e]) [])(C:V3b V w.heap.size #[a,b] 42 kv sv (.slice none 0 0))(Ff:V3b V (w.heap.size+1) #[(0:Int),(0:Int)] 29 kv sv (.slice none 0 0)):KS w ((V.setCell w kv).setCell ⟨w,1,none⟩ sv) kv sv (acc++[(t,n,e)]):=by
 refine⟨?_,?_,?_⟩
 have h1:=(H.setCell (i:=0) (U12 _) C.k C.s C.u kv).setCell (i:=1) (U12 _) C.k C.s C.u sv;have e1:(acc++[(t,n,e)]).length=acc.length+1:=Yb;have e2:Oh (O1f (acc++[(t,n,e)]))=Oh (O1f acc)++[V2s t]:=by simp[Oh,O1f]
 have e3:Oc (O1a (acc++[(t,n,e)]))=Oc (O1a acc)++[.int .i64 n,.int .i64 e]:=by simp[Oc,O1a]
 rw[e1,e2,e3];exact h1;have:=(C.set (i:=0) kv).set (i:=1) sv;exact J5
 exact (Ff.setOther Yb _).setOther Yb _
def Oau(w:World)(V:World):Prop:=V.cell? (w.heap.size+1:Nat)=some (.int .i64 0)/\V.cell? ⟨w+1,1,none⟩=some (.int .i64 0)
theorem Oi0{w V:World}{a b:Value}(h:Oau w V):Oau w ((V.setCell w a).setCell ⟨w,1,none⟩ b) :=
 ⟨by rw[U1n _ _ _ _ Yb,U1n _ _ _ _ Yb];exact h.1,by rw[U1n _ _ _ _ Yb,U1n _ _ _ _ Yb];exact h.2⟩
theorem On1{w V:World}{kv sv:Value}{acc:List Pl.KW}(h:KS w V kv sv acc):V26 ((((V.setCell w (O3 kv)).setCell ⟨w,1,none⟩ (O3 sv)).setCell (w.heap.size+1:Nat) (0:Int)).setCell ⟨w+1,1,none⟩ (0:Int)) w.heap.size 9 1 (O3 kv) acc.length (Oh (O1f acc)) /\V26 ((((V.setCell w (O3 kv)).setCell ⟨w,1,none⟩ (O3 sv)).setCell (w.heap.size+1:Nat) (0:Int)).setCell ⟨w+1,1,none⟩ (0:Int)) w.heap.size 38 2 (O3 sv) acc.length (Oc (O1a acc)) /\Gr w ((((V.setCell w (O3 kv)).setCell ⟨w,1,none⟩ (O3 sv)).setCell (w.heap.size+1:Nat) (0:Int)).setCell ⟨w+1,1,none⟩ (0:Int)):=by
 have h1:=(((h.rows.setCell (i:=0) (U12 _) h.k.k h.k.s h.k.u (O3 kv)).setCell (i:=1) (U12 _) h.k.k h.k.s h.k.u (O3 sv)).setCell (i:=0) (U2t _) h.f.k h.f.s h.f.u (0:Int)).setCell (i:=1) (U2t _) h.f.k h.f.s h.f.u (0:Int);exact⟨O2d h1.k,O2d h1.s,⟨h1.st.os,h1.st.tape,h1.st.output,h1.st.size,λ k hk=>h1.st.block k hk (λ e=>e)⟩⟩
def O6h(s:ByteArray)(w:World)(x:V9 (List Pl.KW×Nat))(e:Ending)(w':World):Prop :=
 match x with
 |.non=>True
 |.ok (ws,m)=>∃kv sv,e=.returned (.tuple #[.agg #[kv,sv],m,f0])/\m<=s.size/\V26 w' w.heap.size 9 1 kv ws.length (Oh (O1f ws))/\V26 w' w.heap.size 38 2 sv ws.length (Oc (O1a ws))/\ws.length<=s.size+2/\0<ws.length/\Gr w w'
 |.bad c p=>e=.returned (.tuple #[.agg #[.slice none 0 0,.slice none 0 0],(0:Int),fv c p])/\c≠0/\Gr w w'
theorem Ooa{w W:World}{base:Nat}{kv sv uv:Value}{nk ns nu:Nat}{xk xs xu:List Value}(h:V20 w W base (λ _=>False) kv sv uv nk ns nu xk xs xu):Gr w W :=
 ⟨h.st.os,h.st.tape,h.st.output,h.st.size,λ k hk=>h.st.block k hk (λ e=>e)⟩
theorem O3k(T:Nat->UInt8×UInt8)(E:Vv)(hE:O2l T E)(s:ByteArray)(i:Int)(n0:Nat)(hi:i=n0)(iY:n0<=s.size)(hs:s.size<=20000000)(X:V9 (List Pl.KW×Nat))(hX:V1q E (bs s) n0=X)(a8:X≠.non)(w:World)(hQ:QW T w):Calls prog 9 #[.string s,i] w (O6h s w X):=by
 have sx:=U10 hQ;clear hQ;subst hi;unfold V1q at hX;rw[O0]at hX;have HX:=U10 hX;obtain⟨iK,k1,k2,k3,k4⟩:=U3w Oe8;obtain⟨iS,s1,s2,s3,s4⟩:=U3w Oc1;have fL:=U10 (And.intro k1 (And.intro k2 (And.intro k3 k4)));have et:=U10 (And.intro s1 (And.intro s2 (And.intro s3 s4)));have C7:decide ((n0:Int)<0)=false:=Yb;have mu:decide (s.size<n0)=false:=Ye;have QC:Hid (KS w ((w.alloc (.cells #[.slice none 0 0,.slice none 0 0] 42)).alloc (.cells #[(0:Int),(0:Int)] 29)) (.slice none 0 0) (.slice none 0 0) []):=by
  have eO:∀(b:Nat),(Value.slice none 0 0).ownBlock≠some b:=λ b e=>by simp[Value.ownBlock]at e
  refine⟨⟨((St.refl _ w).alloc _).alloc _ |>.to (λ _ e=>e.elim),Ot _ _ _ _,Ot _ _ _ _,Ot _ _ _ _,λ b e=>absurd e (eO b),λ b e=>absurd e (eO b),λ b e=>absurd e (eO b),λ b e=>absurd e (eO b),λ b e=>absurd e (eO b),λ b e=>absurd e (eO b)⟩,⟨?_,eO _,eO _,eO _⟩,⟨?_,eO _,eO _,eO _⟩⟩;exact (((Gr.refl _).alloc _).block Yb).trans (U1w w _)
  have:=U1w (w.alloc (.cells #[.slice none 0 0,.slice none 0 0] 42)) (.cells #[(0:Int),(0:Int)] 29)
  rwa [U1s]at this
 clear hX k1 k2 k3 k4 s1 s2 s3 s4;go_enter func9,ntmps9;go_wp2_with fail
 go_step3
 go_wp2_with fail
 go_step3
 go_wp2_with fail
 go_loopw [1,5] (λ v1 v5 wr=>∃(n ix:Nat)(m5:Int)(acc:List Pl.KW)(kv sv:Value),v1=.int .i64 n/\v5=.int .i64 m5/\n<=s.size/\V3r E (bs s) ix n acc=X/\KS w wr kv sv acc/\acc.length+ix=s.size+2) (λ v1 _ _=>s.size-(intOf v1).toNat)
 case atStart=>exact⟨n0,s.size+2,0,[],_,_,rfl,rfl,iY,HX.o,QC.o,Yb⟩
 case round =>
  obtain⟨n,ix,m5,acc,kv,sv,rfl,rfl,hn,hx,mz,ap⟩:=hrel;cases ix with
  |zero=>exact absurd hx.symm a8
  |succ ix =>
   unfold V3r at hx;obtain⟨c0,c1,z0,z1,uo,qG,y0,y1⟩:=mz.cells;have QD:=mz.lt;have HK:=U10 mz;clear mz;cases hw:Pl.word E (bs s) n with
   |non=>rw[hw]at hx;exact absurd hx.symm a8
   |bad c p =>
    rw[hw]at hx;dsimp only at hx;have bY:=U10 hx;have HW:=U10 hw;clear hx hw;go_wp2_with fail;refine Z281 ?_;rintro e w1 ⟨⟨m,rfl⟩,hc,g1⟩;obtain⟨ag,au,az⟩:=g1.use;have p0:w1.cell? w=some kv:=(ag _ _ Ya).trans c0;have p1:w1.cell? ⟨w,1,none⟩=some sv:=(ag _ _ Ya).trans c1;have p2:w1.frozen? w=false:=(au _ _ Ya).trans z0;have p3:w1.frozen? ⟨w,1,none⟩=false:=(au _ _ Ya).trans z1;have p4:w1.cell? (w.heap.size+1:Nat)=some (.int .i64 0):=(ag _ _ Ya).trans uo;have p5:w1.cell? ⟨w+1,1,none⟩=some (.int .i64 0):=(ag _ _ Ya).trans qG;have p6:w1.frozen? (w.heap.size+1:Nat)=false:=(au _ _ Ya).trans y0;have p7:w1.frozen? ⟨w+1,1,none⟩=false:=(au _ _ Ya).trans y1;refine Z170 ?_;intro tj gm;have lK:Gr w wr:=Ooa HK.o.rows;clear ag au c0 c1 z0 z1 uo qG y0 y1;have ke:¬(c:Int)=0:=Ya
    go_wp2_with fail
    go_region
    all_goals go_wp2_with fail
    all_goals
     rw[Exit.noGoto_ret];refine U11 (v:=.tuple #[.agg #[.slice none 0 0,.slice none 0 0],(0:Int),fv c p]) (by simp[results,results9,go_sem,p0,p1,p2,p3,p4,p5,p6,p7,tj,gm]) rfl ?_;rw[<-bY.o];exact⟨rfl,hc,Gr.auto⟩
   |ok r =>
    obtain⟨t,e⟩:=r;rw[hw]at hx;dsimp only at hx;have aP:=word_le E _ _ _ _ hw;have bY:=U10 hx;have HW:=U10 hw;clear hx hw;go_wp2_with fail;refine Z281 ?_;rintro e' w1 ⟨rfl,GE,g1⟩;have bB:=HK.o.gr g1;have bX:=bB.gr ((Gr.refl w1).alloc (.cells #[(0:Int),(0:Int)] 29));obtain⟨p0,p1,p2,p3,p4,p5,p6,p7⟩:=bB.cells;have MB:=bB.lt;have Uz:=U10 bB;have QE:=U10 bX;clear bB bX c0 c1 z0 z1 uo qG y0 y1;go_wp2_with fail;refine Reg.begin' (W:=λ i=>i != 14&&i != 16) (S:=Vd1 w kv sv) Yc ?_;obtain⟨V0,hV⟩:=ExZ ((w1.alloc (.cells #[(0:Int),(0:Int)] 29)).drew)
    have jK:=QE.o.gr ((Gr.refl _).drew);rw[hV]at jK⊢;clear hV p0 p1 p2 p3 p4 p5 p6 p7;have iP:=U10 jK.rows;have yI:=U10 jK.k;have Cq:=U10 jK.f;clear jK;have bj:=O2e yI.o;refine Reg.ty 0 ?_;refine Reg.ty 2 ?_;refine Reg.ty 5 ?_;refine Z59 ?_;refine Reg.ty 12 ?_;refine Reg.tl 1 bj ?_ (hy:=by intro w ab;obtain⟨q1,q2⟩:=ab;go_simp;try with_reducible rfl);refine Reg.tl 6 bj ?_ (hy:=by intro w ab;obtain⟨q1,q2⟩:=ab;go_simp;try with_reducible rfl);refine Reg.all (rs:=[3,10]) Yc Yb ?_;refine Z14 ?_;intro j hj;rcases hj with rfl|rfl
    ·refine Reg.one (i:=3) rfl Yi ?_;go_simp;have ay:=iP.o.alloc (.cells #[V2s t] 9);have ax:=iP.o.newB #[V2s t] 9;have dh:=yI.o.alloc (.cells #[V2s t] 9);have di:=Cq.o.alloc (.cells #[V2s t] 9);obtain⟨V1,hV⟩:=ExZ (V0.alloc (.cells #[V2s t] 9))
     rw[hV]at ay ax dh di⊢;clear hV;have aN:=U10 ay;have o9:=U10 dh;have uq:=U10 di;have n7:=U10 ax;clear ay ax dh di;have ce:=O2e o9.o;refine Z99 ?_;refine Reg.all (rs:=[4,10]) Yc Yb ?_;refine Z14 ?_;intro j hj;rcases hj with rfl|rfl
     ·refine Z271 ?_;refine U32 _ (.tmp 33) (.tmp 35) 34 Yi w.heap.size 9 iK _ 1 16 underlying34 fL.o.1 fL.o.2.1 fL.o.2.2.1 fL.o.2.2.2 Yi Yd kv acc.length _ Yi aN.o.k _ 1 1 [V2s t] Yi Yi (U2e n7.o.blk) Ym Yd Yk Ya aN.o.size _ rfl ?_;intro gK aJ V2 ho hg ha hz;have aO:=U10 (aN.o.appK ho hg ha);have mZ:=U10 (o9.o.appK (n:=acc.length+1) (cap:=aJ) hg ha);have tq:=U10 (uq.o.appK (n:=acc.length+1) (cap:=aJ) hg ha);clear ho hg ha hz;have br:=O2e mZ.o;refine⟨λ _ _=>br,?_⟩;refine Reg.pt ?_;refine Reg.ty 13 ?_;refine Reg.on 10 ?_;skip;go_simp;have ay:=aO.o.alloc (.cells #[n,e] 38);have aj:=aO.o.newB #[n,e] 38;have dh:=mZ.o.alloc (.cells #[n,e] 38);have di:=tq.o.alloc (.cells #[n,e] 38);obtain⟨V3,hV⟩:=ExZ (V2.alloc (.cells #[n,e] 38))
      rw[hV]at ay aj dh di⊢;clear hV;have bm:=U10 ay;have mW:=U10 dh;have ti:=U10 di;have cd:=U10 aj;clear ay aj dh di;have aD:=O2e mW.o;refine⟨by first|exact aD|exact λ _=>aD,?_⟩;refine Reg.pt ?_;refine Reg.on 11 ?_;skip;exact J100
     refine Reg.one (i:=10) rfl Yi ?_;go_simp;have ay:=aN.o.alloc (.cells #[n,e] 38);have aj:=aN.o.newB #[n,e] 38;have dh:=o9.o.alloc (.cells #[n,e] 38);have di:=uq.o.alloc (.cells #[n,e] 38);have ax:=n7.o.alloc (.cells #[n,e] 38);obtain⟨V2,hV⟩:=ExZ (V1.alloc (.cells #[n,e] 38))
     rw[hV]at ay aj dh di ax⊢;clear hV;have aO:=U10 ay;have mZ:=U10 dh;have tq:=U10 di;have cZ:=U10 ax;have ei:=U10 aj;clear ay aj dh di ax;exact J206
    refine Reg.one (i:=10) rfl Yi ?_;go_simp;have ay:=iP.o.alloc (.cells #[n,e] 38);have aj:=iP.o.newB #[n,e] 38;have dh:=yI.o.alloc (.cells #[n,e] 38);have di:=Cq.o.alloc (.cells #[n,e] 38);obtain⟨V1,hV⟩:=ExZ (V0.alloc (.cells #[n,e] 38))
    rw[hV]at ay aj dh di⊢;clear hV;have aN:=U10 ay;have o9:=U10 dh;have uq:=U10 di;have tH:=U10 aj;clear ay aj dh di;have ce:=O2e o9.o;refine Z99 ?_;refine Reg.on 3 ?_;skip;go_simp;have ay:=aN.o.alloc (.cells #[V2s t] 9);have ax:=aN.o.newB #[V2s t] 9;have dh:=o9.o.alloc (.cells #[V2s t] 9);have di:=uq.o.alloc (.cells #[V2s t] 9);have aj:=tH.o.alloc (.cells #[V2s t] 9);obtain⟨V2,hV⟩:=ExZ (V1.alloc (.cells #[V2s t] 9))
    rw[hV]at ay ax dh di aj⊢;clear hV;have aO:=U10 ay;have mZ:=U10 dh;have tq:=U10 di;have ei:=U10 aj;have cZ:=U10 ax;clear ay ax dh di aj;exact J206
end Go.Proofs.YtnkgknbdaiakgaaGreatDoor
namespace Go.Proofs.YtnkgknbdaiakgaaGreatDoor
open Pl Go.Proofs.Tryz Go.RowKit Go.Shelf Go.Joins
attribute [local go_sem] U22
theorem Oc9(x:ByteArray):∀(ks:List Pl.Bs)(i:Nat),Lib.idxFromS (ks.map λ k=>(⟨k.toArray⟩:ByteArray)) x i=match ks.findIdx? (λ k=>k==bs x) with
    |none => -1
    |some j=>((i+j:Nat):Int)
 |[],_=>rfl
 | k::ks,i=>by
  have e:((⟨k.toArray⟩:ByteArray)=x) ↔ (k==bs x)=true:=by
   rw[U2z];constructor;intro h;rw[<-h]
   intro h;rw[h]
  rw[U3q,List.findIdx?_cons,Lib.idxFromS];cases hk:k==bs x with
  |true=>rw[U1a (e.2 hk)];simp
  |false =>
   rw[U1c (λ h=>by rw[e.1 h]at hk;cases hk),Oc9 x ks (i+1)];cases ks.findIdx? (λ k=>k==bs x) with
   |none=>rfl
   |some j =>
    show ((i+1+j:Nat):Int)=((i+(j+1):Nat):Int)
    congr 1;omega
def Oo8:V7u->Value
 |.yes i => .tuple #[i,.bool true]
 |_ => .tuple #[(0:Int),.bool false]
theorem Ohz(w:World)(R B base:Nat)(s:ByteArray)(root:Int)(nv:Value)(L:List Vy)(own:Nat->Nat)(h:RdV w R B base s root nv L own)(i:Nat)(key:ByteArray)(X:V7u)(hX:V1a (L.map (·.nd)) i (bs key)=X)(a8:X≠.non):Calls prog 102 #[.pointer (some ⟨R,0,none⟩),i,.string key] w λ e w'=>e=.returned (Oo8 X)/\w=w':=by
 unfold V1a at hX;rw[U1m]at hX;cases hr:L[i]? with
 |none=>rw[hr]at hX;exact absurd hX.symm a8
 |some r =>
 rw[hr]at hX;simp only[U25]at hX;have hi:i<L.length:=(U14.1 hr).1;obtain⟨g,cap,cur,rfl,qe,aW,dR,oZ,tM,lF,jr,F7,eP,jt⟩:=h.form Ya;obtain⟨c0,c1,c2,c3,fz⟩:=h.cells;obtain⟨n0,n1,n2,n3,n4,n5,n6,nf⟩:=h.ndCells rfl i r hr;refine Z141 ?_;intro pI fh;have hx:=h.rows i r hr;have HI:Hid (Calls prog 146 #[r.kv,.string key] w λ e w'=>e=.returned (.int .i64 (match r.nd.keys.findIdx? (λ k=>k==bs key) with|none => -1|some j=>(j:Int)))/\w=w'):=by
  refine Z214 ?_;intro dF;by_cases hn:0<r.nd.keys.length;obtain⟨b,c,hv,mB,eP⟩:=(O16 hx.k).form hn;have cA:=(O16 hx.k).cells (g:=b) (by rw[hv];rfl);exact J139
  have h0:r.nd.keys=[]:=U31 Ya;obtain⟨a,c,hv⟩:∃a c,r.kv=.slice a 0 c:=by
   rcases ownsRow_forms hx.k with⟨e,_⟩|⟨g',c',e⟩
   exact⟨none,0,e⟩
   exact⟨some ⟨g',0,none⟩,c',by rw[e,h0];rfl⟩
  exact J193
 cases hf:r.nd.keys.findIdx? (λ k=>k==bs key) with
 |none =>
  rw[hf]at hX HI;subst hX;clear hf hx h a8 c1 c2 c3 fz n0 n1 n3 n4 n5 n6 nf lF jt jr;go_enter func102,ntmps102;go_wp2_with fail;refine HI.o.mono ?_;refine Z48 ?_;go_wp2_with fail;exact U11 (v:=.tuple #[(0:Int),.bool false]) (by simp[results,results102,go_sem]) rfl ⟨rfl,rfl⟩
 |some j =>
  rw[hf]at hX HI;simp only at hX HI;cases hu:r.nd.subs[j]? with
  |none=>rw[hu]at hX;exact absurd hX.symm a8
  |some u =>
  rw[hu]at hX;simp only at hX
  split at hX
  ·subst hX;have hj:j<r.nd.subs.length:=(U14.1 hu).1;obtain⟨b,c,hv,mB,eP⟩:=hx.u.form Ya;have cA:=hx.u.cells (g:=b) (by rw[hv];rfl) j u (by simp[O6,hu]);rw[hv]at n4;refine Z230 ?_;intro I7;have qH:(j:Int)<(r.nd.subs.length:Int):=by omega
   have QF:decide ((j:Int)<0)=false:=Yb;clear hf hx h a8 c1 c2 c3 fz n0 n1 n3 n5 n6 nf lF jt jr hu;go_enter func102,ntmps102;go_wp2_with fail;refine HI.o.mono ?_;refine Z48 ?_;go_wp2_with fail;exact U11 (v:=.tuple #[u,.bool true]) (by simp[results,results102,go_sem]) rfl ⟨rfl,rfl⟩
  exact absurd hX.symm a8
end Go.Proofs.YtnkgknbdaiakgaaGreatDoor
namespace Go.Proofs.YtnkgknbdaiakgaaGreatDoor
open Pl Go.Proofs.Tryz Go.RowKit Go.Joins
def V6u(r:Vy)(t:Nat):Vy:=⟨{ r.nd with owner:=t },r.kv,r.sv,r.uv⟩
theorem RdV.owned{w w1:World}{R B base:Nat}{s:ByteArray}{root:Int}{nv:Value}{L:List Vy}{own:Nat->Nat}(h:RdV w R B base s root nv L own)(m:Nat)(r:Vy)(hr:L[m]?=some r)(h0:r.nd.owner=0)(t:Nat)(ht:t≠0)(hm:m<=9223372036854775807)(D:V5o)(hD:Olh D L)(h1:w1.ownsMap prog 3 (plainElem (H:=Unit) prog 3) B (V4f L+1) (D.put m (.lit t)))(hg:w.grownBy w1 (some B)):RdV w1 R B base s root nv (L.set m (V6u r t)) own/\St (FV own) (FV own) w w1:=by
 have hB:=h.B_lt;have cG:∀k,k<w.heap.size->k≠B->w1.heap[k]?=w.heap[k]?:=λ k hk a8=>hg.block k hk (λ e=>a8 (U2m e))
 have hF:∀k t,own k=t->t≠0->t≠2->w1.heap[k]?=w.heap[k]?:=λ k t e h2 h3=>cG k (h.lt k Ya).2 (λ e2=>by subst e2;rw[h.oB]at e;omega)
 have Iy:m<L.length:=(U14.1 hr).1;have Iz:V34 (L.set m (V6u r t))=V34 L:=by
  unfold V34;rw[List.flatMap_def,List.flatMap_def];congr 1;apply U4f;intro j;simp only[U1m,U2h]
  split
  rename_i e
  subst e;simp[Iy,hr,ndV,V6u];have:=(U14.1 hr).2;rw[this];simp
  rfl
 refine⟨⟨by rw[hF R 1 h.oR Ya Ya];exact h.blk,h.oR,h.oB,?_,h.oN,?_,?_,?_⟩,?_⟩;rw[U2c,Iz];exact O1 h.nodes λ k e=>hF k 3 (h.oN k e) Ya Ya
 refine⟨DataW.put D m (.lit t),?_,?_⟩
 have e2:=O72 L m r (V6u r t) hr;have e3:V4f [r]=0:=by simp[V4f,h0]
 have e4:V4f [V6u r t]=1:=by simp[V4f,V6u,ht]
 rw[show V4f (L.set m (V6u r t))=V4f L+1 from by omega];exact h1
 have hk:∀i:Nat,i≠m->(Lit.int IntKind.i64 (i:Int))≠.int .i64 (m:Int):=λ i hi e=>hi (by injection e with _ e2;exact Int.ofNat.inj e2)
 refine⟨Maps.IsMap.put hD.1 _ _,λ i hi=>?_,λ i x hx=>?_⟩;rw[U2c]at hi;rw[Maps.atKey_put_other (hk i Ya)];exact hD.2.1 i hi
 rw[U2h]at hx
 split at hx
 rename_i e
 subst e;simp only[Iy,U2o,U1f]at hx;subst hx;rw[Maps.atKey_put_same (k:=.int .i64 (m:Int)) hD.1 U3f];rfl
 rename_i e
 rw[Maps.atKey_put_other (hk i (λ e2=>e e2.symm))];exact hD.2.2 i x hx
 intro j x hx;rw[U2h]at hx
 split at hx
 rename_i e
 subst e;simp only[Iy,U2o,U1f]at hx;subst hx;have hk:=h.rows m r hr;have cI:V5n w1 base own m r:=⟨O1 hk.k λ k e=>hF k _ (hk.tk k e) Ya Ya,O1 hk.s λ k e=>hF k _ (hk.ts k e) Ya Ya,hk.u.of_block λ k e=>hF k _ (hk.tu k e) Ya Ya,λ h8=>O1 (hk.u8 h8) λ k e=>hF k _ (hk.tu k e) Ya Ya,hk.tk,hk.ts,hk.tu⟩
 exact⟨cI.k,cI.s,cI.u,cI.u8,cI.tk,cI.ts,cI.tu⟩
 have hk:=h.rows j x hx;exact⟨O1 hk.k λ k e=>hF k _ (hk.tk k e) Ya Ya,O1 hk.s λ k e=>hF k _ (hk.ts k e) Ya Ya,hk.u.of_block λ k e=>hF k _ (hk.tu k e) Ya Ya,λ h8=>O1 (hk.u8 h8) λ k e=>hF k _ (hk.tu k e) Ya Ya,hk.tk,hk.ts,hk.tu⟩;intro k hk;have:=h.lt k hk;exact⟨this.1,U13 this.2 hg.size⟩
 exact (St.refl _ w).grown hg (λ k e=>by cases e;exact .inl (by unfold FV;rw[h.oB];omega))
end Go.Proofs.YtnkgknbdaiakgaaGreatDoor
namespace Go.Proofs.YtnkgknbdaiakgaaGreatDoor
open Pl Go.Proofs.Tryz Go.RowKit Go.Shelf Go.Joins
attribute [local go_sem] U22
variable {Tb:Nat->UInt8×UInt8}
def O5w(Tb:Nat->UInt8×UInt8)(s:ByteArray)(R B base:Nat)(root:Int)(V:V1n):Prop :=
 ∀(w:World)(nv:Value)(L:List Vy)(own:Nat->Nat),RdV w R B base s root nv L own->GW Tb base w->∀(n d:Nat),n<=s.size->d<=30000000->∀X,V d n (L.map (·.nd))=X->X≠.non ->
  Calls prog 24 #[.pointer (some ⟨R,0,none⟩),n,d] w (O4l s R B base root own w X)
def O7b(s:ByteArray)(R B base:Nat)(root:Int)(own:Nat->Nat)(w:World)(X:V9 (Nat×Vc))(e:Ending)(w':World):Prop :=
 match X with
 |.non=>True
 |.bad c p=>e=.returned (.tuple #[(0:Int),fv c p])/\c≠0/\∃F',St (FV own) F' w w'/\RK R w'
 | .ok (n,st')=>e=.returned (.tuple #[n,f0])/\n<=s.size /\
     ∃nv' L' own',RdV w' R B base s root nv' L' own'/\L'.map (·.nd)=st'/\St (FV own) (FV own') w w'/\(∀k,own' k≠0->own k≠0\/w.heap.size<=k)
theorem Odj(E:Vv)(hE:O2l Tb E)(w:World)(R B base:Nat)(s:ByteArray)(root:Int)(nv:Value)(L:List Vy)(own:Nat->Nat)(h:RdV w R B base s root nv L own)(hg:GW Tb base w)(hs:s.size<=20000000)(table d:Int)(n:Nat)(hn:n<=s.size)(c p:Nat)(hX:V1q E (bs s) n=.bad c p):Calls prog 76 #[.pointer (some ⟨R,0,none⟩),table,n,d] w (O7b s R B base root own w (.bad c p)):=by
 obtain⟨c0,c1,c2,c3,fz⟩:=h.cells;have hR:=h.R_lt;have HQ:=U10 (λ W (g:Gr w W)=>O3k Tb E hE s n n rfl hn hs _ hX Yb W (hg.q.gr g));have sD:=U10 h.rk;clear fz c0 c1 c3 h hX;go_enter func76,ntmps76;go_wp2_with fail;refine (HQ.o _ Gr.auto).mono ?_;rintro e w1 ⟨rfl,hc,g1⟩;have lp:¬(c:Int)=0:=Ya;have dl:=(FX.new w (0:Int) (0:Int) 29).gr g1;have eo:=dl.gr ((Gr.refl w1).alloc (.cells #[.slice none 0 0,.slice none 0 0] 42));have df:=U10 (eo.set c p);obtain⟨f1,f2,f3,f4⟩:=eo;go_wp2_with fail;refine Z231 ?_;intro w2 g2;obtain⟨q0,q1,qf,en⟩:=df.o.gr g2;have bM:Gr w w2:=by
  refine Gr.trans (Gr.setCell (Gr.setCell ((((Gr.refl w).alloc _).trans g1).alloc _) (U12 _) _) (U12 _) _) g2
 clear g2 df f1 f2 f3 f4 dl;go_wp2_with fail
 go_region
 all_goals go_wp2_with fail
 exact U11 (v:=.tuple #[(0:Int),fv c p]) (by simp[results,results76,go_sem,q0,q1,qf,en]) rfl ⟨rfl,hc,FV own,St.auto,sD.o.gr Gr.auto⟩
structure V51(bF bK gk gs ck cs:Nat)(ws:List Pl.KW)(W:World):Prop where
 f:FX bF (0:Int) (0:Int) W
 k0:W.cell? bK=some (.slice gk ws.length ck)
 k1:W.cell? ⟨bK,1,none⟩=some (.slice gs ws.length cs)
 kl:bK<W.heap.size
 gkl:gk<W.heap.size
 gsl:gs<W.heap.size
 w:∀(j:Nat)(t:Pl.Bs)(a b:Nat),ws[j]?=some (t,a,b)->W.cell? ⟨gk,j,none⟩=some (V2s t)/\W.cell? ⟨gs,j*2,none⟩=some (.int .i64 a)/\W.cell? ⟨gs,j*2+1,none⟩=some (.int .i64 b)
theorem V51.st{bF bK gk gs ck cs:Nat}{ws:List Pl.KW}{W W':World}{F F':Nat->Prop}(h:V51 bF bK gk gs ck cs ws W)(g:St F F' W W')(h1:¬F bF)(h2:¬F bK)(h3:¬F gk)(h4:¬F gs):V51 bF bK gk gs ck cs ws W' :=
 ⟨h.f.st g h1,((g.use _ h.kl h2).1 _).trans h.k0,((g.use _ h.kl h2).1 _).trans h.k1,U13 h.kl g.size,U13 h.gkl g.size,U13 h.gsl g.size,
  λ j t a b hj=>by
   obtain⟨a1,a2,a3⟩:=h.w j t a b hj;exact⟨((g.use _ h.gkl h3).1 _).trans a1,((g.use _ h.gsl h4).1 _).trans a2,((g.use _ h.gsl h4).1 _).trans a3⟩⟩
theorem V51.gr{bF bK gk gs ck cs:Nat}{ws:List Pl.KW}{W W':World}(h:V51 bF bK gk gs ck cs ws W)(g:Gr W W'):V51 bF bK gk gs ck cs ws W' :=
 h.st (F:=λ _=>False) (F':=λ _=>False) g.st (λ e=>e) (λ e=>e) (λ e=>e) (λ e=>e)
theorem V51.setF{bF bK gk gs ck cs:Nat}{ws:List Pl.KW}{W:World}(h:V51 bF bK gk gs ck cs ws W)(h1:bF≠bK)(h2:bF≠gk)(h3:bF≠gs):V51 bF bK gk gs ck cs ws ((W.setCell bF (0:Int)).setCell ⟨bF,1,none⟩ (0:Int)):=by
 have hc:∀b o,bF≠b->((W.setCell bF (0:Int)).setCell ⟨bF,1,none⟩ (0:Int)).cell? ⟨b,o,none⟩=W.cell? ⟨b,o,none⟩:=by
  intro b o hb;rw[U1n _ _ _ _ (by simp[hb,U3l hb]),U1n _ _ _ _ (by simp[hb,U3l hb])]
 refine⟨h.f.set _ _,(hc _ _ h1).trans h.k0,(hc _ _ h1).trans h.k1,by simpa using h.kl,by simpa using h.gkl,by simpa using h.gsl,λ j t a b hj=>?_⟩;obtain⟨a1,a2,a3⟩:=h.w j t a b hj;exact⟨(hc _ _ h2).trans a1,(hc _ _ h3).trans a2,(hc _ _ h3).trans a3⟩
theorem O3h:∀(l:List (Nat×Nat))(j:Nat)(p:Nat×Nat),l[j]?=some p->(Oc l)[j*2]?=some (.int .i64 p.1)/\(Oc l)[j*2+1]?=some (.int .i64 p.2)
 |[],j,p,h=>by simp at h
 | x::l,0,p,h=>by
  simp only[U2a,U1f]at h;subst h;exact⟨rfl,rfl⟩
 | x::l,j+1,p,h=>by
  have:=O3h l j p (by simpa using h);have e:Oc (x::l)=.int .i64 x.1 :: .int .i64 x.2::Oc l:=rfl;rw[e,show (j+1)*2=j*2+1+1 from by omega]
  simpa using this
theorem O90{W:World}{base:Nat}{ws:List Pl.KW}{kv sv:Value}(hk:V26 W base 9 1 kv ws.length (Oh (O1f ws)))(hs:V26 W base 38 2 sv ws.length (Oc (O1a ws)))(h0:0<ws.length):∃gk gs ck cs,kv=.slice (some ⟨gk,0,none⟩) ws.length ck/\sv=.slice (some ⟨gs,0,none⟩) ws.length cs/\base<=gk/\base<=gs/\gk<W.heap.size/\gs<W.heap.size /\∀(j:Nat)(t:Pl.Bs)(a b:Nat),ws[j]?=some (t,a,b)->W.cell? ⟨gk,j,none⟩=some (V2s t)/\W.cell? ⟨gs,j*2,none⟩=some (.int .i64 a)/\W.cell? ⟨gs,j*2+1,none⟩=some (.int .i64 b):=by
 obtain⟨gk,ck,rfl,_,_⟩:=hk.form h0;obtain⟨gs,cs,rfl,_,_⟩:=hs.form h0;have l1:=hk.lt gk rfl;have l2:=hs.lt gs rfl;refine⟨gk,gs,ck,cs,rfl,rfl,l1.1,l2.1,l1.2,l2.2,λ j t a b hj=>⟨?_,?_,?_⟩⟩;exact hk.cells (g:=gk) rfl j _ (by simp[Oh,O1f,hj]);exact hs.cells (g:=gs) rfl _ _ (O3h _ j (a,b) (by simp[O1a,hj])).1
 exact hs.cells (g:=gs) rfl _ _ (O3h _ j (a,b) (by simp[O1a,hj])).2
def V58(a b:Int):Vy:=⟨⟨8,[],[],[],[],(a,b),0⟩,Vo,Vo,Vo⟩
theorem Oca(W:World)(R B base:Nat)(s:ByteArray)(root:Int)(nv:Value)(L:List Vy)(own:Nat->Nat)(h:RdV W R B base s root nv L own)(hr:Pl.room (L.map (·.nd))=true)(a b:Int):Calls prog 74 #[.pointer (some ⟨R,0,none⟩),.agg #[.int .u8 8,.string ⟨#[]⟩,Vo,Vo,Vo,a,b]] W λ e w' => e=.returned L.length/\∃nv' own',RdV w' R B base s root nv' (L++[V58 a b]) own'/\St (FV own) (FV own') W w'/\(∀k,own' k≠0->own k≠0\/W.heap.size<=k):=by
 have hl:L.length<=30000000:=by simp[Pl.room]at hr;omega
 refine (O8y W R B base s root nv L own h hl (V58 a b) rfl rfl rfl rfl rfl rfl (O16 (Ot _ _ _ _)) (λ _=>Ot _ _ _ _) (λ k e=>by simp[V58,Value.ownBlock]at e) 8 ⟨#[]⟩ Vo Vo Vo a b (by simp[ndV,V58])).mono ?_;rintro e w' ⟨rfl,nv',own',h1,h2,h3⟩;refine⟨rfl,nv',own',h1,?_,λ k hk=>?_⟩
 refine⟨h2.os,h2.tape,h2.output,h2.size,λ k hk hn=>h2.block k hk (λ e=>e.elim hn (λ e=>by simp[V58,Value.ownBlock]at e)),λ k hk=>?_⟩;rcases h2.own k hk with (e|e)|e
 exact .inl e;simp[V58,Value.ownBlock]at e
 exact .inr e
 rcases h3 k hk with e|e|e
 exact .inl e;simp[V58,Value.ownBlock]at e
 exact .inr e
theorem O6v(L:List Vy)(i:Nat)(r:Vy)(t:Pl.Bs)(sp:Nat×Nat)(n:Nat)(x:Vy)(hr:L[i]?=some r)(hx:x.nd=V10 r.nd t sp n):(L.set i x).map (·.nd)=Vf (L.map (·.nd)) i t sp n:=by
 unfold Vf;apply U4f;intro j;rw[U1m,U3p,U1m,U2h];by_cases e:i=j;subst e;have dT:=(U14.1 hr).1;simp[dT,hr,hx];have:=(U14.1 hr).2;rw[this]
 simp[e]
theorem Okl(table:Nat)(w:Pl.Bs)(a b:Nat)(rest:List Pl.KW)(into d:Nat)(st:Vc) :
    V3d table ((w,a,b)::rest) into d st=match V1a st into w with
    |.non => .non
    |.yes i =>
     match rest with
     |[] => .bad 5 a
     |_::_=>if V2c st i=table+1 then V3d table rest i (d+1) st else .bad 5 a
    |.no =>
     match rest with
     |[] => .ok (into,d,st)
     |_::_ =>
      if 256<d+1 then .bad 4 a else
      if Pl.kind8 st into&&Pl.room st then V3d table rest st.length (d+1) (Vf (st++[V1s (table+1)]) into w (a,b) st.length) else .non:=by
 rw[V3d.eq_def];dsimp only;cases V1a st into w <;> cases rest <;> rfl
def Vgh(s:ByteArray)(R B base:Nat)(root:Int)(own:Nat->Nat)(w:World)(z0 bF bK gk gs ck cs table:Nat)(ws:List Pl.KW)(Y:V9 (Nat×Nat×Vc))(v3 v8 IA Cr:Value)(m:Nat)(wr:World):Prop :=
 ∃(done rest:List Pl.KW)(j into d:Nat)(nv':Value)(L':List Vy)(own':Nat->Nat),v3=.int .i64 d/\v8=.int .i64 m/\IA=.int .i64 into/\Cr=.int .i64 j/\done.length=j/\ws=done++rest/\rest≠[]/\d<=256+j /\
  RdV wr R B base s root nv' L' own'/\V3d table rest into d (L'.map (·.nd))=Y/\V51 bF bK gk gs ck cs ws wr/\GW Tb base wr/\St (FV own) (FV own') w wr/\(∀k,own' k≠0->own k≠0\/z0<=k)/\z0<=wr.heap.size
theorem Ofh(E:Vv)(hE:O2l Tb E)(w:World)(R B base:Nat)(s:ByteArray)(root:Int)(V:V1n)(hV:O5w Tb s R B base root V)(nv:Value)(L:List Vy)(own:Nat->Nat)(h:RdV w R B base s root nv L own)(hg:GW Tb base w)(hs:s.size<=20000000)(table d n:Nat)(hn:n<=s.size)(hd:d<=256)(ht:table<=30000000)(ws:List Pl.KW)(m:Nat)(hX:V1q E (bs s) n=.ok (ws,m))(X:V9 (Nat×Vc))(ae:V1l E V (bs s) table n d (L.map (·.nd))=X)(a8:X≠.non):Calls prog 76 #[.pointer (some ⟨R,0,none⟩),table,n,d] w (O7b s R B base root own w X):=by
 obtain⟨c0,c1,c2,c3,fz⟩:=h.cells;have hR:=h.R_lt;have HQ:=U10 (λ W (g:Gr w W)=>O3k Tb E hE s n n rfl hn hs _ hX Yb W (hg.q.gr g));unfold V1l at ae;rw[hX]at ae;simp only at ae;have H:=U10 h;have HG:=U10 hg;have HV:=U10 hV;obtain⟨Y,hY⟩:=ExZ (V3d table ws table d (L.map (·.nd)))
 rw[hY]at ae;have Cs:Y≠.non:=by
  intro e;rw[e]at ae;exact a8 ae.symm
 have HX:=U10 ae;have HN:=U10 a8;have tL:=U10 Cs;have HY:=U10 hY;clear fz c0 c1 c3 h hX hg hV ae a8 Cs hY;go_enter func76,ntmps76;go_wp2_with fail;refine (HQ.o _ Gr.auto).mono ?_;rintro e w1 ⟨kv,sv,rfl,hm,jR,cR,eT,AM,g1⟩;obtain⟨gk,gs,ck,cs,rfl,rfl,ey,cM,lL,kF,aE⟩:=O90 jR cR AM;simp only[U1s]at ey cM;have az:=g1.size;simp only[U1s]at az;have dl:=(FX.new w (0:Int) (0:Int) 29).gr g1;have sH:V51 w.heap.size w1.heap.size gk gs ck cs ws (w1.alloc (.cells #[.slice gk ws.length ck,.slice gs ws.length cs] 42)):=by
  have ga:=(Gr.refl w1).alloc (.cells #[.slice gk ws.length ck,.slice gs ws.length cs] 42);refine⟨dl.gr ga,Yb,Yb,Yb,Ye,Ye,λ j t a b hj=>?_⟩;obtain⟨a1,a2,a3⟩:=aE j t a b hj;exact⟨(ga.use.1 _ _ lL).trans a1,(ga.use.1 _ _ kF).trans a2,(ga.use.1 _ _ kF).trans a3⟩
 obtain⟨f1,f2,f3,f4⟩:=sH.f;have cB:Gr w (w1.alloc (.cells #[.slice gk ws.length ck,.slice gs ws.length cs] 42)):=(((Gr.refl w).alloc _).trans g1).alloc _;have AN:=U10 (sH.setF Ya Ya Ya);have bM:=U10 (Gr.setCell (p:=⟨w,1,none⟩) (Gr.setCell (p:=w) cB (U12 _) (0:Int)) (U12 _) (0:Int));clear aE jR cR sH cB;go_wp2_with fail;refine Z155 ?_;intro w2 g2;have HK:=U10 (AN.o.gr g2);have hG:=bM.o.trans g2;clear g2 bM AN f1 f2 f3 f4 dl g1 lL kF;have Fn:=HK.o;obtain⟨k0,k1⟩:=(show _/\_ from ⟨Fn.k0,Fn.k1⟩)
 have pY:=Fn.kl;obtain⟨la,eY⟩:∃la,ws.length=la+1:=⟨ws.length-1,Ya⟩
 have MC:IntKind.i64.wrap ((ws.length:Int)-1)=(la:Int):=by rw[U1k _ ⟨Ya,Ya⟩];omega
 clear Fn;have fN:=U10 eY;clear eY;go_wp2_with fail;have bT:¬FV own w.heap.size:=H.o.not_new (U12 _);have qI:¬FV own w1.heap.size:=H.o.not_new Ya;have ur:¬FV own gk:=H.o.not_new Ya;have ut:¬FV own gs:=H.o.not_new Ya;have d9:St (FV own) (FV own) w w2:=St.auto
 go_loopw [3,8,12,40] (λ v3 v8 IA Cr wr=>Vgh s R B base root own w w2.heap.size w.heap.size w1.heap.size gk gs ck cs table ws Y v3 v8 IA Cr m wr) (λ _ _ _ Cr _=>ws.length-(intOf Cr).toNat)
 case atStart =>
  exact⟨[],ws,0,table,d,nv,L,own,rfl,rfl,rfl,rfl,rfl,rfl,λ e=>by rw[e]at AM;simp at AM,Ya,H.o.gr hG,HY.o,HK.o,HG.o.gr hG,d9,λ k hk => .inl hk,U12 _⟩
 case round =>
  obtain⟨done,rest,j,into,d',nv',L',own',rfl,rfl,rfl,rfl,yJ,Ct,aG,MD,hr,uu,l8,lK,aa,bL,fI⟩:=hrel;obtain⟨tab,ja,rfl⟩:∃x l,rest=x::l:=List.exists_cons_of_ne_nil aG;obtain⟨t,a,b⟩:=tab;have yK:ws[j]?=some (t,a,b):=by rw[Ct,<-yJ];simp
  have ME:ws.length=j+1+ja.length:=by rw[Ct];simp[yJ];omega
  have Cu:la=j+ja.length:=by have:=fN.o;omega
  obtain⟨y1,y2,y3⟩:=l8.w j t a b yK;have i0:decide (j<ws.length)=true:=Ye;refine Z230 ?_;intro i1;have i2:(j:Int)<(ws.length:Int):=Ya;have QG:=l8.k0;have QH:=l8.k1;obtain⟨QI,QJ,QK,QL,QM⟩:=hr.cells;have ay:=U10 hr;have jk:=U10 uu;have fO:=U10 l8;have nz:=U10 lK;have bG:=U10 aa;have cp:=U10 bL;have IB:=U10 Ct;have IC:=U10 ME;have qJ:=U10 Cu;have AO:=U10 yK;clear hr uu l8 lK aa bL Ct ME Cu yK aG;go_wp2_with fail;have iD:bs (⟨t.toArray⟩:ByteArray)=t:=by simp[bs]
  have eH:=jk.o;rw[Okl]at eH;cases hS:V1a (L'.map (·.nd)) into t with
  |non=>rw[hS]at eH;exact absurd eH.symm tL.o
  |yes i =>
   rw[hS]at eH;refine (Ohz wr R B base s root nv' L' own' ay.o into ⟨t.toArray⟩ (.yes i) (by rw[iD];exact hS) Yb).mono ?_;rintro e w3 ⟨he,rfl⟩;obtain rfl:e=.returned (.tuple #[.int .i64 i,.bool true]):=he;clear iD;cases ja with
   |nil =>
    simp only at eH;have vN:=U10 eH;clear eH hS;have b1:((j:Int)==(la:Int))=true:=by have:=qJ.o;simp at this;simp;omega
    obtain⟨q0,q1,qf,ql⟩:=fO.o.f;exact J130
   |cons x lM =>
    simp only at eH;obtain⟨ri,iE⟩:∃ri,L'[i]?=some ri:=by
     have:i<(L'.map (·.nd)).length:=by
      unfold V1a at hS
      split at hS;cases hS
      split at hS;cases hS
      split at hS;cases hS
      split at hS
      ·cases hS;assumption
      cases hS
     rw[U1j]at this;exact⟨_,U1e this⟩
    have bL:V2c (L'.map (·.nd)) i=ri.nd.owner:=by unfold V2c;simp[iE]
    rw[bL]at eH;have b1:((j:Int)==(la:Int))=false:=by have:=qJ.o;simp at this;simp;omega
    have bt:IntKind.i64.wrap ((table:Int)+1)=(table:Int)+1:=U1k _ ⟨Ya,Ya⟩;have ID:i<=9223372036854775807:=by
     have dT:=(U14.1 iE).1;obtain⟨g',nL,QN,_,_,_,_,_,_,_,_,h8,h9,_⟩:=ay.o.form Ya;unfold maxLen at h9;omega
    have Cv:∀W,W.heap[B]?=wr.heap[B]?->(Instr.lookup 78 (.map (some B)) i false).run prog W=.ok ri.nd.owner W:=λ W hW=>ay.o.look i ID ri iE W hW
    have QO:=Cv wr rfl;obtain⟨q0,q1,qf,ql⟩:=fO.o.f;by_cases ho:ri.nd.owner=table+1
    ·rw[U1a ho]at eH;have b2:((ri.nd.owner:Int) != ((table:Int)+1))=false:=by simp;omega
     have nA:=U10 eH;clear eH hS bL ho;go_wp2_with fail
     go_roundw
     case rel =>
      refine⟨done++[(t,a,b)],x::lM,j+1,i,d'+1,nv',L',own',Yb,rfl,rfl,Yb,by simp[yJ],by rw[IB.o];simp,Yb,Ya,ay.o,nA.o,fO.o,nz.o,bG.o,cp.o,fI⟩
     case measure=>have:=IC.o;simp[intOf];omega
    rw[U1c ho]at eH;have b2:((ri.nd.owner:Int) != ((table:Int)+1))=true:=Ye
    have vN:=U10 eH;clear eH hS bL ho;exact J130
  |no =>
   rw[hS]at eH;refine (Ohz wr R B base s root nv' L' own' ay.o into ⟨t.toArray⟩ .no (by rw[iD];exact hS) Yb).mono ?_;rintro e w3 ⟨he,rfl⟩;obtain rfl:e=.returned (.tuple #[.int .i64 0,.bool false]):=he;clear iD hS;cases ja with
   |nil =>
    simp only at eH;have vN:=U10 eH;have b1:((j:Int)==(la:Int))=true:=by have:=qJ.o;simp at this;simp;omega
    obtain⟨q0,q1,qf,ql⟩:=fO.o.f;have mC:=HX.o;rw[<-eH]at mC;simp only at mC;obtain⟨e1,qK⟩:=ExZ (V7 (bs s) m)
    have IE:e1<=s.size:=by have:=V8 (bs s) m (by rw[O0];exact hm);rw[O0]at this;omega
    rw[qK]at mC;clear eH;have we:=U10 qK;clear qK;go_wp2_with fail;refine (O9 s m m rfl hm Ya _).mono ?_;rintro e w4 ⟨rfl,g4⟩;rw[we.o];have pn:=ay.o.gr g4;have qL:=fO.o.gr g4;obtain⟨uw,ux,gX,uy,uz⟩:=pn.cells;have cN:=U10 pn;have qM:=U10 qL;have ek:=U10 mC;clear pn qL mC;go_wp2_with fail;refine (O1y w4 R s gX e1 e1 rfl).mono ?_;refine Z48 ?_;obtain⟨v0,v1,vf,vl⟩:=qM.o.f;have lN:=U10 (bG.o.gr g4);have IF:=U10 (nz.o.gr g4);have nR:w2.heap.size<=w4.heap.size:=U1l fI g4.size;clear g4 q0 q1 qf ql QI QJ QK QL QM QG QH y1 y2 y3;by_cases hb:Va (bs s) e1=61
    ·have mC:=ek.o;rw[U1a hb]at mC;have nE:e1<s.size:=U3a λ aP=>by rw[O12 s e1 Ya]at hb;omega
     have bJ:(((Va (bs s) e1:Nat):Int) != 61)=false:=Ye;obtain⟨e2,yL⟩:=ExZ (V7 (bs s) (e1+1))
     have BD:e2<=s.size:=by have:=V8 (bs s) (e1+1) (by rw[O0];omega);rw[O0]at this;omega
     rw[yL]at mC;have pa:=U10 mC;have BE:=U10 yL;have UA:IntKind.i64.wrap ((e1:Int)+1)=(e1:Int)+1:=U1k _ ⟨Ya,Ya⟩;have yq:j<=20000002:=by have:=IC.o;omega
     have UB:IntKind.i64.wrap ((d':Int)+1)=(d':Int)+1:=U1k _ ⟨Ya,Ya⟩;clear mC hb yL;go_wp2_with fail;refine (O9 s _ (e1+1) Yb Ya Ya _).mono ?_;rintro e w6 ⟨rfl,g6⟩;rw[BE.o];go_wp2_with fail;have As:=cN.o.gr g6;have uA:=qM.o.gr g6;have xW:=IF.o.gr g6;have dI:=lN.o.gr g6;have tA:w2.heap.size<=w6.heap.size:=U1l nR g6.size;have eX:=pa.o;cases hZ:V (d'+1) e2 (L'.map (·.nd)) with
     |non=>rw[hZ]at eX;exact absurd eX.symm HN.o
     |bad c p =>
      rw[hZ]at eX;simp only at eX;refine Z220 ?_;refine Z116 ?_;intro w7 hc F' im xO;have kG:¬FV own' w.heap.size:=λ hf=>by
       rcases cp.o _ hf with e|e
       exact bT e
       have:=HK.o.f.2.2.2;omega
      have l9:=uA.f.st im kG;have df:=U10 (l9.set c p);have iu:=U10 (dI.trans im);obtain⟨p0,p1,pf,pl⟩:=l9;have lp:¬(c:Int)=0:=Ya;have IG:=U10 eX;clear eX im dI As uA xW v0 v1 vf vl;go_wp2_with fail;refine Z231 ?_;intro w8 g8;obtain⟨u0,u1,uf,ul⟩:=df.o.gr g8;have IH:=xO.o.gr g8;have uB:St (FV own) F' w w8:=(((iu.o.setCell (.inr (U12 _)) _).setCell (.inr (U12 _)) _)).gr g8;go_wp2_with fail
      go_region
      all_goals go_wp2_with fail
      rw[<-IG.o];exact U11 (v:=.tuple #[(0:Int),fv c p]) (by simp[results,results76,go_sem,u0,u1,uf,ul]) rfl ⟨rfl,hc,F',((uB.setCell (.inr (U12 _)) _).setCell (.inr (U12 _)) _).drew,((IH.set Ya _).set Ya _).drew⟩
     |ok r =>
      obtain⟨iv,n2,st2⟩:=r;rw[hZ]at eX;simp only at eX;have aW:ws.getLast?=some (t,a,b):=by rw[IB.o];simp
      rw[aW]at eX;simp only at eX;cases bh:Pl.kind8 st2 into with
      |false=>rw[bh,U1c Yb]at eX;exact absurd eX.symm HN.o
      |true =>
      rw[bh,U1a rfl]at eX;refine Z220 ?_;rintro e w7 ⟨rfl,oU,yM,MF,L7,yN,MG,MH,im,kH⟩;have kG:∀k,k<w2.heap.size->¬FV own k->¬FV own' k:=λ k hk hn hf=>by
       rcases cp.o _ hf with e|e
       exact hn e
       omega
      have yO:=uA.st im (kG _ HK.o.f.2.2.2 bT) (kG _ HK.o.kl qI) (kG _ HK.o.gkl ur) (kG _ HK.o.gsl ut);have ls:w2.heap.size<=w7.heap.size:=U1l tA im.size;have QP:=U10 (yO.setF Ya Ya Ya);have iu:=U10 (dI.trans im);have tC:=U10 MG;have qN:=U10 kH;have IG:=U10 eX;have MI:=U10 MH;have vt:=U10 bh;obtain⟨p0,p1,pf,pl⟩:=yO.f;clear eX im dI As uA xW v0 v1 vf vl MG kH MH bh yO;go_wp2_with fail;refine Z155 ?_;intro w8 g8;have Cw:=QP.o.gr g8;have MJ:¬FV yN w.heap.size:=λ hf=>by
       rcases qN.o _ hf with e|e
       exact kG _ HK.o.f.2.2.2 bT e
       have:=HK.o.f.2.2.2;omega
      have MK:=(((tC.o.setCell (p:=w) MJ (0:Int)).setCell (p:=⟨w,1,none⟩) MJ (0:Int)).gr g8).drew;have uB:=(((iu.o.setCell (p:=w) (.inr (U12 _)) (0:Int)).setCell (p:=⟨w,1,none⟩) (.inr (U12 _)) (0:Int)).gr g8).drew;have AP:=U10 MK;have iF:=U10 uB;clear MK uB p0 p1 pf pl;go_wp2_with fail;have hS:=Cw.gr (Gr.refl w8).drew;have ML:la=j:=by have:=qJ.o;simp at this;exact this
      have uC:=AO.o;rw[<-ML]at uC;have l1:(0:Int)<=(la:Int):=Ya;have l2:(la:Int)<(ws.length:Int):=by have:=fN.o;omega
      clear ML;refine Reg.begin' (W:=λ _=>true) (S:=V51 w.heap.size w1.heap.size gk gs ck cs ws) Yc ?_;refine Z32 ?_;refine Reg.ty 4 ?_;refine Reg.ty 7 ?_;refine Reg.ty 9 ?_;refine Reg.ty 12 ?_;refine Reg.tl 3 hS ?_ (hy:=by intro w ab;obtain⟨II,IJ,IK,IL,IM,IN,qw⟩:=ab;go_simp;try with_reducible rfl);refine Reg.ty 5 ?_;refine Reg.tl 6 hS ?_ (hy:=by intro w ab;obtain⟨x1,x2,x3⟩:=V51.w ab la t a b uC;obtain⟨II,IJ,IK,IL,IM,IN,qw⟩:=ab;go_simp;try with_reducible rfl);refine Reg.tl 8 hS ?_ (hy:=by intro w ab;obtain⟨x1,x2,x3⟩:=V51.w ab la t a b uC;obtain⟨II,IJ,IK,IL,IM,IN,qw⟩:=ab;go_simp;try with_reducible rfl);refine Reg.ty 10 ?_;refine Reg.tl 11 hS ?_ (hy:=by intro w ab;obtain⟨x1,x2,x3⟩:=V51.w ab la t a b uC;obtain⟨II,IJ,IK,IL,IM,IN,qw⟩:=ab;go_simp;try with_reducible rfl);refine Reg.on 13 ?_;go_simp;have bh:=vt.o;rw[<-MI.o]at bh;obtain⟨ri,iE⟩:∃ri,L7[into]?=some ri:=by
       unfold Pl.kind8 at bh;rw[U1h,U1m]at bh
       replace bh:=bh.2
       cases hl:L7[into]? with
       |none=>rw[hl]at bh;cases bh
       |some ri=>exact⟨ri,rfl⟩
      unfold Pl.kind8 at bh;rw[U1h,U1m,iE]at bh;obtain⟨IP,bh⟩:=bh;simp only[U25,U1h,U1x,U2z,U1j]at bh IP;obtain⟨⟨⟨Fo,Fp⟩,Fq⟩,Fs⟩:=bh;have Ft:∀k,k<w2.heap.size->¬FV own k->¬FV yN k:=λ k hk hn hf=>by
       rcases qN.o _ hf with e|e
       exact kG k hk hn e
       omega
      refine (Ohv w8.drew R B base s root MF L7 yN AP.o IP into ri iE Fo Fp Fq Fs ⟨t.toArray⟩ a b iv).mono ?_;rintro e w9 ⟨rfl,yP,UC,UD,UE,MM,jA,wg⟩;have qO:=hS.st jA (Ft _ HK.o.f.2.2.2 bT) (Ft _ HK.o.kl qI) (Ft _ HK.o.gkl ur) (Ft _ HK.o.gsl ut);refine⟨by first|exact qO|exact λ _=>qO|exact λ _ _=>qO,?_⟩;refine Reg.pt ?_;refine Z12 ?_;obtain⟨p0,p1,pf,pl⟩:=qO.f;have Cx:w2.heap.size<=w8.heap.size:=by have:=g8.size;simp[World.setCell]at this;omega
      have lO:∀k,yP k≠0->own k≠0\/w.heap.size+1<=k:=by
       intro k hk;rcases wg k hk with e|e
       rcases qN.o k e with e|e
       rcases cp.o k e with e|e
       exact .inl e
       exact .inr (by have:=HK.o.f.2.2.2;omega)
       exact .inr (by have:=HK.o.f.2.2.2;omega)
       refine .inr ?_;have h1:w8.drew.heap.size=w8.heap.size:=rfl;have h2:=HK.o.f.2.2.2;omega
      have Fu:¬FV yP w.heap.size:=λ hf=>by
       rcases lO _ hf with e|e
       exact bT e
       omega
      have AQ:=U10 MM;have eU:=U10 (iF.o.trans jA);have Cy:=U10 lO;have QQ:=U10 iE;clear MM jA wg lO iE Fo Fp Fq Fs IP qO hS Cw;go_wp2_with fail
      go_region
      all_goals go_wp2_with fail
      rw[<-IG.o];refine U11 (v:=.tuple #[n2,f0]) (by simp[results,results76,go_sem,p0,p1,pf,pl]) rfl ⟨rfl,oU,MF,_,yP,((AQ.o.setCell Fu _).setCell Fu _).drew,?_,((eU.o.setCell (.inr (U12 _)) _).setCell (.inr (U12 _)) _).drew,λ k hk=>(Cy.o k hk).imp id (λ e=>by omega)⟩;rw[O6v _ into ri t (a,b) iv _ QQ.o (by simp[bs]),MI.o]
    have mC:=ek.o;rw[U1c hb]at mC;have bJ:(((Va (bs s) e1:Nat):Int) != 61)=true:=Ye;have pa:=U10 mC;clear mC hb;go_wp2_with fail;refine (O3m e1 e1 rfl _).mono ?_;rintro e w6 ⟨rfl,g6⟩;obtain⟨u0,u1,uf,ul⟩:=qM.o.f.gr g6;have dI:=lN.o.gr g6;go_wp2_with fail;rw[<-pa.o];exact U11 (v:=.tuple #[(0:Int),fv 3 e1]) (by simp[results,results76,go_sem,u0,u1,uf,ul]) rfl ⟨rfl,Ya,FV own',((dI.setCell (.inr (U12 _)) _).setCell (.inr (U12 _)) _),(((cN.o.rk.gr g6).set Ya _).set Ya _)⟩
   |cons x lM =>
    simp only at eH;have b1:((j:Int)==(la:Int))=false:=by have:=qJ.o;simp at this;simp;omega
    obtain⟨q0,q1,qf,ql⟩:=fO.o.f;by_cases hH:256<d'+1
    ·rw[U1a hH]at eH;have b2:decide ((256:Int)<(d':Int)+1)=true:=by simp;omega
     have vN:=U10 eH;clear eH hH;go_wp2_with fail
     go_region
     all_goals go_wp2_with fail
     have AB:X=.bad 4 a:=by have:=HX.o;rw[<-vN.o]at this;exact this.symm
     rw[AB];exact U11 (v:=.tuple #[(0:Int),fv 4 a]) (by simp[results,results76,go_sem,q0,q1,qf,ql]) rfl ⟨rfl,Ya,FV own',((bG.o.setCell (.inr (U12 _)) _).setCell (.inr (U12 _)) _).drew,((ay.o.rk.set Ya _).set Ya _).drew⟩
    rw[U1c hH]at eH;have b2:decide ((256:Int)<(d':Int)+1)=false:=Ye
    split at eH
    ·rename_i jR
     simp only[U1h]at jR;have vN:=U10 eH;have IQ:=U10 jR;clear eH hH jR;go_wp2_with fail;refine (Oca wr R B base s root nv' L' own' ay.o IQ.o.2 (-1) (-1)).mono ?_;rintro e w4 ⟨rfl,IR,qP,pn,yQ,wl⟩;have qQ:∀k,k<w2.heap.size->¬FV own k->¬FV own' k:=λ k hk hn hf=>by
      rcases cp.o k hf with e|e
      exact hn e
      omega
     have qL:=fO.o.st yQ (qQ _ HK.o.f.2.2.2 bT) (qQ _ HK.o.kl qI) (qQ _ HK.o.gkl ur) (qQ _ HK.o.gsl ut);obtain⟨uw,ux,gX,uy,uz⟩:=pn.cells;have cN:=U10 pn;have lN:=U10 yQ;have wn:=U10 wl;have qM:=U10 qL;clear pn yQ wl qL;have bt:IntKind.i64.wrap ((table:Int)+1)=(table:Int)+1:=U1k _ ⟨Ya,Ya⟩;obtain⟨D,Cz,MN⟩:=cN.o.map;have IT:=U10 Cz;have QR:=U10 MN;have yH:L'.length<=20000000:=by have:=IQ.o.2;simpa [Pl.room]using this
     have IU:V4f (L'++[V58 (-1) (-1)])<maxLen:=by have:=Om6 (L'++[V58 (-1) (-1)]);simp at this;unfold maxLen;omega
     clear Cz MN;have kI:∀k,k<w2.heap.size->¬FV own k->¬FV qP k:=λ k hk hn hf=>by
      rcases wn.o k hf with e|e
      exact qQ k hk hn e
      omega
     have CA:=kI _ HK.o.f.2.2.2 bT;have CB:=kI _ HK.o.kl qI;have CC:=kI _ HK.o.gkl ur;have CD:=kI _ HK.o.gsl ut;have yR:Hid (∀w5,w5.ownsMap prog 3 (plainElem (H:=Unit) prog 3) B (V4f (L'++[V58 (-1) (-1)])+1) (D.put (.int .i64 (L'.length:Int)) (.lit (.int .i64 ((table:Int)+1))))->w4.grownBy w5 (some B)->RdV w5 R B base s root IR ((L'++[V58 (-1) (-1)]).set L'.length (V6u (V58 (-1) (-1)) (table+1))) qP/\St (FV qP) (FV qP) w4 w5) :=
      λ w5 ho hg=>cN.o.owned L'.length (V58 (-1) (-1)) Yb rfl (table+1) Ya Ya D QR.o ho hg
     have IV:(Lit.int .i64 (L'.length:Int)).wf=true:=by simp[Lit.wf,IntKind.min,IntKind.max,IntKind.signed,IntKind.bits];omega
     have IW:(Lit.int .i64 ((table:Int)+1)).wf=true:=by simp[Lit.wf,IntKind.min,IntKind.max,IntKind.signed,IntKind.bits];omega
     go_wp2_with (first|(at_mapUpdate;refine wpList_mapUpdate_own _ rfl _ _ _ 78 rfl 3 3 (Maps.int_keyed underlying3) underlying78 (plainElem (H:=Unit) prog 3) B (V4f (L'++[V58 (-1) (-1)])) D rfl IT.o IU (.int .i64 (L'.length:Int)) (.int .i64 ((table:Int)+1)) (.int .i64 (L'.length:Int)) rfl rfl (U4d underlying3 IV) (.lit (.int .i64 ((table:Int)+1))) [] (plainElem_int underlying3 IW) ?_;intro w5 eE qR;have h5:=U10 (yR.o w5 eE qR);have yS:=U10 (qM.o.st h5.o.2 CA CB CC CD);clear eE qR;have z1:=yS.o.k1;obtain⟨_,z2,z3⟩:=yS.o.w j t a b AO.o));have bh:=IQ.o.1;obtain⟨ri,iE⟩:∃ri,L'[into]?=some ri:=by
      unfold Pl.kind8 at bh;rw[U1h,U1m]at bh
      replace bh:=bh.2
      cases hl:L'[into]? with
      |none=>rw[hl]at bh;cases bh
      |some ri=>exact⟨ri,rfl⟩
     have dT:=(U14.1 iE).1;unfold Pl.kind8 at bh;rw[U1h,U1m,iE]at bh
     replace bh:=bh.2
     simp only[U25,U1h,U1x,U2z]at bh;obtain⟨⟨⟨Fo,Fp⟩,Fq⟩,Fs⟩:=bh;have QS:(L'++[V58 (-1) (-1)]).set L'.length (V6u (V58 (-1) (-1)) (table+1))=L'++[V6u (V58 (-1) (-1)) (table+1)]:=by
      rw[U4a _ _ (U12 _)];simp
     have vw:=h5.o.1;rw[QS]at vw;refine (Ohv w5 R B base s root IR _ qP vw Ye into ri (by rw[U19 dT];exact iE) Fo Fp Fq Fs ⟨t.toArray⟩ a b L'.length).mono ?_;rintro e w6 ⟨rfl,IX,UF,UG,UH,As,dI,ww⟩;have lj:=U10 As;have iw:=U10 dI;have CE:=U10 ww;clear vw As dI ww;go_wp2_with fail
     go_roundw
     case rel =>
      have mD:=h5.o.2;refine⟨done++[(t,a,b)],x::lM,j+1,L'.length,d'+1,IR,_,IX,Yb,rfl,rfl,Yb,by simp[yJ],by rw[IB.o];simp,Yb,Ya,lj.o,?_,?_,?_,?_,?_,?_⟩;rw[O6v _ into ri t (a,b) L'.length _ (by rw[U19 dT];exact iE) (by simp[bs]),U2x];rw[U1j]at vN;exact vN.o;exact yS.o.st iw.o CA CB CC CD;exact ((nz.o.st lN.o (λ k hk=>(ay.o.lt k hk).1)).st mD (λ k hk=>(cN.o.lt k hk).1)).st iw.o (λ k hk=>(cN.o.lt k hk).1);exact ((bG.o.trans lN.o).trans mD).trans iw.o
      intro k hk;rcases CE.o k hk with e|e
      rcases wn.o k e with e|e
      exact cp.o k e
      exact J69
      exact .inr (by have:=lN.o.size;have:=mD.size;omega)
      have:=lN.o.size;have:=mD.size;have:=iw.o.size;omega
     case measure=>have:=IC.o;simp[intOf];omega
    exact absurd eH.symm tL.o
