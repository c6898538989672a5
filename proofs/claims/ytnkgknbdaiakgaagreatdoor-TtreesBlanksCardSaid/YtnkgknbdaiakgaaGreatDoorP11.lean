/- The proof's part 11. -/
import Derived.Test.YtnkgknbdaiakgaaGreatDoorP10
set_option maxHeartbeats 16000000
set_option linter.all false
set_option maxRecDepth 100000
namespace Go.Proofs.YtnkgknbdaiakgaaGreatDoor
open Pl Go.Proofs.Tryz Go.RowKit Go.Shelf Go.Joins
attribute [local go_sem] Uy
namespace Pl
theorem V5u(b:UInt8)(l:Bs):V1a b l≠[]:=by
 cases l with
 |nil=>simp[V1a]
 |cons c l =>
  unfold V1a;split;simp
  split <;> simp
theorem V6x(b:UInt8)(l:Bs)(h:Lib.indexByte l b = -1):V1a b l=[l]:=by
 induction l with
 |nil=>rfl
 |cons c l ih =>
  cases hc:(c==b) with
  |true=>unfold Lib.indexByte at h;rw[hc]at h;cases h
  |false =>
   have h2:Lib.indexByte l b = -1:=by
    rcases O_v l b with e|⟨i,e⟩
    exact e
    rw[Oj c b l hc _ e,Ud (by omega)]at h;omega
   unfold V1a;rw[hc,ih h2];rfl
theorem V7j(b:UInt8)(l:Bs)(i:Nat)(h:Lib.indexByte l b=i):i<l.length/\V1a b l=l.take i::V1a b (l.drop (i+1)):=by
 induction l generalizing i with
 |nil=>unfold Lib.indexByte at h;omega
 |cons c l ih =>
  cases hc:(c==b) with
  |true =>
   have:i=0:=by unfold Lib.indexByte at h;rw[hc]at h;simp at h;omega
   subst this;refine⟨by simp,?_⟩
   conv=>lhs;unfold V1a
   rw[hc];rfl
  |false =>
   rcases O_v l b with e|⟨k,e⟩
   rw[Oj c b l hc _ e,Ua rfl]at h;omega
   rw[Oj c b l hc _ e,Ud (by omega)]at h;obtain rfl:i=k+1:=by omega
   obtain⟨h1,h2⟩:=ih k e;refine⟨by simp;omega,?_⟩
   conv=>lhs;unfold V1a
   rw[hc,h2];simp
end Pl
abbrev V4z(n:Nat):={ x:ByteArray // x.size<=n }
def sbs{n:Nat}(x:V4z n):List UInt8:=bs x.1
def O5u(B:Nat)(w:World):Nat:=match w.cell? ⟨B,0,none⟩ with
 |some (.string t)=>t.size
 |_=>0
theorem O9u(n:Nat)(hn:1<=n)(B1 B2 B3:Nat)(s:ByteArray)(hs:s.size<=20000000)(w:World)(G9:B1≠B2)(xc:B3≠B2)
    (h1:w.heap[B1]?=some (.cells #[.string ⟨#[95]⟩] 9 (0,0)))(h2:w.heap[B2]?=some (.cells #[.string s] 9 (0,0)))(h3:w.heap[B3]?=some (.cells #[(0:Int)] 3 (0,0))) :
    Vch Fence.wide n prog 206 #[.pointer (some ⟨B1,0,none⟩),.pointer (some ⟨B2,0,none⟩),.pointer (some ⟨B3,0,none⟩)] (λ x:V4z s.size=>#[.string x.1]) (λ xs=>xs.map sbs=V1a 95 (bs s)) (λ pre=>∃xd,pre.map sbs++xd=V1a 95 (bs s)) (V1a 95 (bs s)).length (λ r=>r=B1\/r=B2\/r=B3) w:=λ l J Jx W hW hJ Sq hY h0=>by
 have hb:∀{B:Nat} {o},w.heap[B]?=some o->W.heap[B]?=some o:=λ {B o} e=>(Below.block hW B (U8.1 e).1).trans e
 have k1:=hb h1;have k2:=hb h2;have k3:=hb h3;clear hb hW h1 h2 h3;have c1:W.cell? ⟨B1,0,none⟩=some (.string ⟨#[95]⟩):=by rw[cell_of_block k1];rfl
 refine callsIn_of_wp func206 rfl U2d ?_ rfl;simp only[ntmps206,List.size_toArray,Ub,Ur,Nat.reduceAdd,Nat.reduceSub,Array.replicate_succ,Array.replicate_zero,List.push_toArray,List.append_toArray,U1c,Un]
 gi_wp2_with fail
 gi_loopw [7] (λ _ wr=>∃(pre:List (V4z s.size))(rest:ByteArray),J pre wr/\wr.heap[B1]?=some (.cells #[.string ⟨#[95]⟩] 9 (0,0))/\wr.heap[B2]?=some (.cells #[.string rest] 9 (0,0))/\wr.heap[B3]?=some (.cells #[(0:Int)] 3 (0,0))/\rest.size<=s.size/\pre.map sbs++V1a 95 (bs rest)=V1a 95 (bs s)) (λ _ wr=>O5u B2 wr)
 case atStart=>exact⟨[],s,h0,k1,k2,k3,U2 _,rfl⟩
 case round =>
  obtain⟨pre,rest,hj,q1,q2,q3,jO,hp⟩:=hrel;clear c1 k1 k2 k3;have d1:wr.cell? ⟨B1,0,none⟩=some (.string ⟨#[95]⟩):=by rw[cell_of_block q1];rfl
  have d2:wr.cell? ⟨B2,0,none⟩=some (.string rest):=by rw[cell_of_block q2];rfl
  have d3:wr.cell? ⟨B3,0,none⟩=some (.int .i64 0):=by rw[cell_of_block q3];rfl
  have f2:wr.frozen? ⟨B2,0,none⟩=false:=unfrozen_of_block q2 0;have ao:pre.length<(V1a 95 (bs s)).length:=by
   rw[<-hp,Ug,Ul];have:=U2b.2 (V5u 95 (bs rest));omega
  rcases O_v (bs rest) 95 with hi|⟨i,hi⟩
  ·have HI:Hid (Lib.indexByte rest.data.toList 95 = -1):=hi;have cA:(pre++[(⟨rest,jO⟩:V4z s.size)]).map sbs=V1a 95 (bs s):=by rw[<-hp,V6x 95 _ hi,U20,List.map_singleton];rfl
   have HL:=U0 cA;obtain⟨NS,t1,a1,b1,dL,fJ⟩:=hY pre (⟨rest,jO⟩:V4z s.size) wr hj ao
   try dsimp only at dL
   clear hp hi cA
   gi_wp2_with (refine⟨U2d,?_⟩;gi_at_call 198;refine (U2x.2 (strings_Index_one rest 95 _)).mono ?_;rw[HI.o];rintro e w1 ⟨rfl,rfl⟩)
   refine fJ.mono ?_;rintro e W' (⟨rfl,Ga,_⟩|⟨rfl,xe⟩)
   ·gi_wp2
    go_end0
    exact⟨⟨_,rfl⟩,.inl ⟨pre++[(⟨rest,jO⟩:V4z s.size)],HL.o,Ga⟩⟩
   gi_wp2
   go_end0
   exact⟨⟨_,rfl⟩,.inr ⟨pre++[(⟨rest,jO⟩:V4z s.size)],⟨[],by rw[HL.o];simp⟩,xe⟩⟩
  have HI:Hid (Lib.indexByte rest.data.toList 95=(i:Int)):=hi;obtain⟨eK,dv⟩:=V7j 95 (bs rest) i hi;rw[O0]at eK;have hx:bs (rest.extract 0 i)=(bs rest).take i:=by
   simp only[bs,U27];simp
  have aG:bs (rest.extract (i+1) rest.size)=(bs rest).drop (i+1):=O3 rest (i+1);have nX:(rest.extract 0 i).size<=s.size:=by simp;omega
  have jt:(pre++[(⟨rest.extract 0 i,nX⟩:V4z s.size)]).map sbs++V1a 95 (bs (rest.extract (i+1) rest.size))=V1a 95 (bs s):=by
   rw[<-hp,dv,U20,List.map_singleton,aG];unfold sbs;simp only[hx];simp
  have HP:=U0 jt;obtain⟨NS,t1,a1,b1,dL,fJ⟩:=hY pre (⟨rest.extract 0 i,nX⟩:V4z s.size) wr hj ao
  try dsimp only at dL
  clear hp hi dv hx aG jt;have w0:IntKind.i64.wrap ((i:Int)+0)=(i:Int):=by rw[Uk _ ⟨by omega,by omega⟩];omega
  have w1:IntKind.i64.wrap ((i:Int)+1)=(i:Int)+1:=Uk _ ⟨by omega,by omega⟩;have e0:(0:Int)<=(i:Int):=by omega
  have e1:(i:Int)<=(rest.size:Int):=by omega
  have e2:(i:Int)+1<=(rest.size:Int):=by omega
  have e3:((i:Int)+1).toNat=i+1:=by omega
  have e4:decide ((i:Int)<0)=false:=by simp
  gi_wp2_with (refine⟨U2d,?_⟩;gi_at_call 198;refine (U2x.2 (strings_Index_one rest 95 _)).mono ?_;rw[HI.o];rintro e w1 ⟨rfl,rfl⟩)
  refine fJ.mono ?_;rintro e W' (⟨rfl,Ga,cS⟩|⟨rfl,xe⟩)
  have r1:=(cS B1 (.inl rfl)).trans q1;have r2:=(cS B2 (.inr (.inl rfl))).trans q2;have r3:=(cS B3 (.inr (.inr rfl))).trans q3;have g1:W'.cell? ⟨B1,0,none⟩=some (.string ⟨#[95]⟩):=by rw[cell_of_block r1];rfl
  have g2:W'.cell? ⟨B2,0,none⟩=some (.string rest):=by rw[cell_of_block r2];rfl
  have gf:W'.frozen? ⟨B2,0,none⟩=false:=unfrozen_of_block r2 0;have d5:=show O5u B2 _=rest.size by unfold O5u;rw[d2]
  clear cS q1 q2 q3 d1 d2 d3 f2
  gi_wp2_with fail
  refine⟨?_,?_⟩
  refine⟨pre++[(⟨rest.extract 0 i,nX⟩:V4z s.size)],rest.extract (i+1) rest.size,?_,(U5 _ _ _ _ (by simp[G9])).trans r1,?_,(U5 _ _ _ _ (by simp[xc])).trans r3,by simp;omega,HP.o⟩;exact hJ _ _ _ (some B2) Ga (grownBy_setCell' W' B2 _) (λ r e=>by cases e;exact .inr (.inl rfl))
  have:=block_setCell (i:=0) r2 (.string (rest.extract (i+1) rest.size))
  simpa using this
  rw[show O5u B2 _=rest.size from d5];unfold O5u;rw[U1u _ _ _ (by rw[g2];rfl)];simp;omega
  gi_wp2
  exact U1 (v := .tuple #[]) (results_none rfl _ _ _) rfl ⟨⟨_,rfl⟩,.inr ⟨pre++[(⟨rest.extract 0 i,nX⟩:V4z s.size)],⟨_,HP.o⟩,xe⟩⟩
