/- The proof's part 11. -/
import Derived.Test.YtnkgknbdaiakgaaGreatDoorQ10
set_option maxHeartbeats 16000000
set_option linter.all false
set_option maxRecDepth 100000
namespace Go.Proofs.YtnkgknbdaiakgaaGreatDoor
open Pl Go.Proofs.Tryz Go.RowKit Go.Shelf Go.Joins
attribute [local go_sem] U22
namespace Pl
theorem V5s(b:UInt8)(l:Bs):V1b b l≠[]:=by
 cases l with
 |nil=>simp[V1b]
 |cons c l =>
  unfold V1b;split;simp
  split <;> simp
theorem V6w(b:UInt8)(l:Bs)(h:Lib.indexByte l b = -1):V1b b l=[l]:=by
 induction l with
 |nil=>rfl
 |cons c l ih =>
  cases hc:(c==b) with
  |true=>unfold Lib.indexByte at h;rw[hc]at h;cases h
  |false =>
   have h2:Lib.indexByte l b = -1:=by
    rcases Oz l b with e|⟨i,e⟩
    exact e
    rw[Ol c b l hc _ e,U1c Ya]at h;omega
   unfold V1b;rw[hc,ih h2];rfl
theorem V7j(b:UInt8)(l:Bs)(i:Nat)(h:Lib.indexByte l b=i):i<l.length/\V1b b l=l.take i::V1b b (l.drop (i+1)):=by
 induction l generalizing i with
 |nil=>unfold Lib.indexByte at h;omega
 |cons c l ih =>
  cases hc:(c==b) with
  |true =>
   have:i=0:=by unfold Lib.indexByte at h;rw[hc]at h;simp at h;omega
   subst this;refine⟨Yb,?_⟩
   conv=>lhs;unfold V1b
   rw[hc];rfl
  |false =>
   rcases Oz l b with e|⟨k,e⟩
   rw[Ol c b l hc _ e,U1a rfl]at h;omega
   rw[Ol c b l hc _ e,U1c Ya]at h;obtain rfl:i=k+1:=Ya
   obtain⟨h1,h2⟩:=ih k e;refine⟨Ye,?_⟩
   conv=>lhs;unfold V1b
   rw[hc,h2];simp
end Pl
abbrev V4u(n:Nat):={ x:ByteArray // x.size<=n }
def sbs{n:Nat}(x:V4u n):List UInt8:=bs x.1
def O5k(B:Nat)(w:World):Nat:=match w.cell? B with
 |some (.string t)=>t.size
 |_=>0
theorem O9g(n:Nat)(hn:1<=n)(B1 B2 B3:Nat)(s:ByteArray)(hs:s.size<=20000000)(w:World)(Q3:B1≠B2)(yr:B3≠B2)(h1:w.heap[B1]?=some (.cells #[.string ⟨#[95]⟩] 9 (0,0)))(h2:w.heap[B2]?=some (.cells #[.string s] 9 (0,0)))(h3:w.heap[B3]?=some (.cells #[(0:Int)] 3 (0,0))):Vcn Fence.wide n prog 206 #[.pointer (some ⟨B1,0,none⟩),.pointer (some ⟨B2,0,none⟩),.pointer (some ⟨B3,0,none⟩)] (λ x:V4u s.size=>#[.string x.1]) (λ xs=>xs.map sbs=V1b 95 (bs s)) (λ pre=>∃yv,pre.map sbs++yv=V1b 95 (bs s)) (V1b 95 (bs s)).length (λ r=>r=B1\/r=B2\/r=B3) w:=λ l J Jx W hW hJ Ua hY h0=>by
 have hb:∀{B:Nat} {o},w.heap[B]?=some o->W.heap[B]?=some o:=λ {B o} e=>(Below.block hW B (U18.1 e).1).trans e
 have k1:=hb h1;have k2:=hb h2;have k3:=hb h3;clear hb hW h1 h2 h3;have c1:W.cell? B1=some (.string ⟨#[95]⟩):=by rw[cell_of_block k1];rfl
 refine callsIn_of_wp func206 rfl U3f ?_ rfl;simp only[ntmps206,List.size_toArray,U1d,U1q,Nat.reduceAdd,Nat.reduceSub,Array.replicate_succ,Array.replicate_zero,List.push_toArray,List.append_toArray,U2l,U1o]
 gi_wp2_with fail
 gi_loopw [7] (λ _ wr=>∃(pre:List (V4u s.size))(rest:ByteArray),J pre wr/\wr.heap[B1]?=some (.cells #[.string ⟨#[95]⟩] 9 (0,0))/\wr.heap[B2]?=some (.cells #[.string rest] 9 (0,0))/\wr.heap[B3]?=some (.cells #[(0:Int)] 3 (0,0))/\rest.size<=s.size/\pre.map sbs++V1b 95 (bs rest)=V1b 95 (bs s)) (λ _ wr=>O5k B2 wr)
 case atStart=>exact⟨[],s,h0,k1,k2,k3,U12 _,rfl⟩
 case round =>
  obtain⟨pre,rest,hj,q1,q2,q3,iZ,hp⟩:=hrel;clear c1 k1 k2 k3;have d1:wr.cell? B1=some (.string ⟨#[95]⟩):=by rw[cell_of_block q1];rfl
  have d2:wr.cell? B2=some (.string rest):=by rw[cell_of_block q2];rfl
  have d3:wr.cell? B3=some (.int .i64 0):=by rw[cell_of_block q3];rfl
  have f2:wr.frozen? B2=false:=unfrozen_of_block q2 0;have ap:pre.length<(V1b 95 (bs s)).length:=by
   rw[<-hp,U1b,U1j];have:=U3t.2 (V5s 95 (bs rest));omega
  rcases Oz (bs rest) 95 with hi|⟨i,hi⟩
  ·have HI:Hid (Lib.indexByte rest.data.toList 95 = -1):=hi;have dn:(pre++[(⟨rest,iZ⟩:V4u s.size)]).map sbs=V1b 95 (bs s):=by rw[<-hp,V6w 95 _ hi,U2x,List.map_singleton];rfl
   have HL:=U10 dn;obtain⟨Q4,t1,a1,b1,dQ,fP⟩:=hY pre (⟨rest,iZ⟩:V4u s.size) wr hj ap
   try dsimp only at dQ
   clear hp hi dn
   gi_wp2_with (refine⟨U3f,?_⟩;gi_at_call 198;refine (U3x.2 (strings_Index_one rest 95 _)).mono ?_;rw[HI.o];rintro e w1 ⟨rfl,rfl⟩)
   refine fP.mono ?_;rintro e W' (⟨rfl,I4,_⟩|⟨rfl,yw⟩)
   ·gi_wp2
    go_end0
    exact⟨⟨_,rfl⟩,.inl ⟨pre++[(⟨rest,iZ⟩:V4u s.size)],HL.o,I4⟩⟩
   gi_wp2
   go_end0
   exact⟨⟨_,rfl⟩,.inr ⟨pre++[(⟨rest,iZ⟩:V4u s.size)],⟨[],by rw[HL.o];simp⟩,yw⟩⟩
  have HI:Hid (Lib.indexByte rest.data.toList 95=(i:Int)):=hi;obtain⟨dT,cg⟩:=V7j 95 (bs rest) i hi;rw[O0]at dT;have hx:bs (rest.extract 0 i)=(bs rest).take i:=by
   simp only[bs,U36];simp
  have aG:bs (rest.extract (i+1) rest.size)=(bs rest).drop (i+1):=O4 rest (i+1);have mw:(rest.extract 0 i).size<=s.size:=Ye;have mx:(pre++[(⟨rest.extract 0 i,mw⟩:V4u s.size)]).map sbs++V1b 95 (bs (rest.extract (i+1) rest.size))=V1b 95 (bs s):=by
   rw[<-hp,cg,U2x,List.map_singleton,aG];unfold sbs;simp only[hx];simp
  have HP:=U10 mx;obtain⟨Q4,t1,a1,b1,dQ,fP⟩:=hY pre (⟨rest.extract 0 i,mw⟩:V4u s.size) wr hj ap
  try dsimp only at dQ
  clear hp hi cg hx aG mx;have w0:IntKind.i64.wrap ((i:Int)+0)=(i:Int):=by rw[U1k _ ⟨Ya,Ya⟩];omega
  have w1:IntKind.i64.wrap ((i:Int)+1)=(i:Int)+1:=U1k _ ⟨Ya,Ya⟩;have e0:(0:Int)<=(i:Int):=Ya;have e1:(i:Int)<=(rest.size:Int):=Ya;have e2:(i:Int)+1<=(rest.size:Int):=Ya;have e3:((i:Int)+1).toNat=i+1:=Ya;have e4:decide ((i:Int)<0)=false:=Yb
  gi_wp2_with (refine⟨U3f,?_⟩;gi_at_call 198;refine (U3x.2 (strings_Index_one rest 95 _)).mono ?_;rw[HI.o];rintro e w1 ⟨rfl,rfl⟩)
  refine fP.mono ?_;rintro e W' (⟨rfl,I4,ed⟩|⟨rfl,yw⟩)
  have r1:=(ed B1 (.inl rfl)).trans q1;have r2:=(ed B2 (.inr (.inl rfl))).trans q2;have r3:=(ed B3 (.inr (.inr rfl))).trans q3;have g1:W'.cell? B1=some (.string ⟨#[95]⟩):=by rw[cell_of_block r1];rfl
  have g2:W'.cell? B2=some (.string rest):=by rw[cell_of_block r2];rfl
  have gf:W'.frozen? B2=false:=unfrozen_of_block r2 0;have dc:=show O5k B2 _=rest.size by unfold O5k;rw[d2]
  clear ed q1 q2 q3 d1 d2 d3 f2
  gi_wp2_with fail
  refine⟨?_,?_⟩
  refine⟨pre++[(⟨rest.extract 0 i,mw⟩:V4u s.size)],rest.extract (i+1) rest.size,?_,(U15 _ _ _ _ (by simp[Q3])).trans r1,?_,(U15 _ _ _ _ (by simp[yr])).trans r3,Ye,HP.o⟩;exact hJ _ _ _ (some B2) I4 (grownBy_setCell' W' B2 _) (λ r e=>by cases e;exact .inr (.inl rfl))
  have:=block_setCell (i:=0) r2 (.string (rest.extract (i+1) rest.size))
  simpa using this
  rw[show O5k B2 _=rest.size from dc];unfold O5k;rw[U2v _ _ _ (by rw[g2];rfl)];simp;omega
  gi_wp2
  exact U11 (v:=.tuple #[]) (results_none rfl _ _ _) rfl ⟨⟨_,rfl⟩,.inr ⟨pre++[(⟨rest.extract 0 i,mw⟩:V4u s.size)],⟨_,HP.o⟩,yw⟩⟩
