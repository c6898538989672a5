/-
 The walks and plain laws that the claim rests on, part 14.
-/
import Derived.Test.YtfogfaagjpebcaaGreatDoorP00
import Derived.Test.YtfogfaagjpebcaaGreatDoorP04
import Derived.Test.YtfogfaagjpebcaaGreatDoorP11
import Derived.Test.YtfogfaagjpebcaaGreatDoorP13
set_option maxHeartbeats 16000000
set_option linter.all false
set_option linter.unusedVariables false
set_option linter.unusedSimpArgs false
namespace Go.Proofs.YtfogfaagjpebcaaGreatDoor
open Go.RowKit Go.Shelf Go.Joins
attribute [local go_sem] Oper.semAt_some
namespace Pl
theorem splitB_ne (b:UInt8) (l:Bs):splitB b l≠[]:=by
 cases l with
 | nil=>simp[splitB]
 | cons c l =>
  unfold splitB;split
  · simp
  split <;> simp
theorem splitB_miss (b:UInt8) (l:Bs) (h:Lib.indexByte l b = -1):splitB b l=[l]:=by
 induction l with
 | nil=>rfl
 | cons c l ih =>
  cases hc:(c==b) with
  | true=>unfold Lib.indexByte at h;rw[hc]at h;cases h
  | false =>
   have h2:Lib.indexByte l b = -1:=by
    rcases indexByte_cases l b with e|⟨i,e⟩
    · exact e
    rw[indexByte_step c b l hc _ e,if_neg (by omega)]at h;omega
   unfold splitB;rw[hc,ih h2];rfl
theorem splitB_hit (b:UInt8) (l:Bs) (i:Nat) (h:Lib.indexByte l b=i):i<l.length∧splitB b l=l.take i::splitB b (l.drop (i+1)):=by
 induction l generalizing i with
 | nil=>unfold Lib.indexByte at h;omega
 | cons c l ih =>
  cases hc:(c==b) with
  | true =>
   have:i=0:=by unfold Lib.indexByte at h;rw[hc]at h;simp at h;omega
   subst this;refine⟨by simp,?_⟩
   conv=>lhs;unfold splitB
   rw[hc];rfl
  | false =>
   rcases indexByte_cases l b with e|⟨k,e⟩
   · rw[indexByte_step c b l hc _ e,if_pos rfl]at h;omega
   rw[indexByte_step c b l hc _ e,if_neg (by omega)]at h;obtain rfl:i=k+1:=by omega
   obtain⟨h1,h2⟩:=ih k e;refine⟨by simp;omega,?_⟩
   conv=>lhs;unfold splitB
   rw[hc,h2];simp
end Pl
abbrev SubB (n:Nat):={ x:ByteArray // x.size≤n }
def sbs {n:Nat} (x:SubB n):List UInt8:=bs x.1
def boxStr (B:Nat) (w:World):Nat:=match w.cell? ⟨B,0,none⟩ with
 | some (.string t)=>t.size
 | _=>0
set_option maxRecDepth 100000 in
theorem split_seq (n:Nat) (hn:1≤n) (B1 B2 B3:Nat) (s:ByteArray) (hs:s.size≤20000000) (w:World) (h12:B1≠B2) (h32:B3≠B2)
    (h1:w.heap[B1]?=some (.cells #[.string ⟨#[95]⟩] 9 (0,0))) (h2:w.heap[B2]?=some (.cells #[.string s] 9 (0,0))) (h3:w.heap[B3]?=some (.cells #[.int .i64 0] 3 (0,0))) :
    SeqC Fence.wide n Tryz.prog 195 #[.pointer (some ⟨B1,0,none⟩),.pointer (some ⟨B2,0,none⟩),.pointer (some ⟨B3,0,none⟩)] (fun x:SubB s.size=>#[.string x.1]) (fun xs=>xs.map sbs=Pl.splitB 95 (bs s)) (fun pre=>∃suf,pre.map sbs++suf=Pl.splitB 95 (bs s)) (Pl.splitB 95 (bs s)).length (fun r=>r=B1∨r=B2∨r=B3) w:=fun l J Jx W hW hJ hJx hY h0=>by
 have hb:∀ {B:Nat} {o},w.heap[B]?=some o→W.heap[B]?=some o:=fun {B o} e=>(Below.block hW B (Array.getElem?_eq_some_iff.1 e).1).trans e
 have k1:=hb h1;have k2:=hb h2;have k3:=hb h3;clear hb hW h1 h2 h3;have c1:W.cell? ⟨B1,0,none⟩=some (.string ⟨#[95]⟩):=by rw[cell_of_block k1];rfl
 refine callsIn_of_wp Tryz.func195 rfl trivial ?_ rfl;simp only[Tryz.ntmps195,List.size_toArray,List.length_cons,List.length_nil,Nat.reduceAdd,Nat.reduceSub,Array.replicate_succ,Array.replicate_zero,List.push_toArray,List.append_toArray,List.nil_append,List.cons_append]
 gi_wp2_with fail
 gi_loopw [7] (fun _ wr=>∃(pre:List (SubB s.size)) (rest:ByteArray),J pre wr∧wr.heap[B1]?=some (.cells #[.string ⟨#[95]⟩] 9 (0,0))∧wr.heap[B2]?=some (.cells #[.string rest] 9 (0,0))∧wr.heap[B3]?=some (.cells #[.int .i64 0] 3 (0,0))∧rest.size≤s.size∧pre.map sbs++Pl.splitB 95 (bs rest)=Pl.splitB 95 (bs s)) (fun _ wr=>boxStr B2 wr)
 case atStart=>exact⟨[],s,h0,k1,k2,k3,Nat.le_refl _,rfl⟩
 case round =>
  obtain⟨pre,rest,hj,q1,q2,q3,hrs,hp⟩:=hrel;clear c1 k1 k2 k3;have d1:wr.cell? ⟨B1,0,none⟩=some (.string ⟨#[95]⟩):=by rw[cell_of_block q1];rfl
  have d2:wr.cell? ⟨B2,0,none⟩=some (.string rest):=by rw[cell_of_block q2];rfl
  have d3:wr.cell? ⟨B3,0,none⟩=some (.int .i64 0):=by rw[cell_of_block q3];rfl
  have f2:wr.frozen? ⟨B2,0,none⟩=false:=unfrozen_of_block q2 0;have hlen:pre.length<(Pl.splitB 95 (bs s)).length:=by
   rw[←hp,List.length_append,List.length_map];have:=List.length_pos_iff.2 (Pl.splitB_ne 95 (bs rest));omega
  rcases indexByte_cases (bs rest) 95 with hi|⟨i,hi⟩
  · have HI:Hid (Lib.indexByte rest.data.toList 95 = -1):=hi;have hlast:(pre++[(⟨rest,hrs⟩:SubB s.size)]).map sbs=Pl.splitB 95 (bs s):=by rw[←hp,Pl.splitB_miss 95 _ hi,List.map_append,List.map_singleton];rfl
    have HL:=Lib.hid hlast;obtain⟨fn1,t1,a1,b1,hy1,hR1⟩:=hY pre (⟨rest,hrs⟩:SubB s.size) wr hj hlen
    try dsimp only at hy1
    clear hp hi hlast
    gi_wp2_with (refine⟨trivial,?_⟩;gi_at_call 187;refine (callsIn_wide.2 (Tryz.strings_Index_one rest 95 _)).mono ?_;rw[HI.out];rintro e w1 ⟨rfl,rfl⟩)
    refine hR1.mono ?_;rintro e W' (⟨rfl,hJ',_⟩|⟨rfl,hJx'⟩)
    · gi_wp2
      go_end0
      exact⟨⟨_,rfl⟩,.inl ⟨pre++[(⟨rest,hrs⟩:SubB s.size)],HL.out,hJ'⟩⟩
    gi_wp2
    go_end0
    exact⟨⟨_,rfl⟩,.inr ⟨pre++[(⟨rest,hrs⟩:SubB s.size)],⟨[],by rw[HL.out];simp⟩,hJx'⟩⟩
  have HI:Hid (Lib.indexByte rest.data.toList 95=(i:Int)):=hi;obtain⟨hil,hsp⟩:=Pl.splitB_hit 95 (bs rest) i hi;rw[bs_length]at hil;have hx:bs (rest.extract 0 i)=(bs rest).take i:=by
   simp only[bs,Lib.extract_data];simp
  have hrest:bs (rest.extract (i+1) rest.size)=(bs rest).drop (i+1):=bs_extract rest (i+1);have hxs:(rest.extract 0 i).size≤s.size:=by simp;omega
  have hp2:(pre++[(⟨rest.extract 0 i,hxs⟩:SubB s.size)]).map sbs++Pl.splitB 95 (bs (rest.extract (i+1) rest.size))=Pl.splitB 95 (bs s):=by
   rw[←hp,hsp,List.map_append,List.map_singleton,hrest];unfold sbs;simp only[hx];simp
  have HP:=Lib.hid hp2;obtain⟨fn1,t1,a1,b1,hy1,hR1⟩:=hY pre (⟨rest.extract 0 i,hxs⟩:SubB s.size) wr hj hlen
  try dsimp only at hy1
  clear hp hi hsp hx hrest hp2;have w0:IntKind.i64.wrap ((i:Int)+0)=(i:Int):=by rw[IntWalk.i64_in _ ⟨by omega,by omega⟩];omega
  have w1:IntKind.i64.wrap ((i:Int)+1)=(i:Int)+1:=IntWalk.i64_in _ ⟨by omega,by omega⟩;have e0:(0:Int)≤(i:Int):=by omega
  have e1:(i:Int)≤(rest.size:Int):=by omega
  have e2:(i:Int)+1≤(rest.size:Int):=by omega
  have e3:((i:Int)+1).toNat=i+1:=by omega
  have e4:decide ((i:Int)<0)=false:=by simp
  gi_wp2_with (refine⟨trivial,?_⟩;gi_at_call 187;refine (callsIn_wide.2 (Tryz.strings_Index_one rest 95 _)).mono ?_;rw[HI.out];rintro e w1 ⟨rfl,rfl⟩)
  refine hR1.mono ?_;rintro e W' (⟨rfl,hJ',hk'⟩|⟨rfl,hJx'⟩)
  · have r1:=(hk' B1 (.inl rfl)).trans q1;have r2:=(hk' B2 (.inr (.inl rfl))).trans q2;have r3:=(hk' B3 (.inr (.inr rfl))).trans q3;have g1:W'.cell? ⟨B1,0,none⟩=some (.string ⟨#[95]⟩):=by rw[cell_of_block r1];rfl
    have g2:W'.cell? ⟨B2,0,none⟩=some (.string rest):=by rw[cell_of_block r2];rfl
    have gf:W'.frozen? ⟨B2,0,none⟩=false:=unfrozen_of_block r2 0;have hsz:=show boxStr B2 _=rest.size by unfold boxStr;rw[d2]
    clear hk' q1 q2 q3 d1 d2 d3 f2
    gi_wp2_with fail
    refine⟨?_,?_⟩
    · refine⟨pre++[(⟨rest.extract 0 i,hxs⟩:SubB s.size)],rest.extract (i+1) rest.size,?_,(Below.heap_setCell _ _ _ _ (by simp[h12])).trans r1,?_,(Below.heap_setCell _ _ _ _ (by simp[h32])).trans r3,by simp;omega,HP.out⟩
      · exact hJ _ _ _ (some B2) hJ' (grownBy_setCell' W' B2 _) (fun r e=>by cases e;exact .inr (.inl rfl))
      have:=block_setCell (i:=0) r2 (.string (rest.extract (i+1) rest.size))
      simpa using this
    rw[show boxStr B2 _=rest.size from hsz];unfold boxStr;rw[World.cell?_setCell_same' _ _ _ (by rw[g2];rfl)];simp;omega
  gi_wp2
  exact bodyPost_ret (v := .tuple #[]) (results_none rfl _ _ _) rfl ⟨⟨_,rfl⟩,.inr ⟨pre++[(⟨rest.extract 0 i,hxs⟩:SubB s.size)],⟨_,HP.out⟩,hJx'⟩⟩
end Go.Proofs.YtfogfaagjpebcaaGreatDoor
