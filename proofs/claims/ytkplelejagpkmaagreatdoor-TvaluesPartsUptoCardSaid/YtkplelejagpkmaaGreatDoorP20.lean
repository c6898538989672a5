/-
 The walks and plain laws that the claim rests on, part 20.
-/
import Derived.Test.YtkplelejagpkmaaGreatDoorP09
import Derived.Test.YtkplelejagpkmaaGreatDoorP12
import Derived.Test.YtkplelejagpkmaaGreatDoorP15
import Derived.Test.YtkplelejagpkmaaGreatDoorP16
import Derived.Test.YtkplelejagpkmaaGreatDoorP19
import Derived.Shelf.Strings.FuncGrows
import Derived.Lib.IfaceNeq
set_option maxHeartbeats 16000000
set_option linter.all false
set_option linter.unusedVariables false
set_option linter.unusedSimpArgs false
namespace Go.Proofs.YtkplelejagpkmaaGreatDoor
open Go.RowKit Go.Shelf Go.Joins
attribute [local go_sem] Oper.semAt_some
theorem contains_low (x:Nat) (h:x<128) (w:World) :
    Calls Tryz.prog 70 #[.string pmD,.int .i32 x] w fun e w'=>e = .returned (.bool (x==43 || x==45 || x==95 || x==46))∧Gr w w':=by
 refine (Tryz.strings_ContainsRune_ascii pmD x w (by omega) (by omega)).mono ?_;rintro e w' ⟨rfl,rfl⟩;refine⟨?_,Gr.refl _⟩;have:∀x:Fin 128,decide (0≤Lib.indexByte pmD.data.toList ((x.val:Int)).toNat.toUInt8)=(x.val==43 || x.val==45 || x.val==95 || x.val==46):=by decide
 rw[this ⟨x,h⟩]
theorem contains_any (x:Nat) (h:x≤1114111) (w:World) :
    Calls Tryz.prog 70 #[.string pmD,.int .i32 x] w fun e w'=>e = .returned (.bool (x==43 || x==45 || x==95 || x==46))∧Gr w w':=by
 by_cases h1:x<128
 · exact contains_low x h1 w
 refine (contains_high x (by omega) (by omega) w).mono ?_;rintro e w' ⟨rfl,g⟩;refine⟨?_,g⟩;have a:(x==43)=false:=by simp;omega
 have b:(x==45)=false:=by simp;omega
 have c:(x==95)=false:=by simp;omega
 have d:(x==46)=false:=by simp;omega
 rw[a,b,c,d];rfl
theorem tv_part (x:Nat) (h:x≤1114111) (w:World) :
    Calls Tryz.prog 56 #[.int .i32 x] w fun e w'=>e = .returned (.bool (Pl.partN x))∧Gr w w':=by
 have HC:=Lib.hid (contains_any x h);clear h;go_enter Tryz.func56,Tryz.ntmps56;go_wp2_with (go_at_call 70;refine (HC.out _).mono ?_;rintro e w1 ⟨rfl,g1⟩)
 all_goals go_ret
 all_goals (refine⟨ret_bool ?_,by first|assumption|exact Gr.refl _⟩;rw[Bool.eq_iff_iff];simp[Pl.partN];try omega)
theorem part_pays (w:World):PredGrows Tryz.prog 56 #[] Pl.partN w:=by
 intro W x hx _;exact tv_part x hx W
theorem idx_part (s:ByteArray):∀f pos,pos≤s.size→s.size-pos≤f →
    Lib.idxFuncFrom Pl.partN false s f pos=if pos+(Pl.tok ((bs s).drop pos)).length<s.size then ((pos+(Pl.tok ((bs s).drop pos)).length:Nat):Int) else -1:=by
 intro f
 induction f with
 | zero =>
  intro pos h1 h2;have:¬pos<s.size:=by omega
  rw[Lib.idxFuncFrom,if_neg (by omega)]
 | succ f ih =>
  intro pos h1 h2;rw[Lib.idxFuncFrom];by_cases hp:pos<s.size
  · rw[if_pos hp];have hl:pos<(bs s).length:=by rw[bs_length];exact hp
    have hget:(bs s)[pos]'hl=s[pos]'hp:=rfl;by_cases hlow:(s[pos]'hp).toNat<128
    · rw[decode_low s pos hp hlow];cases hc:Pl.partN (s[pos]'hp).toNat with
      | false =>
       simp only[hc,if_true];have:Pl.tok ((bs s).drop pos)=[]:=by
        unfold Pl.tok;rw[List.drop_eq_getElem_cons hl,List.takeWhile_cons,if_neg];rw[hget];simp[Pl.isPart,hc]
       rw[this,if_pos (by simpa using hp)];simp
      | true =>
       rw[if_neg (by simp[hc]),ih (pos+1) (by omega) (by omega)];unfold Pl.tok;rw[tw_step Pl.isPart (bs s) pos hl (by rw[hget];simp[Pl.isPart,hc])]
    have hd:=decode_high s pos hp (by omega);have hn:Pl.partN (Utf8.decode s pos).1=false:=by simp[Pl.partN];omega
    rw[hn,if_pos rfl];have:Pl.tok ((bs s).drop pos)=[]:=by
     unfold Pl.tok;rw[List.drop_eq_getElem_cons hl,List.takeWhile_cons,if_neg];rw[hget];simp[Pl.isPart,Pl.partN];omega
    rw[this,if_pos (by simpa using hp)];simp
  rw[if_neg hp,if_neg (by omega)]
theorem tok_le (l:List UInt8):(Pl.tok l).length≤l.length:=by
 exact (List.takeWhile_sublist Pl.isPart).length_le
theorem trim_part (s:ByteArray) (w:World) :
    Calls Tryz.prog 55 #[.string s,.func (.func 56) #[] #[]] w fun e w'=>e = .returned (.string (s.extract (Pl.tok (bs s)).length s.size))∧Gr w w':=by
 refine (Any.strings_TrimLeftFunc_grows Tryz.lays272 56 #[] (enters_of Tryz.func56 (by kernel_rfl) rfl) Pl.partN s w (part_pays w)).mono ?_;rintro e w' ⟨rfl,hb⟩;refine⟨?_,hb⟩;have h1:=idx_part s s.size 0 (by omega) (by omega);have hl:=tok_le (bs s);rw[bs_length]at hl;unfold Lib.trimLeftF;rw[show Lib.idxFunc Pl.partN false s=Lib.idxFuncFrom Pl.partN false s s.size 0 from rfl,h1];simp only[List.drop_zero,Nat.zero_add];by_cases h2:(Pl.tok (bs s)).length<s.size
 · rw[if_pos h2,if_neg (by omega)];simp
 rw[if_neg h2,if_pos rfl];congr 2;apply ByteArray.ext;simp;omega
end Go.Proofs.YtkplelejagpkmaaGreatDoor
namespace Go.Proofs.YtkplelejagpkmaaGreatDoor
open Go.RowKit Go.Shelf Go.Joins
attribute [local go_sem] Oper.semAt_some
abbrev hexD:ByteArray:=⟨#[48,49,50,51,52,53,54,55,56,57,97,98,99,100,101,102,65,66,67,68,69,70]⟩
abbrev octD:ByteArray:=⟨#[48,49,50,51,52,53,54,55]⟩
abbrev binD:ByteArray:=⟨#[48,49]⟩
abbrev radV (bg:ByteArray) (b:Nat) (ds:ByteArray):Value := .agg #[.string bg,.int .i64 b,.string ds]
set_option maxRecDepth 100000 in
theorem in_of_0 (s:ByteArray) (h0:Pl.pre (bs s) [48,120]=true) (w:World) (hr:RadW w) :
    Calls Tryz.prog 94 #[.string s] w fun e w'=>e = .returned (radV ⟨#[48,120]⟩ 16 hexD)∧Gr w w':=by
 have r0:w.cell? ⟨3,0,none⟩=some (.string ⟨#[48,120]⟩):=hr 0 _ rfl;have r1:w.cell? ⟨3,1,none⟩=some (.int .i64 16):=hr 1 _ rfl;have r2:w.cell? ⟨3,2,none⟩=some (.string hexD):=hr 2 _ rfl;have r3:w.cell? ⟨3,3,none⟩=some (.string ⟨#[48,111]⟩):=hr 3 _ rfl;have r4:w.cell? ⟨3,4,none⟩=some (.int .i64 8):=hr 4 _ rfl;have r5:w.cell? ⟨3,5,none⟩=some (.string octD):=hr 5 _ rfl;have r6:w.cell? ⟨3,6,none⟩=some (.string ⟨#[48,98]⟩):=hr 6 _ rfl;have r7:w.cell? ⟨3,7,none⟩=some (.int .i64 2):=hr 7 _ rfl;have r8:w.cell? ⟨3,8,none⟩=some (.string binD):=hr 8 _ rfl;have hlt:3<w.heap.size:=Lib.lt_of_cell r0;have H0:=Lib.hid h0;have i0:∀W,(Instr.index 189 (.agg radC) (.int .i64 0)).run Tryz.prog W = .ok (radV ⟨#[48,120]⟩ 16 hexD) W:=fun _=>by kernel_rfl
 have i1:∀W,(Instr.index 189 (.agg radC) (.int .i64 1)).run Tryz.prog W = .ok (radV ⟨#[48,111]⟩ 8 octD) W:=fun _=>by kernel_rfl
 have i2:∀W,(Instr.index 189 (.agg radC) (.int .i64 2)).run Tryz.prog W = .ok (radV ⟨#[48,98]⟩ 2 binD) W:=fun _=>by kernel_rfl
 unfold radC at i0 i1 i2;clear hr h0;go_enter Tryz.func94,Tryz.ntmps94;go_wp2_with fail
 go_loopw [6] (fun v wr=>∃k:Nat,v = .int .i64 k∧(k=0)∧Gr (w.alloc (.cells #[.string ⟨#[]⟩,.int .i64 0,.string ⟨#[]⟩] 163)) wr) (fun v _=>3-(intOf v).toNat)
 case atStart=>exact⟨0,rfl,rfl,Gr.refl _⟩
 case round =>
  obtain⟨k,rfl,hk,hg⟩:=hrel;obtain⟨hc,hf,hz⟩:=hg.use;rcases hk with rfl;have p0:wr.cell? ⟨w.heap.size,0,none⟩=some (.string ⟨#[]⟩):=(hc _ _ (by simp)).trans (by simp);have p1:wr.cell? ⟨w.heap.size,1,none⟩=some (.int .i64 0):=(hc _ _ (by simp)).trans (by simp);have p2:wr.cell? ⟨w.heap.size,2,none⟩=some (.string ⟨#[]⟩):=(hc _ _ (by simp)).trans (by simp);have pf:∀o,wr.frozen? ⟨w.heap.size,o,none⟩=false:=fun o=>(hf _ _ (by simp)).trans (by simp[go_sem])
  simp only[World.size_alloc]at hz;have hlw:w.heap.size<wr.heap.size:=by omega
  clear hc hf;go_wp2_with (go_at_call 30;refine (prefix_whole s ⟨#[48,120]⟩ true H0.out _).mono ?_;rintro e w1 ⟨rfl,rfl⟩);have hg2:Gr w wr:=((Gr.refl w).alloc _).trans hg;exact bodyPost_ret (v:=radV ⟨#[48,120]⟩ 16 hexD) (by simp[results,Tryz.results94,go_sem,p0,p1,p2,pf,hlw]) rfl ⟨rfl,by refine Gr.alloc ?_ _;(repeat refine Gr.setCell ?_ (Nat.le_refl _) _);exact hg2⟩
set_option maxRecDepth 100000 in
theorem in_of_1 (s:ByteArray) (h0:Pl.pre (bs s) [48,120]=false) (h1:Pl.pre (bs s) [48,111]=true) (w:World) (hr:RadW w) :
    Calls Tryz.prog 94 #[.string s] w fun e w'=>e = .returned (radV ⟨#[48,111]⟩ 8 octD)∧Gr w w':=by
 have r0:w.cell? ⟨3,0,none⟩=some (.string ⟨#[48,120]⟩):=hr 0 _ rfl;have r1:w.cell? ⟨3,1,none⟩=some (.int .i64 16):=hr 1 _ rfl;have r2:w.cell? ⟨3,2,none⟩=some (.string hexD):=hr 2 _ rfl;have r3:w.cell? ⟨3,3,none⟩=some (.string ⟨#[48,111]⟩):=hr 3 _ rfl;have r4:w.cell? ⟨3,4,none⟩=some (.int .i64 8):=hr 4 _ rfl;have r5:w.cell? ⟨3,5,none⟩=some (.string octD):=hr 5 _ rfl;have r6:w.cell? ⟨3,6,none⟩=some (.string ⟨#[48,98]⟩):=hr 6 _ rfl;have r7:w.cell? ⟨3,7,none⟩=some (.int .i64 2):=hr 7 _ rfl;have r8:w.cell? ⟨3,8,none⟩=some (.string binD):=hr 8 _ rfl;have hlt:3<w.heap.size:=Lib.lt_of_cell r0;have H0:=Lib.hid h0;have H1:=Lib.hid h1;have i0:∀W,(Instr.index 189 (.agg radC) (.int .i64 0)).run Tryz.prog W = .ok (radV ⟨#[48,120]⟩ 16 hexD) W:=fun _=>by kernel_rfl
 have i1:∀W,(Instr.index 189 (.agg radC) (.int .i64 1)).run Tryz.prog W = .ok (radV ⟨#[48,111]⟩ 8 octD) W:=fun _=>by kernel_rfl
 have i2:∀W,(Instr.index 189 (.agg radC) (.int .i64 2)).run Tryz.prog W = .ok (radV ⟨#[48,98]⟩ 2 binD) W:=fun _=>by kernel_rfl
 unfold radC at i0 i1 i2;clear hr h0 h1;go_enter Tryz.func94,Tryz.ntmps94;go_wp2_with fail
 go_loopw [6] (fun v wr=>∃k:Nat,v = .int .i64 k∧(k=0∨k=1)∧Gr (w.alloc (.cells #[.string ⟨#[]⟩,.int .i64 0,.string ⟨#[]⟩] 163)) wr) (fun v _=>3-(intOf v).toNat)
 case atStart=>exact⟨0,rfl,.inl rfl,Gr.refl _⟩
 case round =>
  obtain⟨k,rfl,hk,hg⟩:=hrel;obtain⟨hc,hf,hz⟩:=hg.use;rcases hk with rfl|rfl
  · clear hc hf;go_wp2_with (go_at_call 30;refine (prefix_whole s ⟨#[48,120]⟩ false H0.out _).mono ?_;rintro e w1 ⟨rfl,rfl⟩)
    go_roundw
    case rel=>exact⟨1,rfl,.inr (rfl),hg.alloc _⟩
    case measure=>simp[intOf]
  have p0:wr.cell? ⟨w.heap.size,0,none⟩=some (.string ⟨#[]⟩):=(hc _ _ (by simp)).trans (by simp);have p1:wr.cell? ⟨w.heap.size,1,none⟩=some (.int .i64 0):=(hc _ _ (by simp)).trans (by simp);have p2:wr.cell? ⟨w.heap.size,2,none⟩=some (.string ⟨#[]⟩):=(hc _ _ (by simp)).trans (by simp);have pf:∀o,wr.frozen? ⟨w.heap.size,o,none⟩=false:=fun o=>(hf _ _ (by simp)).trans (by simp[go_sem])
  simp only[World.size_alloc]at hz;have hlw:w.heap.size<wr.heap.size:=by omega
  clear hc hf;go_wp2_with (go_at_call 30;refine (prefix_whole s ⟨#[48,111]⟩ true H1.out _).mono ?_;rintro e w1 ⟨rfl,rfl⟩);have hg2:Gr w wr:=((Gr.refl w).alloc _).trans hg;exact bodyPost_ret (v:=radV ⟨#[48,111]⟩ 8 octD) (by simp[results,Tryz.results94,go_sem,p0,p1,p2,pf,hlw]) rfl ⟨rfl,by refine Gr.alloc ?_ _;(repeat refine Gr.setCell ?_ (Nat.le_refl _) _);exact hg2⟩
set_option maxRecDepth 100000 in
theorem in_of_2 (s:ByteArray) (h0:Pl.pre (bs s) [48,120]=false) (h1:Pl.pre (bs s) [48,111]=false) (h2:Pl.pre (bs s) [48,98]=true) (w:World) (hr:RadW w) :
    Calls Tryz.prog 94 #[.string s] w fun e w'=>e = .returned (radV ⟨#[48,98]⟩ 2 binD)∧Gr w w':=by
 have r0:w.cell? ⟨3,0,none⟩=some (.string ⟨#[48,120]⟩):=hr 0 _ rfl;have r1:w.cell? ⟨3,1,none⟩=some (.int .i64 16):=hr 1 _ rfl;have r2:w.cell? ⟨3,2,none⟩=some (.string hexD):=hr 2 _ rfl;have r3:w.cell? ⟨3,3,none⟩=some (.string ⟨#[48,111]⟩):=hr 3 _ rfl;have r4:w.cell? ⟨3,4,none⟩=some (.int .i64 8):=hr 4 _ rfl;have r5:w.cell? ⟨3,5,none⟩=some (.string octD):=hr 5 _ rfl;have r6:w.cell? ⟨3,6,none⟩=some (.string ⟨#[48,98]⟩):=hr 6 _ rfl;have r7:w.cell? ⟨3,7,none⟩=some (.int .i64 2):=hr 7 _ rfl;have r8:w.cell? ⟨3,8,none⟩=some (.string binD):=hr 8 _ rfl;have hlt:3<w.heap.size:=Lib.lt_of_cell r0;have H0:=Lib.hid h0;have H1:=Lib.hid h1;have H2:=Lib.hid h2;have i0:∀W,(Instr.index 189 (.agg radC) (.int .i64 0)).run Tryz.prog W = .ok (radV ⟨#[48,120]⟩ 16 hexD) W:=fun _=>by kernel_rfl
 have i1:∀W,(Instr.index 189 (.agg radC) (.int .i64 1)).run Tryz.prog W = .ok (radV ⟨#[48,111]⟩ 8 octD) W:=fun _=>by kernel_rfl
 have i2:∀W,(Instr.index 189 (.agg radC) (.int .i64 2)).run Tryz.prog W = .ok (radV ⟨#[48,98]⟩ 2 binD) W:=fun _=>by kernel_rfl
 unfold radC at i0 i1 i2;clear hr h0 h1 h2;go_enter Tryz.func94,Tryz.ntmps94;go_wp2_with fail
 go_loopw [6] (fun v wr=>∃k:Nat,v = .int .i64 k∧(k=0∨k=1∨k=2)∧Gr (w.alloc (.cells #[.string ⟨#[]⟩,.int .i64 0,.string ⟨#[]⟩] 163)) wr) (fun v _=>3-(intOf v).toNat)
 case atStart=>exact⟨0,rfl,.inl rfl,Gr.refl _⟩
 case round =>
  obtain⟨k,rfl,hk,hg⟩:=hrel;obtain⟨hc,hf,hz⟩:=hg.use;rcases hk with rfl|rfl|rfl
  · clear hc hf;go_wp2_with (go_at_call 30;refine (prefix_whole s ⟨#[48,120]⟩ false H0.out _).mono ?_;rintro e w1 ⟨rfl,rfl⟩)
    go_roundw
    case rel=>exact⟨1,rfl,.inr (.inl rfl),hg.alloc _⟩
    case measure=>simp[intOf]
  · clear hc hf;go_wp2_with (go_at_call 30;refine (prefix_whole s ⟨#[48,111]⟩ false H1.out _).mono ?_;rintro e w1 ⟨rfl,rfl⟩)
    go_roundw
    case rel=>exact⟨2,rfl,.inr (.inr (rfl)),hg.alloc _⟩
    case measure=>simp[intOf]
  have p0:wr.cell? ⟨w.heap.size,0,none⟩=some (.string ⟨#[]⟩):=(hc _ _ (by simp)).trans (by simp);have p1:wr.cell? ⟨w.heap.size,1,none⟩=some (.int .i64 0):=(hc _ _ (by simp)).trans (by simp);have p2:wr.cell? ⟨w.heap.size,2,none⟩=some (.string ⟨#[]⟩):=(hc _ _ (by simp)).trans (by simp);have pf:∀o,wr.frozen? ⟨w.heap.size,o,none⟩=false:=fun o=>(hf _ _ (by simp)).trans (by simp[go_sem])
  simp only[World.size_alloc]at hz;have hlw:w.heap.size<wr.heap.size:=by omega
  clear hc hf;go_wp2_with (go_at_call 30;refine (prefix_whole s ⟨#[48,98]⟩ true H2.out _).mono ?_;rintro e w1 ⟨rfl,rfl⟩);have hg2:Gr w wr:=((Gr.refl w).alloc _).trans hg;exact bodyPost_ret (v:=radV ⟨#[48,98]⟩ 2 binD) (by simp[results,Tryz.results94,go_sem,p0,p1,p2,pf,hlw]) rfl ⟨rfl,by refine Gr.alloc ?_ _;(repeat refine Gr.setCell ?_ (Nat.le_refl _) _);exact hg2⟩
def radOfV (l:List UInt8):Value :=
 if Pl.pre l [48,120] then radV ⟨#[48,120]⟩ 16 hexD else if Pl.pre l [48,111] then radV ⟨#[48,111]⟩ 8 octD else if Pl.pre l [48,98] then radV ⟨#[48,98]⟩ 2 binD else tensV
theorem in_of_all (s:ByteArray) (w:World) (hr:RadW w):Calls Tryz.prog 94 #[.string s] w fun e w'=>e = .returned (radOfV (bs s))∧Gr w w':=by
 unfold radOfV;cases h0:Pl.pre (bs s) [48,120] with
 | true=>exact in_of_0 s h0 w hr
 | false =>
  cases h1:Pl.pre (bs s) [48,111] with
  | true=>exact in_of_1 s h0 h1 w hr
  | false =>
   cases h2:Pl.pre (bs s) [48,98] with
   | true=>exact in_of_2 s h0 h1 h2 w hr
   | false=>exact in_of s ⟨h0,h1,h2⟩ w hr
theorem trimS_nil (l cs:List UInt8):Lib.trimS l cs=[] ↔ (l.all fun c=>cs.contains c)=true:=by
 unfold Lib.trimS Lib.trimRightS Lib.trimLeftS;constructor
 · intro h;rw[List.all_eq_true];intro x hx;have h2:∀(m:List UInt8),m.dropWhile (cs.contains ·)=[]→∀x∈m,cs.contains x=true:=by
    intro m
    induction m with
    | nil=>intro _ x hx;cases hx
    | cons a m ih =>
     intro h x hx;rw[List.dropWhile_cons]at h
     split at h
     · rename_i ha
       rcases List.mem_cons.1 hx with rfl|hx
       · exact ha
       exact ih h x hx
     cases h
   first
    | (have h3:=h2 _ h
       by_cases hm:x∈(l.reverse.dropWhile (cs.contains ·)).reverse
       · exact h3 x hm
       have hs:∀(m:List UInt8) (x:UInt8),x∈m→x ∉ m.dropWhile (cs.contains ·)→cs.contains x=true:=by
        intro m
        induction m with
        | nil=>intro x hx;cases hx
        | cons a m ih =>
         intro x hx hn;rw[List.dropWhile_cons]at hn
         split at hn
         · rename_i ha
           rcases List.mem_cons.1 hx with rfl|hx
           · exact ha
           exact ih x hx hn
         exact absurd hx hn
       exact hs l.reverse x (List.mem_reverse.2 hx) (fun e=>hm (List.mem_reverse.2 e)))
    | (have h3:=h2 _ (List.reverse_eq_nil_iff.1 h)
       by_cases hm:x∈l.dropWhile (cs.contains ·)
       · exact h3 x (List.mem_reverse.2 hm)
       have hs:∀(m:List UInt8) (x:UInt8),x∈m→x ∉ m.dropWhile (cs.contains ·)→cs.contains x=true:=by
        intro m
        induction m with
        | nil=>intro x hx;cases hx
        | cons a m ih =>
         intro x hx hn;rw[List.dropWhile_cons]at hn
         split at hn
         · rename_i ha
           rcases List.mem_cons.1 hx with rfl|hx
           · exact ha
           exact ih x hx hn
         exact absurd hx hn
       exact hs l x hx hm)
 intro h;rw[List.all_eq_true]at h;have h2:∀(m:List UInt8),(∀x∈m,cs.contains x=true)→m.dropWhile (cs.contains ·)=[]:=by
  intro m
  induction m with
  | nil=>intro _;rfl
  | cons a m ih =>
   intro hm;rw[List.dropWhile_cons,if_pos (hm a (by simp)),ih (fun x hx=>hm x (List.mem_cons_of_mem _ hx))]
 first
  | rw[h2 l.reverse (fun x hx=>h x (List.mem_reverse.1 hx))];rfl
  | rw[h2 l h];rfl
theorem trim_set (x ds:ByteArray) (hx:x.size≤20000000) (hds:ds.size≤100) (ha:∀(j:Nat) b,ds.data.toList[j]?=some b→b.toNat<128) (b:Bool) (hb:((bs x).all fun c=>(bs ds).contains c)=b) (w:World) :
    Calls Tryz.prog 127 #[.string x,.string ds] w fun e w'=>(∃t:ByteArray,e = .returned (.string t)∧t.toList.isEmpty=b∧(b=true→t.toList=[])∧(b=false→¬t.toList=[]))∧Gr w w':=by
 refine (Any.strings_Trim_laid Tryz.lays160 bool256 x ds w (by omega) (by omega) ha).mono ?_;rintro e w' ⟨rfl,hb'⟩;have h1:=trimS_nil (bs x) (bs ds);have ht:(⟨(Lib.trimS x.data.toList ds.data.toList).toArray⟩:ByteArray).toList=Lib.trimS (bs x) (bs ds):=by rw[Lib.toList_data]
 refine⟨⟨_,rfl,?_,fun h=>?_,fun h=>?_⟩,hb'⟩
 · rw[ht];cases b with
   | true=>rw[h1.2 hb];rfl
   | false =>
    cases hl:Lib.trimS (bs x) (bs ds) with
    | nil=>rw[h1.1 hl]at hb;cases hb
    | cons c l=>rfl
 · rw[ht];exact h1.2 (by rw[hb,h])
 rw[ht];intro e;have:=h1.1 e;rw[hb,h]at this;cases this
def goodP (ds:ByteArray) (p:ByteArray):Prop:=¬p.toList=[]∧((bs p).all fun c=>(bs ds).contains c)=true
theorem goodP_bs (ds p:ByteArray):goodP ds p ↔ (!(bs p).isEmpty && (bs p).all (bs ds).contains)=true:=by
 unfold goodP;rw[Lib.toList_data];simp only[Bool.and_eq_true,Bool.not_eq_true',List.isEmpty_eq_false_iff]
theorem right_all (ds s:ByteArray) {n:Nat} (xs:List (SubB n)) (h:xs.map sbs=Pl.splitB 95 (bs s)):Pl.rightD (bs ds).contains (bs s)=true ↔ ∀p∈xs,goodP ds p.1:=by
 unfold Pl.rightD;rw[←h,List.all_map,List.all_eq_true];exact⟨fun h p hp=>(goodP_bs ds p.1).2 (h p hp),fun h p hp=>(goodP_bs ds p.1).1 (h p hp)⟩
theorem right_bad (ds s:ByteArray) {n:Nat} (pre:List (SubB n)) (suf:List Pl.Bs) (h:pre.map sbs++suf=Pl.splitB 95 (bs s)) (p:SubB n) (hp:p∈pre) (hb:¬goodP ds p.1):Pl.rightD (bs ds).contains (bs s)=false:=by
 unfold Pl.rightD;rw[←h,List.all_append,Bool.and_eq_false_iff];left;rw[Bool.eq_false_iff];intro e;rw[List.all_map,List.all_eq_true]at e;exact hb ((goodP_bs ds p.1).2 (e p hp))
theorem cells_turn {w:World} {C:Nat→Prop} {B:Nat} {W W':World} {row:Option Nat} {b:Nat} {o:Obj} (hb:W.heap[b]?=some o) (hc:¬C b) (hB:b<B) (hg:W.grownBy W' row) (hr:∀r,row=some r→C r∨(B≤r∧∃o:Obj,W.heap[r]?=some o∧o.isCells=false)):W'.heap[b]?=some o :=
 (hg.block b (Array.getElem?_eq_some_iff.1 hb).1 (fun e=>(hr b e.symm).elim hc (fun h=>by omega))).trans hb
theorem below_turn {w:World} {C:Nat→Prop} {B:Nat} (hC:∀r,C r→w.heap.size≤r) (hB:w.heap.size≤B) {W W':World} {row:Option Nat} (h:Below w.heap.size w W) (hg:W.grownBy W' row) (hr:∀r,row=some r→C r∨(B≤r∧∃o:Obj,W.heap[r]?=some o∧o.isCells=false)):Below w.heap.size w W' :=
 h.grown hg h.size (fun k e=>(hr k e).elim (hC k) (fun h=>by omega))
set_option maxRecDepth 100000 in
theorem in_right_all (bg:ByteArray) (bb:Nat) (ds:ByteArray) (hds:ds.size≤100) (ha:∀(j:Nat) b,ds.data.toList[j]?=some b→b.toNat<128) (s:ByteArray) (hs:s.size≤20000000) (w:World) :
    Calls Tryz.prog 96 #[radV bg bb ds,.string s] w fun e w'=>e = .returned (.bool (Pl.rightD (bs ds).contains (bs s)))∧Gr w w':=by
 refine (callsIn_wide (n:=6)).1 ?_;refine callsIn_of_wp_marks Tryz.func96 rfl trivial ?_ rfl;simp only[Tryz.ntmps96,List.size_toArray,List.length_cons,List.length_nil,Nat.reduceAdd,Nat.reduceSub,Array.replicate_succ,Array.replicate_zero,List.push_toArray,List.append_toArray,List.nil_append,List.cons_append]
 gi_wp2_with (refine⟨trivial,?_⟩;gi_at_call 126;refine (callsIn_wide.2 (sp_make s _)).mono ?_;rintro e w' ⟨rfl,rfl⟩)
 obtain⟨W0,hW0⟩:∃W0,((((w.alloc (.cells #[.string bg,.int .i64 bb,.string ds] 163)).alloc (.cells #[.bool false] 4)).alloc (.cells #[.string s] 9)).alloc (.cells #[.string ⟨#[95]⟩] 9)).alloc (.cells #[.int .i64 0] 3)=W0:=⟨_,rfl⟩
 have hsz:W0.heap.size=w.heap.size+1+1+1+1+1:=by rw[←hW0];simp only[World.size_alloc]
 have hG0:Gr w W0:=by rw[←hW0];exact (((((Gr.refl w).alloc _).alloc _).alloc _).alloc _).alloc _
 have b0:W0.heap[w.heap.size]?=some (.cells #[.string bg,.int .i64 bb,.string ds] 163 (0,0)):=by
  rw[←hW0];exact (((((Gr.refl (w.alloc _)).alloc _).alloc _).alloc _).alloc _).block (by simp) |>.trans (heap_alloc_new w _)
 have b1:W0.heap[w.heap.size+1]?=some (.cells #[.bool false] 4 (0,0)):=by
  rw[←hW0];refine ((((Gr.refl ((w.alloc _).alloc _)).alloc _).alloc _).alloc _).block (by simp) |>.trans ?_;have:=heap_alloc_new (w.alloc (.cells #[.string bg,.int .i64 bb,.string ds] 163)) (.cells #[.bool false] 4)
  rwa [World.size_alloc]at this
 have b2:W0.heap[w.heap.size+1+1]?=some (.cells #[.string s] 9 (0,0)):=by
  rw[←hW0];refine (((Gr.refl (((w.alloc _).alloc _).alloc _)).alloc _).alloc _).block (by simp) |>.trans ?_;have:=heap_alloc_new ((w.alloc (.cells #[.string bg,.int .i64 bb,.string ds] 163)).alloc (.cells #[.bool false] 4)) (.cells #[.string s] 9);simp only[World.size_alloc]at this;exact this
 have b3:W0.heap[w.heap.size+1+1+1]?=some (.cells #[.string ⟨#[95]⟩] 9 (0,0)):=by
  rw[←hW0];refine ((Gr.refl ((((w.alloc _).alloc _).alloc _).alloc _)).alloc _).block (by simp) |>.trans ?_;have:=heap_alloc_new (((w.alloc (.cells #[.string bg,.int .i64 bb,.string ds] 163)).alloc (.cells #[.bool false] 4)).alloc (.cells #[.string s] 9)) (.cells #[.string ⟨#[95]⟩] 9);simp only[World.size_alloc]at this;exact this
 have b4:W0.heap[w.heap.size+1+1+1+1]?=some (.cells #[.int .i64 0] 3 (0,0)):=by
  rw[←hW0];have:=heap_alloc_new ((((w.alloc (.cells #[.string bg,.int .i64 bb,.string ds] 163)).alloc (.cells #[.bool false] 4)).alloc (.cells #[.string s] 9)).alloc (.cells #[.string ⟨#[95]⟩] 9)) (.cells #[.int .i64 0] 3);simp only[World.size_alloc]at this;exact this
 rw[hW0];clear hW0;have HDS:=Lib.hid ha;have HB4:=Lib.hid b4;clear ha b4;refine range_own (C:=fun r=>r=w.heap.size+1+1+1∨r=w.heap.size+1+1∨r=w.heap.size+1+1+1+1) (by rintro r (rfl|rfl|rfl) <;> omega) rfl (by omega) (gf:=172) (lb:=#[.pointer (some ⟨w.heap.size+1+1+1,0,none⟩),.pointer (some ⟨w.heap.size+1+1,0,none⟩),.pointer (some ⟨w.heap.size+1+1+1+1,0,none⟩)]) rfl trivial (enters_of Tryz.func172 (by kernel_rfl) rfl)
  (split_seq 5 (by omega) (w.heap.size+1+1+1) (w.heap.size+1+1) (w.heap.size+1+1+1+1) s hs W0 (by omega) (by omega) b3 b2 HB4.out) (fun _=>rfl)
  (fun pre W=>(∀p∈pre,goodP ds p.1)∧W.heap[w.heap.size]?=some (.cells #[.string bg,.int .i64 bb,.string ds] 163 (0,0))∧W.heap[w.heap.size+1]?=some (.cells #[.bool false] 4 (0,0))∧W0.heap.size≤W.heap.size∧Below w.heap.size w W)
  (fun c pre W=>c = .ret∧(∃p∈pre,¬goodP ds p.1)∧W.heap[w.heap.size+1]?=some (.cells #[.bool false] 4 (0,0))∧Below w.heap.size w W)
  (fun pre A B row hs hg hr=>⟨hs.1,cells_turn (w:=w) hs.2.1 (by omega) (by omega) hg hr,cells_turn (w:=w) hs.2.2.1 (by omega) (by omega) hg hr,Nat.le_trans hs.2.2.2.1 hg.size,below_turn (by rintro r (rfl|rfl|rfl) <;> omega) (by omega) hs.2.2.2.2 hg hr⟩)
  (fun c pre A B row hs hg hr=>⟨hs.1,hs.2.1,cells_turn (w:=w) hs.2.2.1 (by omega) (by omega) hg hr,below_turn (by rintro r (rfl|rfl|rfl) <;> omega) (by omega) hs.2.2.2 hg hr⟩)
  ⟨fun p hp=>(by cases hp),b0,b1,Nat.le_refl _,hG0⟩
  (fun x:SubB s.size=>{ tmps:=#[radV bg bb ds,.string s,.pointer (some ⟨w.heap.size,0,none⟩),undef,.pointer (some ⟨w.heap.size+1,0,none⟩),.string x.1,.string s,.func (.func 172) #[] #[.pointer (some ⟨w.heap.size+1+1+1,0,none⟩),.pointer (some ⟨w.heap.size+1+1,0,none⟩),.pointer (some ⟨w.heap.size+1+1+1+1,0,none⟩)],.string x.1,undef,undef,undef,undef,undef,undef,undef,undef,undef],defers:=[] }) ?assign ?body ?done ?stop
 case assign =>
  intro l x W K hK
  gi_wp2
  exact hK
 case body =>
  rintro l pre ⟨x,hxs⟩ W ⟨hgood,hb0,hb1,hsW,hB⟩ hlen;dsimp only;have kd:W.cell? ⟨w.heap.size,2,none⟩=some (.string ds):=by rw[cell_of_block hb0];rfl
  have kr:W.cell? ⟨w.heap.size+1,0,none⟩=some (.bool false):=by rw[cell_of_block hb1];rfl
  have kf:W.frozen? ⟨w.heap.size+1,0,none⟩=false:=unfrozen_of_block hb1 0;by_cases hx:x.toList=[]
  · have hbad:¬goodP ds x:=fun h=>h.1 hx
    have HB:=Lib.hid hbad;obtain rfl:x=⟨#[]⟩:=by
     apply ByteArray.ext;apply Array.toList_inj.1;rw[←Lib.toList_data];exact hx
    clear hbad hx
    gi_wp2_with fail
    refine⟨trivial,?_⟩
    gi_wp2_with fail
    refine⟨KeepsOthers.setCell _ _ _,rfl,⟨(⟨⟨#[]⟩,hxs⟩:SubB s.size),by simp,HB.out⟩,?_,hB.setCell (p:=⟨w.heap.size+1,0,none⟩) (by simp) _⟩;have:=block_setCell (i:=0) hb1 (.bool false)
    simpa using this
  have he:x.toList.isEmpty=false:=by simpa using hx
  have hxz:x.size≤20000000:=by omega
  obtain⟨b,hb⟩:∃b,((bs x).all fun c=>(bs ds).contains c)=b:=⟨_,rfl⟩
  have HT:=Lib.hid (trim_set x ds hxz hds HDS.out b hb);have HX:=Lib.hid hx;have HBB:=Lib.hid hb;clear hb hx;cases b with
  | true =>
   have hgx:goodP ds x:=⟨HX.out,HBB.out⟩
   have HG:Hid (∀p∈pre++[(⟨x,hxs⟩:SubB s.size)],goodP ds p.1):=fun p hp=>by
    rcases List.mem_append.1 hp with hp|hp
    · exact hgood p hp
    rw[List.mem_singleton]at hp;rw[hp];exact hgx
   clear hgx hgood
   gi_wp2_with (refine⟨trivial,?_⟩;gi_at_call 127;refine (CallsIn.inRound l (callsIn_wide.2 (HT.out _))).mono ?_;rintro e w1 ⟨⟨t,rfl,t1,t2,t3⟩,g1⟩;have t4:=t2 rfl;clear t2 t3)
   refine⟨KeepsOthers.of_gr g1,fun r hr=>g1.block (by rcases hr with rfl|rfl|rfl <;> omega),HG.out,(g1.block (by omega)).trans hb0,(g1.block (by omega)).trans hb1,Nat.le_trans hsW g1.size,hB.trans (Below.mono g1 hB.size)⟩
  | false =>
   have HB:Hid (¬goodP ds x):=fun h=>by have:=h.2;rw[HBB.out]at this;cases this
   clear hgood
   gi_wp2_with (refine⟨trivial,?_⟩;gi_at_call 127;refine (CallsIn.inRound l (callsIn_wide.2 (HT.out _))).mono ?_;rintro e w1 ⟨⟨t,rfl,t1,t2,t3⟩,g1⟩;have t4:=t3 rfl;clear t2 t3;have kr1:w1.cell? ⟨w.heap.size+1,0,none⟩=some (.bool false):=(g1.use.1 _ _ (by omega)).trans kr;have kf1:w1.frozen? ⟨w.heap.size+1,0,none⟩=false:=(g1.use.2.1 _ _ (by omega)).trans kf)
   refine⟨(KeepsOthers.of_gr g1).trans (KeepsOthers.setCell _ _ _),rfl,⟨(⟨x,hxs⟩:SubB s.size),by simp,HB.out⟩,?_,(hB.trans (Below.mono g1 hB.size)).setCell (p:=⟨w.heap.size+1,0,none⟩) (by simp) _⟩;have:=block_setCell (i:=0) ((g1.block (by omega)).trans hb1) (.bool false)
   simpa using this
 case done =>
  rintro D ys W hD hys ⟨hgood,hb0,hb1,hsW,hB⟩ hK;have hval:Pl.rightD (bs ds).contains (bs s)=true:=(right_all ds s ys hys).2 hgood;have kr:W.cell? ⟨w.heap.size+1,0,none⟩=some (.bool false):=by rw[cell_of_block hb1];rfl
  have kf:W.frozen? ⟨w.heap.size+1,0,none⟩=false:=unfrozen_of_block hb1 0;have HV:=Lib.hid hval;clear hgood hval hys
  gi_wp2
  have hK':=(KeepsOthers.setCell W ⟨w.heap.size+1,0,none⟩ (.bool true)).same D _ hK rfl;refine⟨by simp,.inl ⟨_,_,rfl,run_takeDeferred hK',?_⟩⟩;have hc5:=cell_kept (World.cell?_setCell_same' W ⟨w.heap.size+1,0,none⟩ (.bool true) (by rw[kr];rfl)) (grownBy_putObj' _ D (.deferred none)) (fun r e=>by cases e;exact⟨_,hK',rfl⟩);refine⟨.bool true,?_,by rw[HV.out],(hB.setCell (p:=⟨w.heap.size+1,0,none⟩) (by simp) _).trans (belowK_b (w:=w) (Nat.le_refl _) _ D _ _ (by omega) hK' rfl rfl)⟩;simp[results,Tryz.f96,go_sem,hc5]
 case stop =>
  rintro D c pre W hD ⟨suf,hsuf⟩ ⟨rfl,⟨p,hp,hbad⟩,hb1,hB⟩ hK;have hval:Pl.rightD (bs ds).contains (bs s)=false:=right_bad ds s pre suf hsuf p hp hbad;have kr:W.cell? ⟨w.heap.size+1,0,none⟩=some (.bool false):=by rw[cell_of_block hb1];rfl
  have HV:=Lib.hid hval;clear hbad hval hsuf hp
  gi_wp2
  refine⟨by simp,.inl ⟨_,_,rfl,run_takeDeferred hK,?_⟩⟩;have hc5:=cell_kept kr (grownBy_putObj' _ D (.deferred none)) (fun r e=>by cases e;exact⟨_,hK,rfl⟩);refine⟨.bool false,?_,by rw[HV.out],hB.trans (belowK_b (w:=w) (Nat.le_refl _) W D _ _ (by omega) hK rfl rfl)⟩;simp[results,Tryz.f96,go_sem,hc5]
end Go.Proofs.YtkplelejagpkmaaGreatDoor
namespace Go.Proofs.YtkplelejagpkmaaGreatDoor
open Go.RowKit
def ParsePost (ep:Addr) (w:World) (Y:Lib.NumEnd Int) (e:Ending) (w':World):Prop:=match Y with
 | .ok v=>e = .returned (.tuple #[.int .i64 v,.nilIface])∧Gr w w'
 | .range=>(∃(k:Int) (N:Nat),e = .returned (.tuple #[.int .i64 k,.iface 217 (.pointer (some ⟨N,0,none⟩))])∧w'.cell? ⟨N,2,none⟩=some (.iface 258 (.pointer (some ep))))∧Gr w w'
 | Lib.NumEnd.syntax=>True
def clampI (Y:Lib.NumEnd Nat):Lib.NumEnd Int:=match Y with
 | .ok v=>if v<9223372036854775808 then .ok (v:Int) else .range
 | .range => .range
 | Lib.NumEnd.syntax=>Lib.NumEnd.syntax
def PinPost (Y:Lib.NumEnd Int) (e:Ending):Prop:=match Y with
 | .ok v=>e = .returned (.tuple #[.int .i64 v,.nilIface])
 | .range=>e = .returned (.tuple #[.int .i64 9223372036854775807,.iface 214 (.int .i64 1)])
 | Lib.NumEnd.syntax=>True
set_option maxRecDepth 100000 in
theorem pin_of (t:ByteArray) (base:Int) (h0:0<t.size) (hs:(t[0]'h0).toNat≠43∧(t[0]'h0).toNat≠45) (Y:Lib.NumEnd Nat) (hle:∀v,Y = .ok v→v≤18446744073709551615) (hne:Y≠Lib.NumEnd.syntax)
    (hU:∀w,Calls Tryz.prog 152 #[.string t,.int .i64 base,.int .i64 64] w fun e w'=>e = .returned (Lib.uintTupleM 214 18446744073709551615 Y)∧w'=Lib.bytesWorld w 5 t) (w:World) :
    Calls Tryz.prog 128 #[.string t,.int .i64 base,.int .i64 64] w fun e w'=>PinPost (clampI Y) e∧Gr w w':=by
 have hemp:t.toList.isEmpty=false:=by
  rw[←decide_eq_emptyBytes];exact decide_eq_false (fun h=>by rw[h]at h0;exact absurd h0 (by decide))
 have hpos:(0:Int)<(t.size:Int):=by omega
 obtain⟨x1,x2⟩:=beqs (t[0]'h0).toNat 43 false (by simpa using hs.1);obtain⟨y1,y2⟩:=beqs (t[0]'h0).toNat 45 false (by simpa using hs.2);have hq1:∀W,(Go.binOp .neq 89 (.iface 214 (.int .i64 1)) (.iface 214 (.int .i64 1))).run Tryz.prog W = .ok (.bool false) W:=fun W=>by kernel_rfl
 have hgr:=gr_bytesWorld w 5 t;have hU:=hU w;obtain⟨W1,hW1⟩:∃W1,W1=Lib.bytesWorld w 5 t:=⟨_,rfl⟩
 rw[←hW1]at hU hgr;clear hW1 hs;cases Y with
 | range =>
  have hU:Calls Tryz.prog 152 #[.string t,.int .i64 base,.int .i64 64] w fun e w'=>e = .returned (.tuple #[.int .u64 18446744073709551615,.iface 214 (.int .i64 1)])∧w'=W1:=hU
  clear hle hne;go_enter Tryz.func128,Tryz.ntmps128;go_wp2_with (refine hU.mono ?_;rintro e w1 ⟨rfl,rfl⟩)
  go_wp2
  go_ret2
  exact⟨rfl,hgr⟩
 | ok v =>
  have hv:=hle v rfl;have hU:Calls Tryz.prog 152 #[.string t,.int .i64 base,.int .i64 64] w fun e w'=>e = .returned (.tuple #[.int .u64 (v:Int),.nilIface])∧w'=W1:=hU
  obtain⟨a,ha⟩:∃a:Int,a=(v:Int):=⟨_,rfl⟩
  rw[←ha]at hU;have a0:0≤a:=by omega
  have a1:a≤18446744073709551615:=by omega
  clear hle hne;by_cases hout:v<9223372036854775808
  · have HI:Hid (v<9223372036854775808):=hout;have HA:Hid (a=(v:Int)):=ha;have iin:a<9223372036854775808:=by omega
    clear hout hv ha;go_enter Tryz.func128,Tryz.ntmps128;go_wp2_with (refine hU.mono ?_;rintro e w1 ⟨rfl,rfl⟩)
    go_wp2
    go_ret2
    exact⟨by unfold clampI;simp only;rw[if_pos HI.out];unfold PinPost;simp only;rw[HA.out];rfl,hgr⟩
  have HI:Hid (¬v<9223372036854775808):=hout;have iout:9223372036854775808≤a:=by omega
  clear hout hv ha;go_enter Tryz.func128,Tryz.ntmps128;go_wp2_with (refine hU.mono ?_;rintro e w1 ⟨rfl,rfl⟩)
  go_wp2
  go_ret2
  exact⟨by unfold clampI;simp only;rw[if_neg HI.out];rfl,hgr⟩
 | _=>exact absurd rfl hne
theorem spin_of (t:ByteArray) (base:Int) (h0:0<t.size) (hz:t.size≤20000000) (hs:(t[0]'h0).toNat≠43∧(t[0]'h0).toNat≠45) (Y:Lib.NumEnd Nat) (hle:∀v,Y = .ok v→v≤18446744073709551615) (hne:Y≠Lib.NumEnd.syntax)
    (hU:∀w,Calls Tryz.prog 152 #[.string t,.int .i64 base,.int .i64 64] w fun e w'=>e = .returned (Lib.uintTupleM 214 18446744073709551615 Y)∧w'=Lib.bytesWorld w 5 t) (w:World) (ep:Addr) (hw:w.cell? ⟨2,0,none⟩=some (.iface 258 (.pointer (some ep)))) :
    Calls Tryz.prog 97 #[.string t,.int .i64 base,.int .i64 64] w (ParsePost ep w (clampI Y)):=by
 have hI:=pin_of t base h0 hs Y hle hne hU w;have bad:Calls Tryz.prog 128 #[.string t,.int .i64 base,.int .i64 64] w (fun e w'=>e = .returned (.tuple #[.int .i64 9223372036854775807,.iface 214 (.int .i64 1)])∧Gr w w') →
     Calls Tryz.prog 97 #[.string t,.int .i64 base,.int .i64 64] w (ParsePost ep w .range):=by
  intro hJ;have HW:=Lib.hid hw;clear hw hI hU;go_enter Tryz.func97,Tryz.ntmps97;go_wp2_with fail;refine hJ.mono ?_;rintro e w1 ⟨rfl,g1⟩;go_wp2_with fail;refine (Tryz.strconv_toError_range ⟨#[80,97,114,115,101,73,110,116]⟩ t base 64 _ w1 (by omega) ((g1.use.1 _ _ (Lib.lt_of_cell HW.out)).trans HW.out) (.inr ⟨_,_,rfl⟩)).mono ?_;rintro e w2 ⟨N,rfl,hN,hb,g2⟩;go_wp2_with fail
  go_ret2
  exact⟨⟨_,N,rfl,by rw[Joins.cell_of_block hb];rfl⟩,g1.trans g2⟩
 cases Y with
 | range=>exact bad hI
 | ok v =>
  unfold clampI at hI ⊢;by_cases hv:v<9223372036854775808
  · simp only[if_pos hv]at hI ⊢;clear hw hU bad;go_enter Tryz.func97,Tryz.ntmps97;go_wp2_with fail;refine hI.mono ?_;rintro e w1 ⟨rfl,g1⟩;go_wp2_with fail
    go_ret2
    exact⟨rfl,g1⟩
  simp only[if_neg hv]at hI ⊢;exact bad hI
 | _=>exact absurd rfl hne
theorem intVal_clamp (b:Nat) (l:List UInt8) (h:b≠10):Pl.intVal b l=clampI (Pl.puM b 18446744073709551615 0 l):=by
 unfold Pl.intVal clampI;rw[if_neg h];cases Pl.puM b 18446744073709551615 0 l <;> rfl
namespace Pl
theorem puM_le (B M:Nat) (l:Bs):∀acc v,acc≤M→puM B M acc l = .ok v→v≤M:=by
 induction l with
 | nil=>intro acc v h hv;simp only[puM,Lib.NumEnd.ok.injEq]at hv;omega
 | cons c l ih =>
  intro acc v h hv;unfold puM at hv
  split at hv
  · split at hv
    · cases hv
    exact ih _ _ (by omega) hv
  cases hv
theorem puM_digits (B M:Nat) (l:Bs):∀acc,(∀c∈l,digV c.toNat<B)→puM B M acc l≠Lib.NumEnd.syntax:=by
 induction l with
 | nil=>intro acc _ h;simp[puM]at h
 | cons c l ih =>
  intro acc hd;unfold puM;rw[if_pos (hd c (by simp))]
  split
  · simp
  exact ih _ (fun x hx=>hd x (List.mem_cons_of_mem _ hx))
end Pl
theorem parse_any (b:Nat) (t:ByteArray) (hz:t.size≤20000000) (h:(b=10∧Lib.parseIntB 64 (bs t)≠Lib.NumEnd.syntax)∨((b=16∨b=8∨b=2)∧0<t.size∧∀c∈bs t,Pl.digV c.toNat<b)) (w:World) (ep:Addr) (hw:w.cell? ⟨2,0,none⟩=some (.iface 258 (.pointer (some ep)))) :
    Calls Tryz.prog 97 #[.string t,.int .i64 b,.int .i64 64] w (ParsePost ep w (Pl.intVal b (bs t))):=by
 rcases h with⟨rfl,hne⟩|⟨hb,h0,hd⟩
 · unfold Pl.intVal;rw[if_pos rfl];cases hp:Lib.parseIntB 64 (bs t) with
   | ok v=>exact parse_ok t hz v hp w
   | range =>
    refine (Tryz.strconv_ParseInt_10_at64_range t (by omega) hp _ w hw (.inr ⟨_,_,rfl⟩)).mono ?_;rintro e w' ⟨N,rfl,hN,hb,g⟩;exact⟨⟨_,N,rfl,by rw[Joins.cell_of_block hb];rfl⟩,g⟩
   | _=>exact absurd hp hne
 have hs:(t[0]'h0).toNat≠43∧(t[0]'h0).toNat≠45:=by
  have h2:=hd (t[0]'h0) (by have:=idx_bs t 0 h0;simp only[List.drop_zero]at this;rw[this];simp);unfold Pl.digV at h2;constructor
  · intro e;rw[e]at h2;simp at h2;omega
  intro e;rw[e]at h2;simp at h2;omega
 have hb10:b≠10:=by omega
 rw[intVal_clamp b _ hb10];rcases hb with rfl|rfl|rfl
 · exact spin_of t 16 h0 hz hs _ (fun v hv=>Pl.puM_le _ _ _ 0 v (by omega) hv) (Pl.puM_digits _ _ _ 0 hd) (fun w=>pu_16_64 t (by omega) (by omega) w) w ep hw
 · exact spin_of t 8 h0 hz hs _ (fun v hv=>Pl.puM_le _ _ _ 0 v (by omega) hv) (Pl.puM_digits _ _ _ 0 hd) (fun w=>pu_8_64 t (by omega) (by omega) w) w ep hw
 exact spin_of t 2 h0 hz hs _ (fun v hv=>Pl.puM_le _ _ _ 0 v (by omega) hv) (Pl.puM_digits _ _ _ 0 hd) (fun w=>pu_2_64 t (by omega) (by omega) w) w ep hw
end Go.Proofs.YtkplelejagpkmaaGreatDoor
