/-
 The walks and plain laws that the claim rests on, part 14.
-/
import Derived.Test.YtkplelejagpkmaaGreatDoorP04
import Derived.Test.YtkplelejagpkmaaGreatDoorP07
import Derived.Test.YtkplelejagpkmaaGreatDoorP11
import Derived.Test.YtkplelejagpkmaaGreatDoorP35
import Derived.Test.YtkplelejagpkmaaGreatDoorP39
import Derived.Test.YtkplelejagpkmaaGreatDoorP47
import Derived.Lib.SmallJoins
import Derived.Laws.AppendOwnNone
import Derived.Maps.AppendAt
import Derived.Deep.OwnRows
set_option maxHeartbeats 16000000
set_option linter.all false
set_option linter.unusedVariables false
set_option linter.unusedSimpArgs false
namespace Go.Proofs.YtkplelejagpkmaaGreatDoor
open Go.RowKit Go.Joins
theorem tk_bare0 (c:UInt8) (w:World) :
    Calls Tryz.prog 45 #[.int .u8 c.toNat] w fun e w'=>e = .returned (.bool (Pl.isBare c))∧w=w':=by
 go_enter Tryz.func45,Tryz.ntmps45
 go_wp2
 all_goals go_ret
 all_goals (refine⟨ret_bool ?_,rfl⟩;rw[Bool.eq_iff_iff];simp[Pl.isBare];try omega)
theorem tk_bare1 (x:Nat) (hx:x≤1114111) (w:World) :
    Calls Tryz.prog 44 #[.int .i32 x] w fun e w'=>e = .returned (.bool (Pl.nbare x))∧w=w':=by
 by_cases h:128≤x
 · have h1:decide ((128:Int)≤(x:Int))=true:=by simp;omega
   have h2:Pl.nbare x=true:=by unfold Pl.nbare;simp[h]
   rw[h2];go_enter Tryz.func44,Tryz.ntmps44;go_wp2_with fail;exact bodyPost_ret (v := .bool true) (by simp[results,Tryz.results44,go_sem]) rfl ⟨rfl,rfl⟩
 have h1:decide ((128:Int)≤(x:Int))=false:=by simp;omega
 obtain⟨c,rfl⟩:∃c:UInt8,c.toNat=x:=⟨UInt8.ofNat x,by simp[UInt8.toNat_ofNat'];omega⟩
 have hw:IntKind.u8.wrap (c.toNat:Int)=(c.toNat:Int):=by have:=c.toNat_lt;simp[IntKind.wrap,IntKind.bits,IntKind.signed];omega
 have H:=Lib.hid (fun W=>tk_bare0 c W);rw[Pl.isBare_nbare];generalize Pl.isBare c=b at H;go_enter Tryz.func44,Tryz.ntmps44;go_wp2_with fail;refine (H.out _).mono ?_;rintro e w1 ⟨rfl,rfl⟩;cases b
 · go_wp2_with fail;exact bodyPost_ret (v := .bool true) (by simp[results,Tryz.results44,go_sem]) rfl ⟨rfl,rfl⟩
 go_wp2_with fail;exact bodyPost_ret (v := .bool false) (by simp[results,Tryz.results44,go_sem]) rfl ⟨rfl,rfl⟩
theorem bare1_pays (w:World):PredAtRunes Tryz.prog 44 #[] Pl.nbare w:=by
 intro W x hx _;unfold FnGives;refine (tk_bare1 x hx W).mono ?_;rintro e w' ⟨rfl,rfl⟩;exact⟨rfl,0,rfl⟩
theorem idx_bare (s:ByteArray):∀f pos,pos≤s.size→s.size-pos≤f →
    Lib.idxFuncFrom Pl.nbare true s f pos=if pos+(((bs s).drop pos).takeWhile Pl.isBare).length<s.size then ((pos+(((bs s).drop pos).takeWhile Pl.isBare).length:Nat):Int) else -1:=by
 intro f
 induction f with
 | zero =>
  intro pos h1 h2;have:¬pos<s.size:=by omega
  rw[Lib.idxFuncFrom,if_neg (by omega)]
 | succ f ih =>
  intro pos h1 h2;rw[Lib.idxFuncFrom];by_cases hp:pos<s.size
  · rw[if_pos hp];have hl:pos<(bs s).length:=by rw[bs_length];exact hp
    have hget:(bs s)[pos]'hl=s[pos]'hp:=rfl;have hno:Pl.isBare (s[pos]'hp)=false→(((bs s).drop pos).takeWhile Pl.isBare)=[]:=fun hb=>by
     rw[List.drop_eq_getElem_cons hl,List.takeWhile_cons,if_neg];rw[hget,hb];simp
    by_cases hlow:(s[pos]'hp).toNat<128
    · rw[decode_low s pos hp hlow];have hq:=Pl.isBare_nbare (s[pos]'hp);cases hb:Pl.isBare (s[pos]'hp) with
      | false =>
       rw[hb]at hq;rw[if_pos (by rw[hq];rfl),hno hb,if_pos (by simpa using hp)];simp
      | true =>
       rw[hb]at hq;rw[if_neg (by rw[hq];simp),ih (pos+1) (by omega) (by omega),tw_step Pl.isBare (bs s) pos hl (by rw[hget];exact hb)]
    have hd:=decode_high s pos hp (by omega);have hb:Pl.isBare (s[pos]'hp)=false:=by
     rw[show Pl.isBare (s[pos]'hp)=Pl.bareN (s[pos]'hp).toNat from rfl];unfold Pl.bareN;simp;omega
    rw[if_pos (by unfold Pl.nbare;simp;omega),hno hb,if_pos (by simpa using hp)];simp
  rw[if_neg hp,if_neg (by omega)]
theorem takeWhile_all (p:UInt8→Bool) (l:List UInt8):l.all p=decide (¬(l.takeWhile p).length<l.length):=by
 induction l with
 | nil=>rfl
 | cons a l ih =>
  rw[List.all_cons,List.takeWhile_cons];cases p a <;> simp[ih]
theorem idx_bare_sign (s:ByteArray):∃k:Int,Lib.idxFunc Pl.nbare true s=k∧decide (k<0)=(bs s).all Pl.isBare:=by
 refine⟨_,rfl,?_⟩;unfold Lib.idxFunc;rw[idx_bare s s.size 0 (by omega) (by omega),takeWhile_all,bs_length];simp only[List.drop_zero,Nat.zero_add]
 split <;> simp_all <;> omega
theorem tk_Bare (s:ByteArray) (w:World):Calls Tryz.prog 25 #[.string s] w fun e w'=>e = .returned (.bool (Pl.bareW (bs s)))∧Gr w w':=by
 obtain⟨k,hk,hd⟩:=idx_bare_sign s;have H:Hid (∀W,Calls Tryz.prog 43 #[.string s,.func (.func 44) #[] #[]] W fun e w'=>e = .returned (.int .i64 k)∧Gr W w'):=Lib.hid fun W=>by
  refine (Tryz.strings_IndexFunc_runes 44 #[] (enters_of Tryz.func44 (by kernel_rfl) rfl) Pl.nbare s W (bare1_pays W)).mono ?_;rintro e w' ⟨rfl,hb⟩;exact⟨ret_int hk,hb⟩
 have hempty:(bs s).isEmpty=s.toList.isEmpty:=by
  have:s.toList=bs s:=Lib.toList_data s;rw[this]
 unfold Pl.bareW;rw[hempty];generalize (bs s).all Pl.isBare=v at hd ⊢;clear hempty hk;cases hz:s.toList.isEmpty with
 | true =>
  go_enter Tryz.func25,Tryz.ntmps25;go_wp2_with fail;exact bodyPost_ret (v := .bool false) (by simp[results,Tryz.results25,go_sem]) rfl ⟨rfl,Gr.refl _⟩
 | false =>
  go_enter Tryz.func25,Tryz.ntmps25;go_wp2_with fail;refine (H.out _).mono ?_;rintro e w1 ⟨rfl,g1⟩;go_wp2_with fail;exact bodyPost_ret (v := .bool v) (by simp[results,Tryz.results25,go_sem]) rfl ⟨rfl,g1⟩
end Go.Proofs.YtkplelejagpkmaaGreatDoor
namespace Go.Proofs.YtkplelejagpkmaaGreatDoor
open Go.RowKit Go.Shelf Go.Joins
def wz (z:ByteArray):ByteArray:=⟨(Pl.wrW (bs z)).toArray⟩
theorem bs_wz (z:ByteArray):bs (wz z)=Pl.wrW (bs z):=by simp[bs,wz]
theorem eq_of_bs {t:ByteArray} {l:List UInt8} (h:bs t=l):t=⟨l.toArray⟩:=by
 subst h;simp[bs]
theorem wz_bare {z:ByteArray} (h:Pl.bareW (bs z)=true):wz z=z:=by
 unfold wz Pl.wrW;rw[if_pos h]
structure WrR (wr:World) (g cap i:Nat) (zs:List ByteArray):Prop where
 at':∃cur:Array Value,wr.heap[g]?=some (.cells cur 9 (0,0))∧cur.size=cap∧∀(j:Nat) z,zs[j]?=some z→cur[j]?=some (.string (if j<i then wz z else z))
theorem WrR.cell {wr:World} {g cap i:Nat} {zs:List ByteArray} (h:WrR wr g cap i zs) (j:Nat) (z:ByteArray) (hz:zs[j]?=some z):wr.cell? ⟨g,j,none⟩=some (.string (if j<i then wz z else z)):=by
 obtain⟨cur,h1,h2,h3⟩:=h.at';rw[cell_of_block h1]
 simpa using h3 j z hz
theorem WrR.free {wr:World} {g cap i:Nat} {zs:List ByteArray} (h:WrR wr g cap i zs) (j:Nat):wr.frozen? ⟨g,j,none⟩=false:=by
 obtain⟨cur,h1,_⟩:=h.at';exact unfrozen_of_block h1 j
theorem WrR.lt {wr:World} {g cap i:Nat} {zs:List ByteArray} (h:WrR wr g cap i zs):g<wr.heap.size:=by
 obtain⟨cur,h1,_⟩:=h.at';exact (Array.getElem?_eq_some_iff.1 h1).1
theorem WrR.gr {wr w':World} {g cap i:Nat} {zs:List ByteArray} (h:WrR wr g cap i zs) (q:Gr wr w'):WrR w' g cap i zs:=by
 obtain⟨cur,h1,h2,h3⟩:=h.at';exact⟨⟨cur,(q.block (Array.getElem?_eq_some_iff.1 h1).1).trans h1,h2,h3⟩⟩
theorem WrR.bare {wr:World} {g cap i:Nat} {zs:List ByteArray} (h:WrR wr g cap i zs) {z:ByteArray} (hz:zs[i]?=some z) (hb:wz z=z):WrR wr g cap (i+1) zs:=by
 obtain⟨cur,h1,h2,h3⟩:=h.at';refine⟨⟨cur,h1,h2,fun j y hy=>?_⟩⟩;rw[h3 j y hy];by_cases hji:j=i
 · subst hji;rw[hz]at hy;cases hy;rw[if_neg (Nat.lt_irrefl _),if_pos (by omega),hb]
 by_cases hj:j<i
 · rw[if_pos hj,if_pos (by omega)]
 rw[if_neg hj,if_neg (by omega)]
theorem WrR.set {wr:World} {g cap i:Nat} {zs:List ByteArray} (h:WrR wr g cap i zs) {z:ByteArray} (hz:zs[i]?=some z):WrR (wr.setCell ⟨g,i,none⟩ (.string (wz z))) g cap (i+1) zs:=by
 obtain⟨cur,h1,h2,h3⟩:=h.at';have hil:i<cur.size:=(Array.getElem?_eq_some_iff.1 (h3 i z hz)).1;refine⟨⟨cur.setIfInBounds i (.string (wz z)),by rw[block_setCell h1],by simpa using h2,fun j y hy=>?_⟩⟩;rw[Array.getElem?_setIfInBounds];by_cases hji:i=j
 · subst hji;rw[hz]at hy;cases hy;rw[if_pos rfl,if_pos hil,if_pos (by omega)]
 rw[if_neg hji,h3 j y hy];by_cases hj:j<i
 · rw[if_pos hj,if_pos (by omega)]
 rw[if_neg hj,if_neg (by omega)]
theorem wrS_len (l:List UInt8):(Pl.wrS l).length≤6*l.length+2:=by
 unfold Pl.wrS;have:∀l:List UInt8,(l.flatMap Pl.wrB).length≤6*l.length:=by
  intro l
  induction l with
  | nil=>simp
  | cons a l ih =>
   rw[List.flatMap_cons,List.length_append,List.length_cons];have:(Pl.wrB a).length≤6:=by
    unfold Pl.wrB;repeat' split
    all_goals simp
   omega
 have:=this l;rw[List.length_cons,List.length_append,List.length_singleton];omega
theorem wrW_len (l:List UInt8):(Pl.wrW l).length≤6*l.length+2:=by
 unfold Pl.wrW
 split
 · omega
 exact wrS_len l
theorem join_len (xs:List (List UInt8)) (sep:List UInt8) (k:Nat) (h:∀x∈xs,x.length≤k):(Lib.join xs sep).length≤xs.length*(k+sep.length):=by
 induction xs with
 | nil=>simp[Lib.join_nil]
 | cons x xs ih =>
  cases xs with
  | nil=>rw[Lib.join_one];have:=h x (by simp);simp;omega
  | cons y ys =>
   have h1:=ih (fun z hz=>h z (List.mem_cons_of_mem _ hz));have h2:=h x (List.mem_cons_self ..);have:Lib.join (x::y::ys) sep=x++(sep++Lib.join (y::ys) sep):=by simp[Lib.join,List.intercalate]
   rw[this,List.length_append,List.length_append,List.length_cons (a:=x),Nat.add_mul,Nat.one_mul];omega
set_option maxRecDepth 100000 in
theorem tk_Write (b off c:Nat) (zs:List ByteArray) (w:World) (hT:ShW Pl.tab0 w) (h0:0<zs.length) (hn:zs.length≤1000) (hsz:∀z∈zs,z.size≤1100000) (hc:∀(j:Nat) z,zs[j]?=some z→w.cell? ⟨b,off+j,none⟩=some (.string z)) :
    Calls Tryz.prog 10 #[.slice (some ⟨b,off,none⟩) zs.length c] w fun e w'=>e = .returned (.string ⟨(Lib.join ((zs.map wz).map (·.data.toList)) [46]).toArray⟩)∧Gr w w':=by
 have HC:=Lib.hid (Tryz.slices_Clone_string b off zs.length c zs w (Nat.le_refl _) (by omega) (fun j hj=>by
  rw[hc j zs[j] (List.getElem?_eq_getElem hj)];simp[List.getD,List.getElem?_eq_getElem hj]))
 have HT:=Lib.hid hT;have HS:=Lib.hid hsz;obtain⟨n,hnz⟩:∃n,zs.length=n:=⟨_,rfl⟩
 rw[hnz]at HC h0 hn ⊢;have HN:=Lib.hid hnz;clear hT hsz hc hnz;go_enter Tryz.func10,Tryz.ntmps10;go_wp2_with fail;refine HC.out.mono ?_;rintro e w1 ⟨v',rfl,hrow,_,g1⟩;rcases own_form hrow with⟨_,h⟩|⟨g,cap,rfl,hcap,hcapm⟩
 · omega
 have hR0:WrR w1 g cap 0 zs:=by
  rcases hrow.2 with⟨h1,_⟩|⟨g',cap',cur,h1,h2,h3,h4,h5,h6,h7⟩
  · cases h1
  simp only[Value.slice.injEq,Option.some.injEq,Addr.mk.injEq]at h1;obtain⟨⟨rfl,_⟩,_,rfl⟩:=h1;refine⟨⟨cur,h3,by simpa using h6,fun j z hz=>?_⟩⟩;have hj:j<zs.length:=(List.getElem?_eq_some_iff.1 hz).1;rw[if_neg (by omega)];have h8:(cur.toList.take (n*1))[j]?=some (.string z):=by
   rw[h7,List.getElem?_map,List.getElem?_take,if_pos (by have:=HN.out;omega),hz];rfl
  rw[List.getElem?_take,if_pos (by have:=HN.out;omega)]at h8
  simpa using h8
 have hbase:w.heap.size≤g:=by
  rcases hrow.2 with⟨h1,_⟩|⟨g',cap',cur,h1,h2,_⟩
  · cases h1
  simp only[Value.slice.injEq,Option.some.injEq,Addr.mk.injEq]at h1;obtain⟨⟨rfl,_⟩,_⟩:=h1;exact h2
 have HG:=Lib.hid (show Gr w w1 from g1);have HR0:=Lib.hid hR0;clear hrow g1 hR0;go_wp2_with fail
 go_loopw [10] (fun v10 wr=>∃i:Nat,v10 = .int .i64 i∧i≤n∧WrR wr g cap i zs∧Gr w wr) (fun v10 _=>n-(intOf v10).toNat)
 case atStart=>exact⟨0,rfl,by omega,HR0.out,HG.out⟩
 case round =>
  obtain⟨i,rfl,hi,hR,hg⟩:=hrel;by_cases hin:i<n
  · have d1:decide ((i:Int)<(n:Int))=true:=by simp;omega
    have d1n:decide (i<n)=true:=by simp;omega
    have i1:(0:Int)≤(i:Int):=by omega
    have i2:(i:Int)<(n:Int):=by omega
    have wi:IntKind.i64.wrap ((i:Int)+1)=(i:Int)+1:=IntWalk.i64_in _ ⟨by omega,by omega⟩;obtain⟨z,hz⟩:∃z,zs[i]?=some z:=⟨_,List.getElem?_eq_getElem (by have:=HN.out;omega)⟩
    have hcell:=hR.cell i z hz;rw[if_neg (Nat.lt_irrefl _)]at hcell;have hzs:=HS.out z (List.mem_of_getElem? hz);have HZ:=Lib.hid hz;have HR:=Lib.hid hR;have HB:=Lib.hid (fun W=>tk_Bare z W);have HW:=Lib.hid (fun W (h:ShW Pl.tab0 W)=>tq_Write z hzs W h);obtain⟨bb,hbb⟩:∃x,Pl.bareW (bs z)=x:=⟨_,rfl⟩
    rw[hbb]at HB;clear hR hz hzs;go_wp2_with fail;refine (HB.out _).mono ?_;rintro e w2 ⟨rfl,g2⟩;have HG2:=Lib.hid g2;clear g2;cases bb with
    | true =>
     go_wp2_with fail
     go_roundw
     case rel=>exact⟨i+1,by go_num,by omega,(HR.out.gr HG2.out).bare HZ.out (wz_bare hbb),hg.trans HG2.out⟩
     case measure=>simp[intOf];omega
    | false =>
     go_wp2_with fail;refine (HW.out _ (HT.out.gr (hg.trans HG2.out))).mono ?_;rintro e w3 ⟨⟨t,rfl,ht⟩,g3⟩;have htz:t=wz z:=by
      rw[eq_of_bs ht];unfold wz Pl.wrW;rw[hbb];rfl
     subst htz;have hR3:=(HR.out.gr HG2.out).gr g3;have hfz:=hR3.free i;have hc3:=hR3.cell i z HZ.out;have hlt3:=hR3.lt;have hg3:=(hg.trans HG2.out).trans g3;have HR3:=Lib.hid hR3;clear hR3 g3 ht;go_wp2_with fail
     go_roundw
     case rel=>exact⟨i+1,by go_num,by omega,HR3.out.set HZ.out,hg3.setCell (p:=⟨g,i,none⟩) hbase _⟩
     case measure=>simp[intOf];omega
  have d1:decide ((i:Int)<(n:Int))=false:=by simp;omega
  have d1n:decide (i<n)=false:=by simp;omega
  have hin':i=n:=by omega
  subst hin';have hnz:=HN.out;have hJ:=Tryz.strings_Join g 0 cap (zs.map wz) ⟨#[46]⟩ wr (fun j x hx=>by
   rw[List.getElem?_map]at hx;cases hz:zs[j]? with
   | none=>rw[hz]at hx;cases hx
   | some z =>
    rw[hz]at hx;simp only[Option.map_some,Option.some.injEq]at hx;subst hx;have:=hR.cell j z hz;rw[if_pos (by have:=(List.getElem?_eq_some_iff.1 hz).1;omega)]at this
    simpa using this) hR.lt (by simp;omega) (by simp;omega) (by
   have h1:=join_len ((zs.map wz).map (·.data.toList)) [46] 6600002 (fun x hx=>by
    simp only[List.map_map,List.mem_map,Function.comp_apply]at hx;obtain⟨z,hz,rfl⟩:=hx;have h1:=wrW_len (bs z);have h2:=HS.out z hz;rw[←bs_length]at h2;show (bs (wz z)).length≤_;rw[bs_wz];omega)
   simp only[List.length_map,List.length_cons,List.length_nil]at h1;have h2:zs.length*(6600002+(0+1))≤1000*6600003:=Nat.mul_le_mul (by omega) (by omega);exact Nat.le_trans h1 (by omega))
  rw[List.length_map,hnz]at hJ;have HJ:=Lib.hid hJ;clear hJ hR;go_wp2_with fail;refine HJ.out.mono ?_;rintro e w4 ⟨rfl,g4⟩;go_wp2_with fail;exact bodyPost_ret (v := .string ⟨(Lib.join ((zs.map wz).map (·.data.toList)) [46]).toArray⟩) (by simp[results,Tryz.results10,go_sem]) rfl ⟨rfl,hg.trans g4⟩
end Go.Proofs.YtkplelejagpkmaaGreatDoor
namespace Go.Proofs.YtkplelejagpkmaaGreatDoor
open Go.RowKit Go.Shelf Go.Joins
attribute [local go_sem] Oper.semAt_some
theorem infoBool:(Tryz.prog.info? 4).map (fun i=>(i.zero,i.size,i.bytes))=some (some (.bool false),1,1):=by kernel_rfl
theorem rowC_slice2 {w:World} {base e size n:Nat} {v:Value} {xs:List Value} (h:RowC w base e size v n xs):∃a c,v = .slice a n c∧(a=none→n=0∧c=0)∧(∀q,a=some q→∃g,q=⟨g,0,none⟩∧v.ownBlock=some g):=by
 rcases rowC_form h with⟨rfl,h0⟩|⟨g,cap,rfl,_,_⟩
 · exact⟨none,0,by rw[h0],fun _=>⟨h0,rfl⟩,fun q e=>(by cases e)⟩
 exact⟨_,_,rfl,fun e=>(by cases e),fun q e=>(by cases e;exact⟨g,rfl,rfl⟩)⟩
def BoolEnd (e:Ending):Prop:=∃b,e = .returned (.bool b)
structure SeenR (S N m:Nat) (sb:List Bool) (wr:World):Prop where
 len:sb.length=N
 cnt:(sb.filter fun b=>b).length=m
 blk:wr.heap[S]?=some (.cells (sb.map Value.bool).toArray 4 (0,0))
theorem SeenR.le {S N m:Nat} {sb:List Bool} {wr:World} (h:SeenR S N m sb wr):m≤N:=by
 rw[←h.cnt,←h.len];exact List.length_filter_le _ _
theorem SeenR.lt {S N m:Nat} {sb:List Bool} {wr:World} (h:SeenR S N m sb wr):S<wr.heap.size:=(Array.getElem?_eq_some_iff.1 h.blk).1
theorem SeenR.cell {S N m:Nat} {sb:List Bool} {wr:World} (h:SeenR S N m sb wr) {j:Nat} {b:Bool} (hb:sb[j]?=some b):wr.cell? ⟨S,j,none⟩=some (.bool b):=by
 rw[cell_of_block h.blk];simp[hb]
theorem SeenR.free {S N m:Nat} {sb:List Bool} {wr:World} (h:SeenR S N m sb wr) (j:Nat):wr.frozen? ⟨S,j,none⟩=false:=unfrozen_of_block h.blk j
theorem SeenR.kept {S N m:Nat} {sb:List Bool} {wr w':World} (h:SeenR S N m sb wr) (hb:w'.heap[S]?=wr.heap[S]?):SeenR S N m sb w':=⟨h.len,h.cnt,hb.trans h.blk⟩
theorem filter_set:∀(sb:List Bool) (j:Nat),sb[j]?=some false→((sb.set j true).filter fun b=>b).length=(sb.filter fun b=>b).length+1
 | [],j,h=>by simp at h
 | b::sb,0,h=>by
  simp at h;subst h;simp
 | b::sb,j+1,h=>by
  have:=filter_set sb j (by simpa using h);rw[List.set_cons_succ,List.filter_cons,List.filter_cons];cases b <;> simp[this]
theorem SeenR.mark {S N m:Nat} {sb:List Bool} {wr:World} (h:SeenR S N m sb wr) {j:Nat} (hb:sb[j]?=some false):SeenR S N (m+1) (sb.set j true) (wr.setCell ⟨S,j,none⟩ (.bool true)) :=
 ⟨by rw[List.length_set,h.len],by rw[filter_set sb j hb,h.cnt],by
  rw[block_setCell h.blk];congr 2;simp[List.map_set]⟩
structure TodoR (S n:Nat) (v:Value) (xs:List Int) (wr:World):Prop where
 len:xs.length=n
 row:wr.ownsRow (S+1) 3 1 v n (xs.map (.int .i64))
theorem TodoR.pop {S k:Nat} {g c:Nat} {xs:List Int} {wr:World} (h:TodoR S (k+1) (.slice (some ⟨g,0,none⟩) (k+1) c) xs wr):∃z,xs[k]?=some z∧wr.cell? ⟨g,k,none⟩=some (.int .i64 z)∧TodoR S k (.slice (some ⟨g,0,none⟩) k c) (xs.take k) wr∧S+1≤g∧g<wr.heap.size:=by
 obtain⟨z,hz⟩:∃z,xs[k]?=some z:=⟨_,List.getElem?_eq_getElem (by have:=h.len;omega)⟩
 rcases h.row.2 with⟨h1,_⟩|⟨g',cap,cur,h1,h2,h3,h4,h5,h6,h7⟩
 · cases h1
 simp only[Value.slice.injEq,Option.some.injEq,Addr.mk.injEq]at h1;obtain⟨⟨rfl,_⟩,_,rfl⟩:=h1;have hk:cur[k]?=some (.int .i64 z):=by
  have h8:(cur.toList.take ((k+1)*1))[k]?=some (.int .i64 z):=by rw[h7,List.getElem?_map,hz];rfl
  rw[List.getElem?_take,if_pos (by omega)]at h8
  simpa using h8
 refine⟨z,hz,by rw[cell_of_block h3];simpa using hk,⟨by rw[List.length_take];have:=h.len;omega,?_⟩,h2,(Array.getElem?_eq_some_iff.1 h3).1⟩;refine⟨by rw[List.length_map,List.length_take];have:=h.len;omega,.inr ⟨g,c,cur,rfl,h2,h3,by omega,h5,h6,?_⟩⟩;have h9:(cur.toList.take ((k+1)*1)).take (k*1)=(xs.map (.int .i64)).take (k*1):=by rw[h7]
 rw[List.take_take,show min (k*1) ((k+1)*1)=k*1 by omega]at h9;rw[h9,←List.map_take,Nat.mul_one]
theorem TodoR.kept {S n:Nat} {v:Value} {xs:List Int} {wr w':World} (h:TodoR S n v xs wr) (hb:∀k,v.ownBlock=some k→w'.heap[k]?=wr.heap[k]?):TodoR S n v xs w':=by
 refine⟨h.len,h.row.1,h.row.2.imp id fun ⟨g,cap,cur,h1,h2,h3,h4⟩=>⟨g,cap,cur,h1,h2,(hb g (by rw[h1];rfl)).trans h3,h4⟩⟩
set_option maxRecDepth 100000 in
theorem la_Sound (w:World) (base g:Nat) (L:List NdR) (hT:TreeV w base g L) (root:Int) (h0:0<L.length) (hN:L.length≤1000) (hU:∀(j:Nat) r,L[j]?=some r→r.nd.subs.length≤1000) :
    Calls Tryz.prog 7 #[.agg #[.slice (some ⟨g,0,none⟩) L.length L.length,.int .i64 root]] w fun e w'=>BoolEnd e∧Gr w w':=by
 obtain⟨N,hLN⟩:∃n,L.length=n:=⟨_,rfl⟩
 rw[hLN]at h0 hN ⊢;have HT:=Lib.hid hT;have HL:=Lib.hid hLN;have HU:=Lib.hid hU;have e1:((N:Int)==0)=false:=by simp;omega
 have e1n:(N==0)=false:=by simp;omega
 have hmk:=fun (W:World)=>run_make_row' (P:=Tryz.prog) 75 4 (.bool false) 1 Tryz.underlying75 infoBool rfl .i64 .i64 N (by omega) (by omega) W
 clear hT hLN hU;go_enter Tryz.func7,Tryz.ntmps7;go_wp2_with fail;obtain⟨W0,hW0⟩:∃W,((w.alloc (.cells #[.slice (some ⟨g,0,none⟩) N N,.int .i64 root] 28)).alloc (.cells (madeCells #[.bool false] N) 4)).alloc (.cells #[.int .i64 root] 3)=W:=⟨_,rfl⟩
 have hB:FX w.heap.size (.slice (some ⟨g,0,none⟩) N N) (.int .i64 root) W0:=by rw[←hW0];exact (FX.new w _ _ 28).gr (((Gr.refl _).alloc _).alloc _)
 have hS0:SeenR (w.heap.size+1) N 0 (List.replicate N false) W0:=by
  refine⟨List.length_replicate ..,by simp,?_⟩;have h1:=heap_alloc_new (w.alloc (.cells #[.slice (some ⟨g,0,none⟩) N N,.int .i64 root] 28)) (.cells (madeCells #[.bool false] N) 4);have h2:(((w.alloc (.cells #[.slice (some ⟨g,0,none⟩) N N,.int .i64 root] 28)).alloc (.cells (madeCells #[.bool false] N) 4)).alloc (.cells #[.int .i64 root] 3)).heap[(w.alloc (.cells #[.slice (some ⟨g,0,none⟩) N N,.int .i64 root] 28)).heap.size]?=some (.cells (madeCells #[.bool false] N) 4):=(((Gr.refl _).alloc _).block (by simp)).trans h1;rw[hW0]at h2;simp only[World.size_alloc]at h2;rw[h2];have h3:((List.replicate N false).map Value.bool).toArray=madeCells #[.bool false] N:=by
   apply Array.toList_inj.1;rw[toList_madeCells_one];simp
  rw[h3]
 have hT0:TodoR (w.heap.size+1) 1 (.slice (some ⟨w.heap.size+1+1,0,none⟩) 1 1) [root] W0:=by
  refine⟨rfl,rfl,.inr ⟨w.heap.size+1+1,1,#[.int .i64 root],rfl,by omega,?_,Nat.le_refl _,by decide,rfl,rfl⟩⟩;have h1:=heap_alloc_new ((w.alloc (.cells #[.slice (some ⟨g,0,none⟩) N N,.int .i64 root] 28)).alloc (.cells (madeCells #[.bool false] N) 4)) (.cells #[.int .i64 root] 3);rw[hW0]at h1;simp only[World.size_alloc]at h1;exact h1
 have gW0:Gr w W0:=by rw[←hW0];exact (((Gr.refl w).alloc _).alloc _).alloc _
 rw[hW0];have HB:=Lib.hid hB;have HS0:=Lib.hid hS0;have HT0:=Lib.hid hT0;have HG0:=Lib.hid gW0;clear hW0 hB hS0 hT0 gW0 hmk;obtain⟨iU,hI⟩:∃i,Tryz.prog.info? 3=some i∧i.zero=some (.int .i64 0)∧i.size=1∧i.bytes=8:=by
  obtain⟨i,h1,h2⟩:=Option.map_eq_some_iff.1 infoInt;simp only[Prod.mk.injEq]at h2;exact⟨i,h1,h2⟩
 have HI:=Lib.hid hI;clear hI
 go_loopw [4,5] (fun v4 v5 wr=>∃(m n:Nat) (sb:List Bool) (xs:List Int),v5 = .int .i64 m∧SeenR (w.heap.size+1) N m sb wr∧TodoR (w.heap.size+1) n v4 xs wr∧n≤1+m*1000∧FX w.heap.size (.slice (some ⟨g,0,none⟩) N N) (.int .i64 root) wr∧Gr w wr) (fun _ v5 _=>N-(intOf v5).toNat)
 case atStart=>exact⟨0,1,_,_,rfl,HS0.out,HT0.out,by omega,HB.out,HG0.out⟩
 case round =>
  obtain⟨m,n,sb,xs,rfl,hs,ht,hn,hf,hg⟩:=hrel;have hmN:=hs.le;cases n with
  | zero =>
   obtain⟨b0,b1,bf,bl⟩:=hf;obtain⟨a,c,rfl⟩:∃a c,u4 = .slice a 0 c:=by
    rcases ht.row.2 with⟨h1,_⟩|⟨g',cap,cur,h1,_⟩
    · exact⟨_,_,h1⟩
    exact⟨_,_,h1⟩
   have HG:=Lib.hid hg;clear hs ht hg hn;by_cases hm:m=N
   · have m1:((m:Int)==(N:Int))=true:=by simp;omega
     have m1n:(m==N)=true:=by simp;omega
     go_wp2_with fail;exact bodyPost_ret (v := .bool true) (by simp[results,Tryz.results7,go_sem]) rfl ⟨⟨_,rfl⟩,HG.out⟩
   have m1:((m:Int)==(N:Int))=false:=by simp;omega
   have m1n:(m==N)=false:=by simp;omega
   go_wp2_with fail;exact bodyPost_ret (v := .bool false) (by simp[results,Tryz.results7,go_sem]) rfl ⟨⟨_,rfl⟩,HG.out⟩
  | succ k =>
   obtain⟨gt,cap,rfl⟩:∃q c,u4 = .slice (some ⟨q,0,none⟩) (k+1) c:=by
    rcases ht.row.2 with⟨_,h1⟩|⟨g',cap,cur,h1,_⟩
    · omega
    exact⟨_,_,h1⟩
   obtain⟨z,hz,hcell,htk,hgt,hgl⟩:=ht.pop;have wk:IntKind.i64.wrap (((k+1:Nat):Int)-1)=(k:Int):=(IntWalk.i64_in _ ⟨by omega,by omega⟩).trans (by omega);have wk2:IntKind.i64.wrap ((k:Int)+1-1)=(k:Int):=(IntWalk.i64_in _ ⟨by omega,by omega⟩).trans (by omega);have i1:(0:Int)≤(k:Int):=by omega
   have i2:(k:Int)<((k+1:Nat):Int):=by omega
   have i3:(k:Int)<(k:Int)+1:=by omega
   have i4:decide ((0:Int)<((k+1:Nat):Int))=true:=decide_eq_true (by omega);have i5:(k:Int)≤(cap:Int):=by
    rcases htk.row.2 with⟨h1,_⟩|⟨g',cap',cur,h1,h2,h3,h4,_⟩
    · cases h1
    simp only[Value.slice.injEq]at h1;omega
   have HF:=Lib.hid hf;obtain⟨b0,b1,bf,bl⟩:=hf;have HG:=Lib.hid hg;have HSN:=Lib.hid hs;have HTK:=Lib.hid htk;clear hs ht htk hz hg;by_cases z0:z<0
   · have d1:decide (z<0)=true:=by simpa using z0
     go_wp2_with fail;exact bodyPost_ret (v := .bool false) (by simp[results,Tryz.results7,go_sem]) rfl ⟨⟨_,rfl⟩,HG.out⟩
   have d1:decide (z<0)=false:=by simpa using z0
   by_cases zN:(N:Int)≤z
   · have d2:decide ((N:Int)≤z)=true:=by simpa using zN
     go_wp2_with fail;exact bodyPost_ret (v := .bool false) (by simp[results,Tryz.results7,go_sem]) rfl ⟨⟨_,rfl⟩,HG.out⟩
   obtain⟨j,rfl⟩:∃j:Nat,z=j:=⟨z.toNat,by omega⟩
   have hjN:j<N:=by omega
   have d2:decide ((N:Int)≤(j:Int))=false:=by simpa using zN
   have d2n:decide (N≤j)=false:=by simp;omega
   have j1:(0:Int)≤(j:Int):=by omega
   have j2:(j:Int)<(N:Int):=by omega
   obtain⟨bb,hbb⟩:∃b,sb[j]?=some b:=⟨_,List.getElem?_eq_getElem (by have:=HSN.out.len;omega)⟩
   have hsc:=HSN.out.cell hbb;have hsl:=HSN.out.lt;cases bb with
   | true =>
    go_wp2_with fail;exact bodyPost_ret (v := .bool false) (by simp[results,Tryz.results7,go_sem]) rfl ⟨⟨_,rfl⟩,HG.out⟩
   | false =>
    have hfz:=HSN.out.free j;have HBB:=Lib.hid hbb;clear hbb z0 zN
    go_upto_region 13 with fail
    have hwm:IntKind.i64.wrap ((m:Int)+1)=(m:Int)+1:=IntWalk.i64_in _ ⟨by omega,by omega⟩;obtain⟨W2,hW2⟩:∃W,wr.setCell ⟨w.heap.size+1,j,none⟩ (.bool true)=W:=⟨_,rfl⟩
    have hs2:=HSN.out.mark HBB.out;have hoth:∀q,q≠w.heap.size+1→(wr.setCell ⟨w.heap.size+1,j,none⟩ (.bool true)).heap[q]?=wr.heap[q]?:=fun q hq=>Below.heap_setCell _ _ _ _ hq
    have hsz2:(wr.setCell ⟨w.heap.size+1,j,none⟩ (.bool true)).heap.size=wr.heap.size:=by simp[World.setCell]
    have htk2:TodoR (w.heap.size+1) k (.slice (some ⟨gt,0,none⟩) k cap) (xs.take k) (wr.setCell ⟨w.heap.size+1,j,none⟩ (.bool true)):=HTK.out.kept fun q hq=>hoth q (by
     simp only[Value.ownBlock,Option.some.injEq]at hq;omega)
    have hf2:=HF.out.of_block (hoth w.heap.size (by omega)) (Nat.le_of_eq hsz2.symm);have hg2:Gr w (wr.setCell ⟨w.heap.size+1,j,none⟩ (.bool true)):=HG.out.setCell (p:=⟨w.heap.size+1,j,none⟩) (Nat.le_succ _) _;rw[hW2]at hs2 htk2 hf2 hg2 hsz2;rw[hW2];obtain⟨r,hr⟩:∃r,L[j]?=some r:=⟨_,List.getElem?_eq_getElem (by have:=HL.out;omega)⟩
    have hT2:=HT.out.gr hg2;obtain⟨c0,c1,c2,c3,c4,c5,c6⟩:=hT2.cells j r hr;obtain⟨rwk,rws,rwu⟩:=hT2.rows j r hr;obtain⟨aK,cK,hK,_⟩:=rowC_slice2 rwk;obtain⟨aS,cS,hSS,_⟩:=rowC_slice2 rws;obtain⟨aU,cU,hUU,hU1,hU2⟩:=rowC_slice2 rwu;rw[hK]at c2;rw[hSS]at c3;rw[hUU]at c4;have hgW:g<W2.heap.size:=hT2.lt.2;have hul:=HU.out j r hr;have HRU:=Lib.hid rwu;have HUU:=Lib.hid hUU;obtain⟨nK,hnK⟩:∃n,r.nd.keys.length=n:=⟨_,rfl⟩
    obtain⟨nS,hnS⟩:∃n,r.nd.spots.length=n:=⟨_,rfl⟩
    obtain⟨nU,hnU⟩:∃n,r.nd.subs.length=n:=⟨_,rfl⟩
    rw[hnK]at c2;rw[hnS]at c3;rw[hnU]at c4 hul;have HNU:=Lib.hid hnU;obtain⟨b0,b1,bf,bl⟩:=hf2;have HF2:=Lib.hid (show FX w.heap.size (.slice (some ⟨g,0,none⟩) N N) (.int .i64 root) W2 from ⟨b0,b1,bf,bl⟩);have hm1:=hs2.le;have HS2:=Lib.hid hs2;have HT2:=Lib.hid htk2;have HG2:=Lib.hid hg2;clear hoth hs2 htk2 hg2 hW2 hT2 rwk rws rwu hK hSS hUU hnK hnS hnU hr hsc hfz hcell;by_cases k1:nK<cK
    · have t1:decide ((nK:Int)<(cK:Int))=true:=by simp;omega
      have t1n:decide (nK<cK)=true:=by simp;omega
      go_wp2_with fail;exact bodyPost_ret (v := .bool false) (by simp[results,Tryz.results7,go_sem]) rfl ⟨⟨_,rfl⟩,HG2.out.alloc _⟩
    have t1:decide ((nK:Int)<(cK:Int))=false:=by simp;omega
    have t1n:decide (nK<cK)=false:=by simp;omega
    by_cases k2:nS<cS
    · have t2:decide ((nS:Int)<(cS:Int))=true:=by simp;omega
      have t2n:decide (nS<cS)=true:=by simp;omega
      go_wp2_with fail;exact bodyPost_ret (v := .bool false) (by simp[results,Tryz.results7,go_sem]) rfl ⟨⟨_,rfl⟩,HG2.out.alloc _⟩
    have t2:decide ((nS:Int)<(cS:Int))=false:=by simp;omega
    have t2n:decide (nS<cS)=false:=by simp;omega
    by_cases k3:nU<cU
    · have t3:decide ((nU:Int)<(cU:Int))=true:=by simp;omega
      have t3n:decide (nU<cU)=true:=by simp;omega
      go_wp2_with fail;exact bodyPost_ret (v := .bool false) (by simp[results,Tryz.results7,go_sem]) rfl ⟨⟨_,rfl⟩,HG2.out.alloc _⟩
    have t3:decide ((nU:Int)<(cU:Int))=false:=by simp;omega
    have t3n:decide (nU<cU)=false:=by simp;omega
    clear k1 k2 k3
    go_upto_region 16 with fail
    obtain⟨W3,hW3⟩:∃W,W2.alloc (.cells #[.int .u8 r.nd.kind,strV r.nd.text,.slice aK nK cK,.slice aS nS cS,.slice aU nU cU,.int .i64 r.nd.sp.1,.int .i64 r.nd.sp.2] 40)=W:=⟨_,rfl⟩
    rw[hW3];have g23:Gr W2 W3:=by rw[←hW3];exact (Gr.refl _).alloc _
    have hb7:W3.heap[W2.heap.size]?=some (.cells #[.int .u8 r.nd.kind,strV r.nd.text,.slice aK nK cK,.slice aS nS cS,.slice aU nU cU,.int .i64 r.nd.sp.1,.int .i64 r.nd.sp.2] 40 (0,0)):=by
     rw[←hW3];exact heap_alloc_new W2 _
    have f4:W3.cell? ⟨wr.heap.size,4,none⟩=some (.slice aU nU cU):=by rw[←hsz2,cell_of_block hb7];rfl
    have hs3:=HS2.out.kept (g23.block HS2.out.lt);have htk3:=HT2.out.kept fun q hq=>g23.block (by
     simp only[Value.ownBlock,Option.some.injEq]at hq;subst hq;exact (hsz2 ▸ hgl))
    have hf3:=HF2.out.gr g23;have hg3:=HG2.out.trans g23;have hz3:=g23.size;have HS3:=Lib.hid hs3;have HT3:=Lib.hid htk3;have HF3:=Lib.hid hf3;have HG3:=Lib.hid hg3;have HU3:=Lib.hid (HRU.out.of_block fun q e=>g23.block (HRU.out.lt q e).2);rw[HUU.out,HNU.out]at HU3;clear hW3 hb7 g23 hs3 htk3 hf3 hg3 c0 c1 c2 c3 c4 c5 c6 b0 b1 bf bl;cases aU with
    | none =>
     obtain⟨hu0,hc0⟩:=hU1 rfl;rw[HNU.out]at hu0;subst hu0 hc0;go_wp2_with (at_builtin;refine wpList_append_own_none rfl (.tmp 86) (.tmp 88) 25 rfl (w.heap.size+1+1) 3 iU 1 Tryz.underlying25 HI.out.1 _ _ _ rfl HT3.out.row rfl ?_);have hnb:k≤1+(m+1)*1000:=by omega
     go_roundw
     case rel=>first|exact⟨m+1,k,_,_,by go_num,HS3.out,HT3.out,hnb,HF3.out,HG3.out⟩|((repeat apply Exists.intro);exact⟨⟨m+1,k,_,_,rfl,HS3.out,HT3.out,hnb,HF3.out,HG3.out⟩,rfl⟩)
     case measure=>simp[intOf];omega
    | some q =>
     obtain⟨gu,rfl,hgu⟩:=hU2 q rfl;have hcu:∀(q:Nat) u,(subsV r.nd.subs)[q]?=some u→W3.cell? ((⟨gu,0,none⟩:Addr).add q)=some u:=fun q u hu=>by
      have:=HU3.out.cells (g:=gu) rfl q u hu;by_cases hq0:q=0
      · subst hq0;simpa [Addr.add]using this
      simpa [Addr.add,hq0]using this
     have hone:∀u∈subsV r.nd.subs,u.oneCell'=true:=fun u hu=>by
      obtain⟨x,_,rfl⟩:=List.mem_map.1 hu;rfl
     have hnl:(subsV r.nd.subs).length=nU*1:=by simp[subsV,HNU.out]
     have hkn:k+nU≤2000000:=by omega
     have hmx:k+nU≤maxLen:=by unfold maxLen;omega
     have hb8:(k+nU)*8≤140737488355328:=by omega
     have hbs:w.heap.size+1+1≤W3.heap.size:=by have:=HS3.out.lt;omega
     have HA:=Lib.hid (And.intro hcu (And.intro hone (And.intro hnl (And.intro hmx (And.intro hb8 hbs)))));clear hcu hone hnl hmx hb8 hbs;go_wp2_with (at_builtin;refine wpList_append_own_at _ rfl (.tmp 86) (.tmp 88) 25 rfl (w.heap.size+1+1) 3 iU (.int .i64 0) 1 8 Tryz.underlying25 HI.out.1 HI.out.2.1 HI.out.2.2.1 HI.out.2.2.2 rfl (by decide) _ _ _ rfl HT3.out.row ⟨gu,0,none⟩ nU cU (subsV r.nd.subs) rfl HA.out.2.2.1 HA.out.1 HA.out.2.1 HA.out.2.2.2.1 HA.out.2.2.2.2.1 HA.out.2.2.2.2.2 ?_;intro v' w4 hrow4 hgr4 _ hob4);have hs4:=HS3.out.kept (hgr4.block _ HS3.out.lt (fun e=>absurd (show w.heap.size+1=gt from Option.some.inj e) (by omega)));have hf4:=HF3.out.of_block (hgr4.block _ HF3.out.2.2.2 (fun e=>absurd (show w.heap.size=gt from Option.some.inj e) (by omega))) hgr4.size;have htd4:TodoR (w.heap.size+1) (k+nU) v' (xs.take k++r.nd.subs.map (fun (x:Nat)=>(x:Int))) w4:=⟨by rw[List.length_append,HT3.out.len,List.length_map,HNU.out],by
      rw[List.map_append,List.map_map];exact hrow4⟩
     have hg4:Gr w w4:=by
      refine⟨hgr4.os.trans HG3.out.os,hgr4.tape.trans HG3.out.tape,hgr4.output.trans HG3.out.output,Nat.le_trans HG3.out.size hgr4.size,fun q hq=>?_⟩;have hq3:q<W3.heap.size:=Nat.lt_of_lt_of_le hq HG3.out.size;exact (hgr4.block q hq3 (fun e=>absurd (show q=gt from Option.some.inj e) (by omega))).trans (HG3.out.block hq)
     have hnb:k+nU≤1+(m+1)*1000:=by omega
     clear hrow4 hgr4 hob4
     go_roundw
     case rel=>first|exact⟨m+1,k+nU,_,_,by go_num,hs4,htd4,hnb,hf4,hg4⟩|((repeat apply Exists.intro);exact⟨⟨m+1,k+nU,_,_,rfl,hs4,htd4,hnb,hf4,hg4⟩,rfl⟩)
     case measure=>simp[intOf];omega
end Go.Proofs.YtkplelejagpkmaaGreatDoor
namespace Go.Proofs.YtkplelejagpkmaaGreatDoor
open Go.RowKit Go.Shelf Go.Joins
attribute [local go_sem] Oper.semAt_some
structure StrsV (w:World) (a:Option Addr) (zs:List ByteArray):Prop where
 cell:∀(j:Nat) z,zs[j]?=some z→∃b off,a=some ⟨b,off,none⟩∧b<w.heap.size∧w.cell? ⟨b,off+j,none⟩=some (.string z)
theorem StrsV.gr {w w':World} {a:Option Addr} {zs:List ByteArray} (h:StrsV w a zs) (g:Gr w w'):StrsV w' a zs :=
 ⟨fun j z hz=>by
  obtain⟨b,off,h1,h2,h3⟩:=h.cell j z hz;exact⟨b,off,h1,Nat.lt_of_lt_of_le h2 g.size,(g.use.1 _ _ h2).trans h3⟩⟩
structure BytsV (w:World) (a:Option Addr) (zs:List UInt8):Prop where
 cell:∀(j:Nat) z,zs[j]?=some z→∃b off,a=some ⟨b,off,none⟩∧b<w.heap.size∧w.cell? ⟨b,off+j,none⟩=some (byteV z)
theorem BytsV.gr {w w':World} {a:Option Addr} {zs:List UInt8} (h:BytsV w a zs) (g:Gr w w'):BytsV w' a zs :=
 ⟨fun j z hz=>by
  obtain⟨b,off,h1,h2,h3⟩:=h.cell j z hz;exact⟨b,off,h1,Nat.lt_of_lt_of_le h2 g.size,(g.use.1 _ _ h2).trans h3⟩⟩
theorem own_gr {w w':World} {base e size n:Nat} {v:Value} {xs:List Value} (h:w.ownsRow base e size v n xs) (g:Gr w w'):w'.ownsRow base e size v n xs :=
 ⟨h.1,h.2.imp id fun ⟨k,cap,cur,h1,h2,h3,h4⟩=>⟨k,cap,cur,h1,h2,(g.block (Array.getElem?_eq_some_iff.1 h3).1).trans h3,h4⟩⟩
theorem own_low {w:World} {base e size n:Nat} {v:Value} {xs:List Value} (h:w.ownsRow base e size v n xs):∀k,v.ownBlock=some k→base≤k:=by
 intro k hk;rcases h.2 with⟨rfl,_⟩|⟨g,cap,cur,rfl,h2,_⟩
 · cases hk
 cases hk;exact h2
theorem gr_grown {W a b:World} {row:Option Nat} (h:Gr W a) (g:a.grownBy b row) (hr:∀k,row=some k→W.heap.size≤k):Gr W b :=
 ⟨g.os.trans h.os,g.tape.trans h.tape,g.output.trans h.output,Nat.le_trans h.size g.size,fun k hk=>(g.block k (Nat.lt_of_lt_of_le hk h.size) (fun e=>by have:=hr k e.symm;omega)).trans (h.block hk)⟩
theorem bs_append' (a b:ByteArray):bs (a++b)=bs a++bs b:=by simp[bs]
theorem bs_app2 (a b:ByteArray):bs (a++b)=bs a++bs b:=by simp[bs]
theorem lib_join_one (x sep:List UInt8):Lib.join [x] sep=x:=by simp[Lib.join,List.intercalate]
set_option maxRecDepth 100000 in
theorem la_sameO (w:World) (ga gb ob n ca cb:Nat) (xs:List Value) (hx:∀v∈xs,∃t,v = .string t) (hn:xs.length=n) (ha:∀j v,xs[j]?=some v→w.cell? ⟨ga,j,none⟩=some v) (hb:∀j v,xs[j]?=some v→w.cell? ⟨gb,ob+j,none⟩=some v) (hn2:n≤30000000) :
    Calls Tryz.prog 12 #[.slice (some ⟨ga,0,none⟩) n ca,.slice (some ⟨gb,ob,none⟩) n cb] w fun e w'=>e = .returned (.bool true)∧Gr w w':=by
 have hb0:((n:Int) != (n:Int))=false:=by simp
 have HX:=Lib.hid hx;have HN:=Lib.hid hn;have HA:=Lib.hid ha;have HB:=Lib.hid hb;clear hx hn ha hb;go_enter Tryz.func12,Tryz.ntmps12;go_wp2_with fail
 go_loopw [5] (fun v wr=>∃i:Nat,v = .int .i64 i∧i≤n∧∃m,wr=w.drewN m) (fun v _=>n-(intOf v).toNat)
 case atStart=>exact⟨0,rfl,by omega,0,rfl⟩
 case round =>
  obtain⟨i,rfl,hi,m,rfl⟩:=hrel;by_cases h:i<n
  · have h0:decide ((i:Int)<(n:Int))=true:=by simp;omega
    have h0n:decide (i<n)=true:=by simp;omega
    have i1:(0:Int)≤(i:Int):=by omega
    have i2:(i:Int)<(n:Int):=by omega
    have wi:IntKind.i64.wrap ((i:Int)+1)=(i:Int)+1:=IntWalk.i64_in _ ⟨by omega,by omega⟩;obtain⟨v,hv⟩:∃v,xs[i]?=some v:=⟨_,List.getElem?_eq_getElem (by rw[HN.out];exact h)⟩
    obtain⟨t,rfl⟩:=HX.out v (List.mem_of_getElem? hv);have e1:=HA.out i _ hv;have e2:=HB.out i _ hv;clear hv;go_wp2_with fail
    go_quiet (fail)
    go_wp2_with fail
    go_roundw
    case rel=>exact⟨i+1,by go_num,by omega,_,rfl⟩
    case measure=>simp[intOf];omega
  have h0:decide ((i:Int)<(n:Int))=false:=by simp;omega
  have h0n:decide (i<n)=false:=by simp;omega
  go_wp2_with fail;exact bodyPost_ret (v := .bool true) (by simp[results,Tryz.results12,go_sem]) rfl ⟨rfl,(Gr.refl w).drewN _⟩
set_option maxRecDepth 100000 in
theorem la_sameW (w:World) {b1 n:Nat} {va:Value} {zs:List ByteArray} (hn:n=zs.length) (ha:RowC w b1 9 1 va n (keysV (zs.map bs))) (al:Option Addr) (cb:Nat) (hb:∀(j:Nat) z,zs[j]?=some z→∃b off,al=some ⟨b,off,none⟩∧w.cell? ⟨b,off+j,none⟩=some (.string z)) (hn2:n≤30000000) :
    Calls Tryz.prog 12 #[va,.slice al n cb] w fun e w'=>e = .returned (.bool true)∧Gr w w':=by
 by_cases h0:n=0
 · obtain⟨a,c,rfl⟩:=rowC_zero ha h0;subst h0;exact la_same0 w _ _ _ _
 obtain⟨ga,ca,hva,_⟩:=ha.form (by omega);obtain⟨z0,hz0⟩:∃z,zs[0]?=some z:=⟨_,List.getElem?_eq_getElem (by omega)⟩
 obtain⟨b,off,rfl,_⟩:=hb 0 z0 hz0;have hk:keysV (zs.map bs)=zs.map Value.string:=by
  unfold keysV;rw[List.map_map];refine List.map_congr_left fun z _=>?_
  simp[bs]
 rw[hk]at ha;subst hva;exact la_sameO w ga b off n ca cb (zs.map Value.string) (fun v hv=>by
  obtain⟨x,_,rfl⟩:=List.mem_map.1 hv;exact⟨_,rfl⟩) (by simp[hn]) (fun j v hv=>ha.cells (g:=ga) rfl j v hv) (fun j v hv=>by
   rw[List.getElem?_map]at hv;cases hz:zs[j]? with
   | none=>rw[hz]at hv;cases hv
   | some z =>
    rw[hz]at hv;simp only[Option.map_some,Option.some.injEq]at hv;subst hv;obtain⟨b',off',h1,h2⟩:=hb j z hz;cases h1;exact h2) hn2
end Go.Proofs.YtkplelejagpkmaaGreatDoor
