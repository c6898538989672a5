/-
 The walks and plain laws that the claim rests on, part 47.
-/
import Derived.Test.YtkplelejagpkmaaGreatDoorM16
import Derived.Test.YtkplelejagpkmaaGreatDoorM37
import Derived.Test.YtkplelejagpkmaaGreatDoorM49
import Derived.Deep.DeepCutAuto
set_option maxHeartbeats 16000000
set_option linter.all false
set_option linter.unusedVariables false
set_option linter.unusedSimpArgs false
namespace Go.Proofs.YtkplelejagpkmaaGreatDoor
open Go.RowKit Go.Shelf Go.Joins
structure MadeR where
 k:Nat
 aw:Option Addr
 cw:Nat
 ws:List ByteArray
 v:ByteArray
 bl:Nat
structure MadeAt (w:World) (b o:Nat) (x:MadeR):Prop where
 c0:w.cell? ⟨b,o,none⟩=some (.int .u8 x.k)
 c1:w.cell? ⟨b,o+1,none⟩=some (.slice x.aw x.ws.length x.cw)
 c2:w.cell? ⟨b,o+2,none⟩=some (.string x.v)
 c3:w.cell? ⟨b,o+3,none⟩=some (.int .u8 x.bl)
 lt:b<w.heap.size
theorem MadeAt.gr {w w':World} {b o:Nat} {x:MadeR} (h:MadeAt w b o x) (g:Gr w w'):MadeAt w' b o x :=
 ⟨(g.use.1 _ _ h.lt).trans h.c0,(g.use.1 _ _ h.lt).trans h.c1,(g.use.1 _ _ h.lt).trans h.c2,(g.use.1 _ _ h.lt).trans h.c3,Nat.lt_of_lt_of_le h.lt g.size⟩
structure MadesV (w:World) (a:Option Addr) (xs:List MadeR):Prop where
 cell:∀(j:Nat) x,xs[j]?=some x→∃b off,a=some ⟨b,off,none⟩∧MadeAt w b (off+j*4) x∧x.k<256∧x.bl<256∧StrsV w x.aw x.ws
theorem MadesV.gr {w w':World} {a:Option Addr} {xs:List MadeR} (h:MadesV w a xs) (g:Gr w w'):MadesV w' a xs :=
 ⟨fun j x hx=>by
  obtain⟨b,off,h1,h2,h3,h4,h5⟩:=h.cell j x hx;exact⟨b,off,h1,h2.gr g,h3,h4,h5.gr g⟩⟩
theorem keyT_join (zs:List ByteArray):Lib.join ((zs.map wz).map (·.data.toList)) [46]=Pl.keyT (zs.map bs):=by
 induction zs with
 | nil=>rfl
 | cons z rest ih =>
  cases rest with
  | nil =>
   simp only[List.map_cons,List.map_nil];rw[lib_join_one];show bs (wz z)=_;rw[bs_wz];simp[Pl.keyT]
  | cons y ys =>
   have h:Lib.join (((z::y::ys).map wz).map (·.data.toList)) [46]=bs (wz z)++([46]++Lib.join (((y::ys).map wz).map (·.data.toList)) [46]):=by simp[Lib.join,List.intercalate]
   rw[h,ih,bs_wz];rfl
theorem keyT_le (zs:List ByteArray):(Pl.keyT (zs.map bs)).length≤6*(zs.map (·.size)).sum+3*zs.length:=by
 induction zs with
 | nil=>simp[Pl.keyT]
 | cons z rest ih =>
  have h1:=wrW_len (bs z);rw[bs_length]at h1;rw[List.map_cons,Pl.keyT,List.length_append,List.map_cons,List.sum_cons,List.length_cons]
  split
  · simp only[List.length_nil];omega
  rw[List.length_cons];omega
theorem sp_repeat (c:Nat) (hc:c≤2) (w:World):Calls Tryz.prog 14 #[.string ⟨#[32]⟩,.int .i64 c] w fun e w'=>∃r:ByteArray,e = .returned (.string r)∧bs r=Pl.spn c∧Gr w w':=by
 match c,hc with
 | 0,_ =>
  refine (show Calls Tryz.prog 14 #[.string ⟨#[32]⟩,.int .i64 0] w _ from Tryz.strings_Repeat_zero ⟨#[32]⟩ w).mono ?_;rintro e w' ⟨rfl,rfl⟩;exact⟨⟨#[]⟩,rfl,rfl,Gr.refl _⟩
 | 1,_ =>
  refine (show Calls Tryz.prog 14 #[.string ⟨#[32]⟩,.int .i64 1] w _ from Tryz.strings_Repeat_one ⟨#[32]⟩ w).mono ?_;rintro e w' ⟨rfl,rfl⟩;exact⟨⟨#[32]⟩,rfl,rfl,Gr.refl _⟩
 | 2,_ =>
  refine (Tryz.strings_Repeat_main ⟨#[32]⟩ 2 w (by omega) (by decide) (by decide) (by decide)).mono ?_;rintro e w' ⟨rfl,hb⟩;exact⟨_,rfl,rfl,hb⟩
abbrev tailTs:List ByteArray:=[⟨#[10]⟩,⟨#[13,10]⟩,⟨#[32,35,32,99,32,61,32,91,10]⟩,⟨#[9,35,13,10]⟩]
theorem tailTs_of (k:Nat) (hk:k<4):∃z,tailTs[k]?=some z∧bs z=Pl.tails4.getD k []∧bs z∈Pl.tails4∧z.size≤9:=by
 match k,hk with
 | 0,_=>exact⟨_,rfl,rfl,by decide,by decide⟩
 | 1,_=>exact⟨_,rfl,rfl,by decide,by decide⟩
 | 2,_=>exact⟨_,rfl,rfl,by decide,by decide⟩
 | 3,_=>exact⟨_,rfl,rfl,by decide,by decide⟩
def lineOf (x:MadeR):Pl.Line:=⟨x.k % 4,x.bl % 3,Pl.tails4.getD (x.bl / 3 % 4) [],x.ws.map bs,bs x.v⟩
def linesOf (xs:List MadeR) (i:Nat):List Pl.Line:=(xs.take i).map lineOf
theorem linesOf_succ {xs:List MadeR} {i:Nat} {x:MadeR} (h:xs[i]?=some x):linesOf xs (i+1)=linesOf xs i++[lineOf x]:=by
 unfold linesOf;rw[List.take_succ,h,List.map_append];rfl
theorem linesOf_at {xs:List MadeR} {n i:Nat} {x:MadeR} (hn:i<n) (h:xs[i]?=some x):(linesOf xs n)[i]?=some (lineOf x):=by
 unfold linesOf;rw[List.getElem?_map,List.getElem?_take_of_lt hn,h];rfl
theorem linesOf_len {xs:List MadeR} {n:Nat} (h:n≤xs.length):(linesOf xs n).length=n:=by
 unfold linesOf;rw[List.length_map,List.length_take,Nat.min_eq_left h]
def wsum (x:MadeR):Nat:=(x.ws.map (·.size)).sum
theorem line_len (x:MadeR) (h5:x.ws.length≤5) (h80:x.v.size≤80):(Pl.lineT (lineOf x)).length≤6*wsum x+200:=by
 have h1:=keyT_le x.ws;have h2:(lineOf x).tail.length≤9:=by
  obtain⟨z,_,hb,_,hs⟩:=tailTs_of (x.bl / 3 % 4) (Nat.mod_lt _ (by decide));show (Pl.tails4.getD (x.bl / 3 % 4) []).length≤9;rw[←hb,bs_length];exact hs
 have h3:(lineOf x).a≤2:=by show x.bl % 3≤2;omega
 have h4:(lineOf x).v.length≤80:=by show (bs x.v).length≤80;rw[bs_length];exact h80
 have h6:(Pl.keyT (lineOf x).ws).length≤6*wsum x+15:=by
  show (Pl.keyT (x.ws.map bs)).length≤_;unfold wsum;omega
 unfold Pl.lineT
 repeat' split
 all_goals simp only[List.length_append,List.length_cons,Pl.spn_len];omega
theorem made_take (xs:List MadeR):∀i,i≤xs.length→(∀(j:Nat) x,j<i→xs[j]?=some x→x.ws.length≤5∧x.v.size≤80)→((linesOf xs i).flatMap Pl.lineT).length≤200*i+6*((xs.take i).map wsum).sum:=by
 intro i
 induction i with
 | zero=>intro _ _;simp[linesOf]
 | succ i ih =>
  intro hi hx;obtain⟨x,hx1⟩:∃x,xs[i]?=some x:=⟨_,List.getElem?_eq_getElem (by omega)⟩
  have h1:=ih (by omega) (fun j y hj hy=>hx j y (by omega) hy);have h2:=hx i x (by omega) hx1;have h3:=line_len x h2.1 h2.2;rw[linesOf_succ hx1,List.flatMap_append,List.length_append,List.take_succ,hx1,List.map_append,List.sum_append];simp only[List.flatMap_cons,List.flatMap_nil,List.append_nil,Option.toList_some,List.map_cons,List.map_nil,List.sum_cons,List.sum_nil];omega
theorem wsum_take (xs:List MadeR) (i:Nat):((xs.take i).map wsum).sum≤(xs.map wsum).sum:=by
 conv=>rhs;rw[←List.take_append_drop i xs]
 rw[List.map_append,List.sum_append];omega
structure Made1 (xs:List MadeR) (i base:Nat) (t:ByteArray) (vk:Value) (wr:World):Prop where
 txt:bs t=(linesOf xs i).flatMap Pl.lineT
 row:wr.ownsRow base 49 1 vk i ((linesOf xs i).map fun x => .int .u8 x.kind)
 ok:∀x∈linesOf xs i,Pl.LineOk x
 at':∀(j:Nat) x,j<i→xs[j]?=some x→x.ws.length≤5∧x.v.size≤80
theorem Made1.len {xs:List MadeR} {i base:Nat} {t:ByteArray} {vk:Value} {wr:World} (h:Made1 xs i base t vk wr) (hi:i≤xs.length) (h12:i≤12) (hs:(xs.map wsum).sum≤1048576):t.size≤6293900:=by
 have h1:=made_take xs i hi h.at';have h2:=wsum_take xs i;rw[←h.txt,bs_length]at h1;omega
theorem line_txt (x:MadeR) {t a k z:ByteArray} {L:Pl.Bs} (ht:bs t=L) (ha:bs a=Pl.spn (x.bl % 3)) (hk:bs k=Pl.keyT (x.ws.map bs)) (hz:bs z=Pl.tails4.getD (x.bl / 3 % 4) []) :
    (x.k % 4=0→bs (t++a++z)=L++Pl.lineT (lineOf x)) ∧
    (x.k % 4=1→bs (t++a++k++a++⟨#[61]⟩++a++x.v++z)=L++Pl.lineT (lineOf x)) ∧
    (x.k % 4=2→bs (t++a++⟨#[91]⟩++a++k++a++⟨#[93]⟩++z)=L++Pl.lineT (lineOf x)) ∧
    (x.k % 4=3→bs (t++a++⟨#[91,91]⟩++a++k++a++⟨#[93,93]⟩++z)=L++Pl.lineT (lineOf x)):=by
 have e1:(lineOf x).kind=x.k % 4:=rfl;have e2:(lineOf x).a=x.bl % 3:=rfl;have e3:(lineOf x).tail=Pl.tails4.getD (x.bl / 3 % 4) []:=rfl;have e4:(lineOf x).ws=x.ws.map bs:=rfl;have e5:(lineOf x).v=bs x.v:=rfl;have b1:bs (⟨#[61]⟩:ByteArray)=[61]:=rfl;have b2:bs (⟨#[91]⟩:ByteArray)=[91]:=rfl;have b3:bs (⟨#[93]⟩:ByteArray)=[93]:=rfl;have b4:bs (⟨#[91,91]⟩:ByteArray)=[91,91]:=rfl;have b5:bs (⟨#[93,93]⟩:ByteArray)=[93,93]:=rfl;refine⟨fun h=>?_,fun h=>?_,fun h=>?_,fun h=>?_⟩
 all_goals
  unfold Pl.lineT;simp only[e1,e2,e3,e4,e5,h,bs_app2,ht,ha,hk,hz,b1,b2,b3,b4,b5,if_true,if_false,Nat.reduceEqDiff,List.append_assoc,List.singleton_append,List.cons_append,List.nil_append]
  try rfl
end Go.Proofs.YtkplelejagpkmaaGreatDoor
namespace Go.Proofs.YtkplelejagpkmaaGreatDoor
open Go.RowKit Go.Shelf Go.Joins
attribute [local go_sem] Oper.semAt_some
theorem mem_le_sum:∀ {l:List Nat} {n:Nat},n∈l→n≤l.sum
 | [],n,h=>by cases h
 | a::l,n,h=>by
  rw[List.sum_cons];rcases List.mem_cons.1 h with rfl|h
  · omega
  have:=mem_le_sum h;omega
theorem infoLK:(Tryz.prog.info? 49).map (fun i=>(i.zero,i.size,i.bytes))=some (some (.int .u8 0),1,1):=by kernel_rfl
theorem all2_back {α β : Type} {R : α → β → Prop} {l:List α} {m:List β} (h:Pl.All2 R l m):∀(i:Nat) (y : β),m[i]?=some y→∃x,l[i]?=some x∧R x y:=by
 induction h with
 | nil=>intro i y hy;simp at hy
 | cons h _ ih =>
  intro i y hy;cases i with
  | zero=>simp at hy;subst hy;exact⟨_,rfl,h⟩
  | succ i=>exact ih i y (by simpa using hy)
structure MadS (B gk ok b o:Nat) (kd:Nat) (kv:Value) (va vb:Int) (wv:Value) (v:ByteArray) (w:World):Prop where
 k0:w.cell? ⟨B,0,none⟩=some (.int .u8 kd)
 k3:w.cell? ⟨B,3,none⟩=some kv
 k5:w.cell? ⟨B,5,none⟩=some (.int .i64 va)
 k6:w.cell? ⟨B,6,none⟩=some (.int .i64 vb)
 kk:w.cell? ⟨gk,ok,none⟩=some (.int .u8 kd)
 w1:w.cell? ⟨b,o+1,none⟩=some wv
 w2:w.cell? ⟨b,o+2,none⟩=some (.string v)
 l1:B<w.heap.size
 l2:gk<w.heap.size
 l3:b<w.heap.size
theorem MadS.gr {B gk ok b o kd:Nat} {kv:Value} {va vb:Int} {wv:Value} {v:ByteArray} {w w':World} (h:MadS B gk ok b o kd kv va vb wv v w) (q:Gr w w'):MadS B gk ok b o kd kv va vb wv v w' :=
 ⟨(q.use.1 _ _ h.l1).trans h.k0,(q.use.1 _ _ h.l1).trans h.k3,(q.use.1 _ _ h.l1).trans h.k5,(q.use.1 _ _ h.l1).trans h.k6,(q.use.1 _ _ h.l2).trans h.kk,(q.use.1 _ _ h.l3).trans h.w1,(q.use.1 _ _ h.l3).trans h.w2,
  Nat.lt_of_lt_of_le h.l1 q.size,Nat.lt_of_lt_of_le h.l2 q.size,Nat.lt_of_lt_of_le h.l3 q.size⟩
set_option maxRecDepth 100000 in
theorem law_made (w:World) (hw:RW Pl.tab0 w) (al:Option Addr) (cl:Nat) (xs:List MadeR) (hl:MadesV w al xs) (hsum:(xs.map wsum).sum≤1048576) :
    Calls Tryz.prog 4 #[.slice al xs.length cl] w fun e w'=>e = .returned (.bool true)∧Gr w w':=by
 have HW:=Lib.hid hw;have HL:=Lib.hid hl;have HSUM:=Lib.hid hsum;clear hw hl hsum;obtain⟨nl,hnl⟩:∃n,xs.length=n:=⟨_,rfl⟩
 rw[hnl];have HNL:=Lib.hid hnl;clear hnl;by_cases hbig:12<nl
 · have d1:decide ((12:Int)<(nl:Int))=true:=by simp;omega
   have H:=Lib.hid (lb_lives w HW.out);clear hbig;go_enter Tryz.func4,Tryz.ntmps4;go_wp2_with fail;refine H.out.mono ?_;rintro e w1 ⟨rfl,g1⟩;go_wp2_with fail;exact bodyPost_ret (v := .bool true) (by simp[results,Tryz.results4,go_sem]) rfl ⟨rfl,g1⟩
 have d1:decide ((12:Int)<(nl:Int))=false:=by simp;omega
 have hl12:nl≤12:=by omega
 clear hbig;go_enter Tryz.func4,Tryz.ntmps4;go_wp2_with fail
 go_loopw [3,4,5] (fun v3 v4 v5 wr=>∃(i:Nat) (t:ByteArray),v3 = .string t∧v5 = .int .i64 i∧i≤nl∧Made1 xs i w.heap.size t v4 wr∧Gr w wr) (fun _ _ v5 _=>nl-(intOf v5).toNat)
 case atStart=>exact⟨0,⟨#[]⟩,rfl,rfl,by omega,⟨rfl,World.ownsRow_nil ..,by simp[linesOf],fun j x hj=>by omega⟩,Gr.refl _⟩
 case round =>
  obtain⟨i,t,rfl,rfl,hi,hp,hg⟩:=hrel;have hts:=hp.len (by have:=HNL.out;omega) (by omega) HSUM.out;have HP:=Lib.hid hp;clear hp;by_cases hin:i<nl
  · as_aux_lemma =>
    have e1:decide ((i:Int)<(nl:Int))=true:=by simp;omega
    have e1n:decide (i<nl)=true:=by simp;omega
    have i1:(0:Int)≤(i:Int):=by omega
    have i2:(i:Int)<(nl:Int):=by omega
    have wi:IntKind.i64.wrap ((i:Int)+1)=(i:Int)+1:=IntWalk.i64_in _ ⟨by omega,by omega⟩;obtain⟨x,hx⟩:∃x,xs[i]?=some x:=⟨_,List.getElem?_eq_getElem (by have:=HNL.out;omega)⟩
    obtain⟨b,off,rfl,hat,hk256,hb256,hws⟩:=HL.out.cell i x hx;obtain⟨c0,c1,c2,c3,hblt⟩:=hat.gr hg;have hwsum:wsum x≤1048576:=by
     have h1:wsum x∈xs.map wsum:=List.mem_map_of_mem (List.mem_of_getElem? hx);have h2:=mem_le_sum h1;have:=HSUM.out;omega
    have HX:=Lib.hid hx;have HG:=Lib.hid hg;have HWSX:=Lib.hid hws;have HWSUM:=Lib.hid hwsum;clear hx hat hg hws hwsum;obtain⟨xk,xa,xc,xw,xv,xb⟩:=x;simp only at c0 c1 c2 c3 hk256 hb256 HWSX;obtain⟨nw,hnw⟩:∃n,xw.length=n:=⟨_,rfl⟩
    have HNW:=Lib.hid hnw;rw[hnw]at c1;clear hnw;obtain⟨W1,hW1⟩:∃W,wr.alloc (.cells #[.int .u8 xk,.slice xa nw xc,.string xv,.int .u8 xb] 51)=W:=⟨_,rfl⟩
    have g1:Gr wr W1:=by rw[←hW1];exact (Gr.refl _).alloc _
    have hB1:W1.heap[wr.heap.size]?=some (.cells #[.int .u8 xk,.slice xa nw xc,.string xv,.int .u8 xb] 51 (0,0)):=by rw[←hW1];exact heap_alloc_new wr _
    have HB1:=Lib.hid hB1;have HG1:=Lib.hid g1;have hx0:W1.cell? ⟨wr.heap.size,0,none⟩=some (.int .u8 xk):=by rw[cell_of_block hB1];rfl
    have hx1:W1.cell? ⟨wr.heap.size,1,none⟩=some (.slice xa nw xc):=by rw[cell_of_block hB1];rfl
    have hx2:W1.cell? ⟨wr.heap.size,2,none⟩=some (.string xv):=by rw[cell_of_block hB1];rfl
    have hx3:W1.cell? ⟨wr.heap.size,3,none⟩=some (.int .u8 xb):=by rw[cell_of_block hB1];rfl
    have hxl:wr.heap.size<W1.heap.size:=(Array.getElem?_eq_some_iff.1 hB1).1;clear hB1 g1
    go_upto_region 9 with fail
    try rw[hW1]
    clear hW1 c0 c1 c2 c3;have hcase:((((nw:Int)==0)=true)∨(((nw:Int)==0)=false∧decide ((5:Int)<(nw:Int))=true)∨(((nw:Int)==0)=false∧decide ((5:Int)<(nw:Int))=false∧decide ((80:Int)<(xv.size:Int))=true))∨(0<nw∧nw≤5∧xv.size≤80):=by
     by_cases a1:nw=0
     · exact .inl (.inl (by simp[a1]))
     by_cases a2:5<nw
     · exact .inl (.inr (.inl ⟨by simp;omega,by simp;omega⟩))
     by_cases a3:80<xv.size
     · exact .inl (.inr (.inr ⟨by simp;omega,by simp;omega,by simp;omega⟩))
     exact .inr ⟨by omega,by omega,by omega⟩
    rcases hcase with hc|⟨hn0,hn5,hv80⟩
    · have HGW:=Lib.hid (HG.out.trans HG1.out);rcases hc with q1|⟨q1,q2⟩|⟨q1,q2,q3⟩
      all_goals
       go_wp2_with fail;refine (lb_lives _ (HW.out.gr HGW.out)).mono ?_;rintro e w2 ⟨rfl,g2⟩;go_wp2_with fail;exact bodyPost_ret (v := .bool true) (by simp[results,Tryz.results4,go_sem]) rfl ⟨rfl,HGW.out.trans g2⟩
    have q1:((nw:Int)==0)=false:=by simp;omega
    have q2:decide ((5:Int)<(nw:Int))=false:=by simp;omega
    have q3:decide ((80:Int)<(xv.size:Int))=false:=by simp;omega
    obtain⟨X,hX⟩:∃X,Pl.readS (Pl.envT Pl.tab0) (bs xv) 0 0=X:=⟨_,rfl⟩
    have HTOT:=Lib.hid (Pl.readS_tot (Pl.envT_ok Pl.tab0) (bs xv) (by rw[bs_length];omega) 0 0 (by omega));rw[hX]at HTOT;have HGW:=Lib.hid (HG.out.trans HG1.out);have HR:=Lib.hid (tv_Read W1 (HW.out.gr HGW.out) xv (by omega) 0 0 rfl (by omega) 0 0 (by decide) X hX HTOT.out.1);have HXX:=Lib.hid hX;clear hX;go_wp2_with fail;refine HR.out.mono ?_;cases X with
    | non=>exact absurd rfl HTOT.out.1
    | bad c p =>
     rintro e w2 ⟨rfl,hc,g2⟩;have hc':¬(c:Int)=0:=by omega
     have HG2:=Lib.hid (HGW.out.trans g2);clear g2;go_wp2_with fail;refine (lb_lives _ (HW.out.gr ((HG2.out.alloc _).alloc _))).mono ?_;rintro e w3 ⟨rfl,g3⟩;go_wp2_with fail;exact bodyPost_ret (v := .bool true) (by simp[results,Tryz.results4,go_sem]) rfl ⟨rfl,((HG2.out.alloc _).alloc _).trans g3⟩
    | ok v =>
     obtain⟨root,m,st⟩:=v;rintro e w2 ⟨g,L,rfl,hm,hri,hL,hT,g2⟩;have HG2:=Lib.hid (HGW.out.trans g2);have HG12:=Lib.hid g2;have hx0':=(g2.use.1 _ _ hxl).trans hx0;have hx1':=(g2.use.1 _ _ hxl).trans hx1;have hx2':=(g2.use.1 _ _ hxl).trans hx2;have hx3':=(g2.use.1 _ _ hxl).trans hx3;have hxl':=Nat.lt_of_lt_of_le hxl g2.size;clear g2 hT hL hx0 hx1 hx2 hx3 hxl;by_cases hme:m=xv.size
     · subst hme;have q4:((xv.size:Int) != (xv.size:Int))=false:=by simp
       go_upto_region 14 with fail
       obtain⟨W3,hW3⟩:∃W,(w2.alloc (.cells #[.slice (some ⟨g,0,none⟩) st.length st.length,.int .i64 root] 28)).alloc (.cells #[.int .i64 0,.int .i64 0] 31)=W:=⟨_,rfl⟩
       have g23:Gr w2 W3:=by rw[←hW3];exact ((Gr.refl _).alloc _).alloc _
       try rw[hW3]
       have x0:=(g23.use.1 _ _ hxl').trans hx0';have x1:=(g23.use.1 _ _ hxl').trans hx1';have x2:=(g23.use.1 _ _ hxl').trans hx2';have x3:=(g23.use.1 _ _ hxl').trans hx3';have xl:=Nat.lt_of_lt_of_le hxl' g23.size;have HG3:=Lib.hid (HG2.out.trans g23);have HR3:=Lib.hid (HG1.out.trans (HG12.out.trans g23));clear hW3 g23 hx0' hx1' hx2' hx3' hxl' hri;have hsp:=sp_repeat (xb % 3) (by omega) W3;rw[show (((xb % 3:Nat)):Int)=(xb:Int) % 3 by omega]at hsp;have HSP:=Lib.hid hsp;clear hsp;go_wp2_with fail;refine HSP.out.mono ?_;rintro e w4 ⟨ba,rfl,hba,g4⟩;have hsa:ba.size≤2:=by rw[←bs_length,hba,Pl.spn_len];omega
       have HBA:=Lib.hid hba;obtain⟨zt,hzt,hbt,hmt,hst⟩:=tailTs_of (xb / 3 % 4) (Nat.mod_lt _ (by decide));have HBT:=Lib.hid hbt;have y0:=(g4.use.1 _ _ xl).trans x0;have y1:=(g4.use.1 _ _ xl).trans x1;have y2:=(g4.use.1 _ _ xl).trans x2;have y3:=(g4.use.1 _ _ xl).trans x3;have yl:=Nat.lt_of_lt_of_le xl g4.size;have HG4:=Lib.hid (HG3.out.trans g4);have HR4:=Lib.hid (HR3.out.trans g4);have n1:(0:Int)≤(xb:Int) / 3 % 4:=by omega
       have n2:(xb:Int) / 3 % 4<4:=by omega
       have n3:(#[.string ⟨#[10]⟩,.string ⟨#[13,10]⟩,.string ⟨#[32,35,32,99,32,61,32,91,10]⟩,.string ⟨#[9,35,13,10]⟩]:Array Value)[xb / 3 % 4]?=some (.string zt):=by
        have:(tailTs.map Value.string)[xb / 3 % 4]?=some (.string zt):=by rw[List.getElem?_map,hzt];rfl
        simpa using this
       clear hba hzt hbt hmt x0 x1 x2 x3 xl HSP
       go_upto_region 16 with fail
       obtain⟨W5,hW5⟩:∃W,w4.alloc (.cells #[.string ⟨#[10]⟩,.string ⟨#[13,10]⟩,.string ⟨#[32,35,32,99,32,61,32,91,10]⟩,.string ⟨#[9,35,13,10]⟩] 9)=W:=⟨_,rfl⟩
       have g45:Gr w4 W5:=by rw[←hW5];exact (Gr.refl _).alloc _
       try rw[hW5]
       have z0:=(g45.use.1 _ _ yl).trans y0;have z1:=(g45.use.1 _ _ yl).trans y1;have z2:=(g45.use.1 _ _ yl).trans y2;have zl:=Nat.lt_of_lt_of_le yl g45.size;have HG5:=Lib.hid (HG4.out.trans g45);have HR5:=Lib.hid (HR4.out.trans g45);clear hW5 g45 y0 y1 y2 y3 yl n1 n2 n3;obtain⟨w0,hw0⟩:∃z,xw[0]?=some z:=⟨_,List.getElem?_eq_getElem (by have:=HNW.out;omega)⟩
       obtain⟨bw,ow,hbw,_,_⟩:=HWSX.out.cell 0 w0 hw0;subst hbw;have hsz:∀z∈xw,z.size≤1100000:=fun z hz=>by
        have h1:z.size≤(xw.map (·.size)).sum:=mem_le_sum (List.mem_map_of_mem hz);have h2:(xw.map (·.size)).sum≤1048576:=HWSUM.out;omega
       have hwr:=tk_Write bw ow xc xw W5 (HW.out.gr HG5.out).2.2 (by have:=HNW.out;omega) (by have:=HNW.out;omega) hsz (fun j z hz=>by
        obtain⟨b',o',h1,_,h2⟩:=(HWSX.out.gr HG5.out).cell j z hz;cases h1;exact h2)
       obtain⟨kz,hkz⟩:∃q,(⟨(Lib.join ((xw.map wz).map (·.data.toList)) [46]).toArray⟩:ByteArray)=q:=⟨_,rfl⟩
       rw[hkz,HNW.out]at hwr;have hkb:bs kz=Pl.keyT (xw.map bs):=by rw[←hkz,←keyT_join]
       have hks:kz.size≤6291480:=by
        have h1:=keyT_le xw;have h2:(xw.map (·.size)).sum≤1048576:=HWSUM.out;have h3:=HNW.out;rw[←hkb,bs_length]at h1;omega
       have HKB:=Lib.hid hkb;have HWRT:=Lib.hid hwr;clear hw0 hsz hwr hkz hkb;go_wp2_with fail;refine HWRT.out.mono ?_;rintro e w6 ⟨rfl,g6⟩;have y0:=(g6.use.1 _ _ zl).trans z0;have y2:=(g6.use.1 _ _ zl).trans z2;have yl:=Nat.lt_of_lt_of_le zl g6.size;have HG6:=Lib.hid (HG5.out.trans g6);have HROW:=Lib.hid (own_gr HP.out.row (HR5.out.trans g6));have hzw:w.heap.size≤w6.heap.size:=HG6.out.size;clear z0 z1 z2 zl g6 HWRT;obtain⟨iK,hI⟩:∃i,Tryz.prog.info? 49=some i∧i.zero=some (.int .u8 0)∧i.size=1∧i.bytes=1:=by
        obtain⟨i,h1,h2⟩:=Option.map_eq_some_iff.1 infoLK;simp only[Prod.mk.injEq]at h2;exact⟨i,h1,h2⟩
       have HI:=Lib.hid hI;clear hI
       go_upto_region 18 with (at_builtin;refine wpList_append_lies _ rfl (.tmp 82) (.tmp 86) 48 rfl w.heap.size 49 iK (.int .u8 0) 1 1 Tryz.underlying48 HI.out.1 HI.out.2.1 HI.out.2.2.1 HI.out.2.2.2 rfl (by decide) _ i _ rfl (own_gr HROW.out ((Gr.refl _).alloc _)) ⟨_,0,none⟩ 1 1 [.int .u8 ((xk:Int) % 4)] rfl rfl (cells_new _ [.int .u8 ((xk:Int) % 4)] _ _ (by simp)) (by simp[Value.oneCell']) (by decide) (by unfold maxLen;omega) (by omega) (by simp;omega) _ rfl ?_;intro gb cap w7 hown7 hg7 hl7 hz7)
       have hg7':=gr_grown (HG6.out.alloc _) hg7 (own_low HROW.out);have hxb:w7.heap[wr.heap.size]?=w6.heap[wr.heap.size]? :=
        (hg7.block wr.heap.size (by simp;omega) (fun e=>by have:=(HP.out.row.lt wr.heap.size e.symm).2;omega)).trans (((Gr.refl w6).alloc _).block yl)
       have v0:=(World.cell?_of_block (w:=w6) (w':=w7) (a:=⟨wr.heap.size,0,none⟩) hxb).trans y0;have v2:=(World.cell?_of_block (w:=w6) (w':=w7) (a:=⟨wr.heap.size,2,none⟩) hxb).trans y2;have hok:Pl.LineOk (lineOf ⟨xk,some ⟨bw,ow,none⟩,xc,xw,xv,xb⟩):=by
        refine⟨by show xk % 4≤3;omega,?_,?_,root,st,?_⟩
        · show Pl.tails4.getD (xb / 3 % 4) []∈Pl.tails4;obtain⟨z,_,h2,h3,_⟩:=tailTs_of (xb / 3 % 4) (Nat.mod_lt _ (by decide));rw[←h2];exact h3
        · show xw.map bs≠[];intro h;have:=congrArg List.length h;rw[List.length_map,HNW.out,List.length_nil]at this;omega
        show Pl.readS (Pl.envT Pl.tab0) (bs xv) 0 0 = .ok (root,(bs xv).length,st);rw[bs_length];exact HXX.out
       have hstep:∀T:ByteArray,bs T=(linesOf xs i).flatMap Pl.lineT++Pl.lineT (lineOf ⟨xk,some ⟨bw,ow,none⟩,xc,xw,xv,xb⟩)→Made1 xs (i+1) w.heap.size T (.slice (some ⟨gb,0,none⟩) (i+1) cap) w7:=fun T hT=>by
        refine⟨?_,?_,?_,?_⟩
        · rw[linesOf_succ HX.out,List.flatMap_append,hT];simp
        · rw[linesOf_succ HX.out,List.map_append];exact hown7
        · intro y hy;rw[linesOf_succ HX.out]at hy;rcases List.mem_append.1 hy with hy|hy
          · exact HP.out.ok y hy
          rw[List.mem_singleton.1 hy];exact hok
        intro j y hj hy;by_cases hji:j=i
        · subst hji;rw[HX.out]at hy;cases hy;exact⟨by show xw.length≤5;have:=HNW.out;omega,hv80⟩
        exact HP.out.at' j y (by omega) hy
       obtain⟨t0,t1,t2,t3⟩:=line_txt ⟨xk,some ⟨bw,ow,none⟩,xc,xw,xv,xb⟩ (t:=t) (a:=ba) (k:=kz) (z:=zt) HP.out.txt HBA.out HKB.out HBT.out;have HSTEP:=Lib.hid hstep;have HT0:=Lib.hid t0;have HT1:=Lib.hid t1;have HT2:=Lib.hid t2;have HT3:=Lib.hid t3;clear hok hstep t0 t1 t2 t3 hown7 hg7 hl7 hz7 y0 y2 yl hxb;have hk4:xk % 4=0∨xk % 4=1∨xk % 4=2∨xk % 4=3:=by omega
       rcases hk4 with hk4|hk4|hk4|hk4
       · have s0:((xk:Int) % 4==0)=true:=by simp;omega
         go_wp2_with fail
         go_roundw
         case rel=>first|exact⟨i+1,_,rfl,by go_num,by omega,HSTEP.out _ (HT0.out hk4),hg7'⟩|((repeat apply Exists.intro);exact⟨⟨i+1,_,rfl,rfl,by omega,HSTEP.out _ (HT0.out hk4),hg7'⟩,rfl⟩)
         case measure=>simp[intOf];omega
       · have s0:((xk:Int) % 4==0)=false:=by simp;omega
         have s1:((xk:Int) % 4==1)=true:=by simp;omega
         go_wp2_with fail
         go_roundw
         case rel=>first|exact⟨i+1,_,rfl,by go_num,by omega,HSTEP.out _ (HT1.out hk4),hg7'⟩|((repeat apply Exists.intro);exact⟨⟨i+1,_,rfl,rfl,by omega,HSTEP.out _ (HT1.out hk4),hg7'⟩,rfl⟩)
         case measure=>simp[intOf];omega
       · have s0:((xk:Int) % 4==0)=false:=by simp;omega
         have s1:((xk:Int) % 4==1)=false:=by simp;omega
         have s2:((xk:Int) % 4==2)=true:=by simp;omega
         go_wp2_with fail
         go_roundw
         case rel=>first|exact⟨i+1,_,rfl,by go_num,by omega,HSTEP.out _ (HT2.out hk4),hg7'⟩|((repeat apply Exists.intro);exact⟨⟨i+1,_,rfl,rfl,by omega,HSTEP.out _ (HT2.out hk4),hg7'⟩,rfl⟩)
         case measure=>simp[intOf];omega
       have s0:((xk:Int) % 4==0)=false:=by simp;omega
       have s1:((xk:Int) % 4==1)=false:=by simp;omega
       have s2:((xk:Int) % 4==2)=false:=by simp;omega
       go_wp2_with fail
       go_roundw
       case rel=>first|exact⟨i+1,_,rfl,by go_num,by omega,HSTEP.out _ (HT3.out hk4),hg7'⟩|((repeat apply Exists.intro);exact⟨⟨i+1,_,rfl,rfl,by omega,HSTEP.out _ (HT3.out hk4),hg7'⟩,rfl⟩)
       case measure=>simp[intOf];omega
     have q4:((m:Int) != (xv.size:Int))=true:=by simp;omega
     go_wp2_with fail;refine (lb_lives _ (HW.out.gr ((HG2.out.alloc _).alloc _))).mono ?_;rintro e w3 ⟨rfl,g3⟩;go_wp2_with fail;exact bodyPost_ret (v := .bool true) (by simp[results,Tryz.results4,go_sem]) rfl ⟨rfl,((HG2.out.alloc _).alloc _).trans g3⟩
  have e1:decide ((i:Int)<(nl:Int))=false:=by simp;omega
  have e1n:decide (i<nl)=false:=by simp;omega
  obtain rfl:i=nl:=by omega
  have HGW:=Lib.hid hg;clear hg;obtain⟨items,hall,hA2⟩:=Pl.made_law (linesOf xs i) HP.out.ok (by rw[←HP.out.txt,bs_length];omega);rw[←HP.out.txt]at hall hA2;have hln:(linesOf xs i).length=i:=linesOf_len (by have:=HNL.out;omega);have hil:items.length=i:=by rw[Pl.All2.len hA2,hln]
  have HR:=Lib.hid (tl_All Pl.tab0 t (by omega) wr (HW.out.gr HGW.out) _ hall);have HA2:=Lib.hid hA2;have HIL:=Lib.hid hil;clear hall hA2 hln hil;go_wp2_with fail;refine HR.out.mono ?_;intro e w1 hp1;obtain⟨oa,ca,rfl,g1,hrowA⟩:=AllPost.rows (show AllPost t wr (.ok items) e w1 from hp1);have HRW:=Lib.hid hrowA;have HG1:=Lib.hid g1;have e5:((i:Int) != (i:Int))=false:=by simp
  rw[HIL.out];clear hrowA g1 hp1 HR;go_wp2_with fail;obtain⟨WW,hWW⟩:∃W,w1.alloc (.cells #[.int .i64 0,.int .i64 0] 31)=W:=⟨_,rfl⟩
  try rw[hWW]
  have gW:Gr w1 WW:=by rw[←hWW];exact (Gr.refl _).alloc _
  have HGW1:=Lib.hid gW;clear hWW gW
  go_loopw [15] (fun v15 wq=>∃j:Nat,v15 = .int .i64 j∧j≤i∧Gr WW wq) (fun v15 _=>i-(intOf v15).toNat)
  case atStart=>exact⟨0,rfl,by omega,Gr.refl _⟩
  case round =>
   obtain⟨j,rfl,hj,hgq⟩:=hrel;by_cases hji:j<i
   · as_aux_lemma =>
     have f1:decide ((j:Int)<(i:Int))=true:=by simp;omega
     have f1n:decide (j<i)=true:=by simp;omega
     have i1:(0:Int)≤(j:Int):=by omega
     have i2:(j:Int)<(i:Int):=by omega
     have wj:IntKind.i64.wrap ((j:Int)+1)=(j:Int)+1:=IntWalk.i64_in _ ⟨by omega,by omega⟩;obtain⟨x,hx⟩:∃x,xs[j]?=some x:=⟨_,List.getElem?_eq_getElem (by have:=HNL.out;omega)⟩
     obtain⟨b,off,rfl,hat,_,_,hws⟩:=HL.out.cell j x hx;have g1q:Gr w1 wr:=HGW1.out.trans hgq;have gwq:Gr w wr:=HGW.out.trans (HG1.out.trans g1q);have hat':=hat.gr gwq;obtain⟨it,hit,hitl⟩:=all2_back HA2.out j (lineOf x) (linesOf_at hji hx);obtain⟨g,hoa,hra⟩:=HRW.out (fun e=>by rw[e]at hit;simp at hit);subst hoa;obtain⟨kx,sx,nx,hmx,hcx⟩:=(hra.gr g1q).at' j it hit;have hra':=(hra.gr g1q).lt;have r0:wr.cell? ⟨g,j*9,none⟩=some (.int .u8 it.kind):=hcx 0 _ rfl;have r1:wr.cell? ⟨g,j*9+1,none⟩=some (.int .i64 it.a):=hcx 1 _ rfl;have r2:wr.cell? ⟨g,j*9+2,none⟩=some (.int .i64 it.b):=hcx 2 _ rfl;have r3:wr.cell? ⟨g,j*9+3,none⟩=some kx.v:=hcx 3 _ rfl;have r4:wr.cell? ⟨g,j*9+4,none⟩=some sx.v:=hcx 4 _ rfl;have r5:wr.cell? ⟨g,j*9+5,none⟩=some (.int .i64 it.va):=hcx 5 _ rfl;have r6:wr.cell? ⟨g,j*9+6,none⟩=some (.int .i64 it.vb):=hcx 6 _ rfl;have r7:wr.cell? ⟨g,j*9+7,none⟩=some nx.v:=hcx 7 _ rfl;have r8:wr.cell? ⟨g,j*9+8,none⟩=some (.int .i64 it.root):=hcx 8 _ rfl;obtain⟨gk,ck,hu4⟩:∃q c,u4 = .slice (some ⟨q,0,none⟩) i c:=by
      rcases own_form HP.out.row with⟨_,h⟩|⟨q,c,h,_,_⟩
      · omega
      exact⟨q,c,h⟩
     have hrow:=HP.out.row;rw[hu4]at hrow;have hgk:=(hrow.lt gk rfl).2;have grq:=HG1.out.trans g1q;have hck:=(grq.use.1 _ _ hgk).trans ((rowC_of hrow).cells (g:=gk) rfl j (.int .u8 ((lineOf x).kind:Int)) (by rw[List.getElem?_map,linesOf_at hji hx];rfl));have hgk':=Nat.lt_of_lt_of_le hgk grq.size;have hkd0:=hitl.kind;obtain⟨kd,hkd⟩:∃n,(lineOf x).kind=n:=⟨_,rfl⟩
     rw[hkd]at hck hkd0;have hkd3:kd≤3:=by rw[←hkd];show x.k % 4≤3;omega
     rw[hkd0]at r0;have h5:=(HP.out.at' j x hji hx).1;have HMX:=Lib.hid hmx;have HITL:=Lib.hid hitl;have HKD:=Lib.hid hkd;have HWSX:=Lib.hid (hws.gr gwq);have HQ:=Lib.hid hgq;subst hu4;clear hmx hcx hra hitl hkd hws hat hit hx hrow grq hgk hgq g1q
     go_upto_region 33 with fail
     obtain⟨W8,hW8⟩:∃W,wr.alloc (itO kd it.a it.b kx.v sx.v it.va it.vb nx.v it.root)=W:=⟨_,rfl⟩
     have g8:Gr wr W8:=by rw[←hW8];exact (Gr.refl _).alloc _
     have hB8:W8.heap[wr.heap.size]?=some (itO kd it.a it.b kx.v sx.v it.va it.vb nx.v it.root):=by rw[←hW8];exact heap_alloc_new wr _
     obtain⟨⟨k0,_,_,k3,_,k5,k6,_,_⟩,_,kl⟩:=itO_facts hB8;have hS0:MadS wr.heap.size gk j b (off+j*4) kd kx.v it.va it.vb (.slice x.aw x.ws.length x.cw) x.v W8 :=
      ⟨k0,k3,k5,k6,(g8.use.1 _ _ hgk').trans hck,(g8.use.1 _ _ hat'.lt).trans hat'.c1,(g8.use.1 _ _ hat'.lt).trans hat'.c2,kl,Nat.lt_of_lt_of_le hgk' g8.size,Nat.lt_of_lt_of_le hat'.lt g8.size⟩
     have hS:MadS wr.heap.size gk j b (off+j*4) kd kx.v it.va it.vb (.slice x.aw x.ws.length x.cw) x.v W8.drew:=hS0.gr (Gr.refl _).drew;have HGQ:=Lib.hid (HQ.out.trans g8);have u0:((kd:Int) != (kd:Int))=false:=by simp
     rw[show wr.alloc (.cells #[.int .u8 kd,.int .i64 it.a,.int .i64 it.b,kx.v,sx.v,.int .i64 it.va,.int .i64 it.vb,nx.v,.int .i64 it.root] 59)=W8 from hW8];by_cases hk0:kd=0
     · as_aux_lemma =>
       have u1:((kd:Int) != 0)=false:=by simp;omega
       have u2:((kd:Int)==1)=false:=by simp;omega
       clear hW8 k0 k3 k5 k6 kl hB8 g8 r0 r1 r2 r3 r4 r5 r6 r7 r8;refine Reg.begin' (W:=fun _=>true) (S:=MadS wr.heap.size gk j b (off+j*4) kd kx.v it.va it.vb (.slice x.aw x.ws.length x.cw) x.v) (by kernel_rfl) ?_;refine Reg.ty 0 ?_;refine Reg.tl 1 hS ?_ (hy:=by intro w hSw;obtain⟨k0,k3,k5,k6,kk,w1,w2,l1,l2,l3⟩:=hSw;go_simp;try with_reducible rfl);refine Reg.ty 2 ?_;refine Reg.ty 3 ?_;refine Reg.ty 4 ?_;refine Reg.tl 5 hS ?_ (hy:=by intro w hSw;obtain⟨k0,k3,k5,k6,kk,w1,w2,l1,l2,l3⟩:=hSw;go_simp;try with_reducible rfl);refine Reg.ty 6 ?_;refine Reg.ty 7 ?_;refine Reg.ty 8 ?_;refine Reg.tl 9 hS ?_ (hy:=by intro w hSw;obtain⟨k0,k3,k5,k6,kk,w1,w2,l1,l2,l3⟩:=hSw;go_simp;try with_reducible rfl);refine Reg.ty 10 ?_;refine Reg.ty 11 ?_;refine Reg.sk 12 ?_;refine Reg.sk 13 ?_;refine Reg.sk 14 ?_;refine Reg.sk 15 ?_;refine Reg.sk 16 ?_;refine Reg.sk 17 ?_;refine Reg.sk 18 ?_;refine Reg.sk 19 ?_;refine Reg.sk 20 ?_;refine Reg.sk 21 ?_;refine Reg.ty 22 ?_;refine Reg.ty 23 ?_;refine Reg.ty 24 ?_;refine Reg.ty 25 ?_;refine Reg.tl 26 hS ?_ (hy:=by intro w hSw;obtain⟨k0,k3,k5,k6,kk,w1,w2,l1,l2,l3⟩:=hSw;go_simp;try with_reducible rfl);refine Reg.ty 27 ?_;refine Reg.ty 28 ?_;refine Reg.sk 29 ?_;refine Reg.sk 30 ?_;refine Reg.sk 31 ?_;refine Reg.sk 32 ?_;refine Reg.sk 33 ?_;refine Reg.sk 34 ?_;refine Reg.sk 35 ?_;refine Reg.sk 36 ?_;refine Reg.sk 37 ?_;refine Reg.sk 38 ?_;refine Reg.sk 39 ?_;refine Reg.sk 40 ?_;refine Reg.sk 41 ?_;refine Reg.sk 42 ?_;refine Reg.ty 43 ?_;refine Reg.ty 44 ?_;refine Reg.done (by kernel_rfl) ?_ _;have gR:=HGQ.out.drew;clear hS hS0;go_wp2_with fail
       go_roundw
       case rel=>first|exact⟨j+1,by go_num,by omega,gR⟩|((repeat apply Exists.intro);exact⟨⟨j+1,rfl,by omega,gR⟩,rfl⟩)
       case measure=>simp[intOf];omega
     have u1:((kd:Int) != 0)=true:=by simp;omega
     have hwsE:keyWords it.ws=x.ws.map bs:=HITL.out.ws (by rw[HKD.out];exact hk0);have hwl:it.ws.length=x.ws.length:=by have:=congrArg List.length hwsE;simpa [keyWords]using this
     have hrk:=HMX.out.k;rw[hwsE,hwl]at hrk;have HSW:=Lib.hid (la_sameW W8.drew (n:=x.ws.length) (zs:=x.ws) rfl (hrk.of_block fun q e=>(g8.drew).block (hrk.lt q e).2) x.aw x.cw (fun j' z hz=>by
      obtain⟨b',o',h1,_,h3⟩:=(HWSX.out.gr g8.drew).cell j' z hz;exact⟨b',o',h1,h3⟩) (by omega))
     clear hW8 k0 k3 k5 k6 kl hB8 r0 r1 r2 r3 r4 r5 r6 r7 r8 hrk;by_cases hk1:kd=1
     · as_aux_lemma =>
       have u2:((kd:Int)==1)=true:=by simp;omega
       obtain⟨p1,p2,p3⟩:=HITL.out.val (by rw[HKD.out];exact hk1);rw[bs_length]at p2;have hcut:t.extract it.va it.vb=x.v:=bs_inj (by rw[bs_cut];exact p3);have p4:(0:Int)≤(it.va:Int):=by omega
       have p5:(it.va:Int)≤(it.vb:Int):=by omega
       have p6:(it.vb:Int)≤(t.size:Int):=by omega
       have p7:((t.extract it.va it.vb).toList==x.v.toList)=true:=by rw[hcut];simp
       have p8:((t.extract it.va it.vb).toList != x.v.toList)=false:=by rw[hcut];simp
       clear hcut hk1;refine Reg.begin' (W:=fun _=>true) (S:=MadS wr.heap.size gk j b (off+j*4) kd kx.v it.va it.vb (.slice x.aw x.ws.length x.cw) x.v) (by kernel_rfl) ?_;refine Reg.ty 0 ?_;refine Reg.tl 1 hS ?_ (hy:=by intro w hSw;obtain⟨k0,k3,k5,k6,kk,w1,w2,l1,l2,l3⟩:=hSw;go_simp;try with_reducible rfl);refine Reg.ty 2 ?_;refine Reg.ty 3 ?_;refine Reg.ty 4 ?_;refine Reg.tl 5 hS ?_ (hy:=by intro w hSw;obtain⟨k0,k3,k5,k6,kk,w1,w2,l1,l2,l3⟩:=hSw;go_simp;try with_reducible rfl);refine Reg.ty 6 ?_;refine Reg.ty 7 ?_;refine Reg.ty 8 ?_;refine Reg.tl 9 hS ?_ (hy:=by intro w hSw;obtain⟨k0,k3,k5,k6,kk,w1,w2,l1,l2,l3⟩:=hSw;go_simp;try with_reducible rfl);refine Reg.ty 10 ?_;refine Reg.ty 11 ?_;refine Reg.ty 12 ?_;refine Reg.ty 13 ?_;refine Reg.tl 14 hS ?_ (hy:=by intro w hSw;obtain⟨k0,k3,k5,k6,kk,w1,w2,l1,l2,l3⟩:=hSw;go_simp;try with_reducible rfl);refine Reg.ty 15 ?_;refine Reg.ty 16 ?_;refine Reg.ty 17 ?_;refine Reg.ty 18 ?_;refine Reg.tl 19 hS ?_ (hy:=by intro w hSw;obtain⟨k0,k3,k5,k6,kk,w1,w2,l1,l2,l3⟩:=hSw;go_simp;try with_reducible rfl);refine Reg.on 20 ?_;go_simp;refine HSW.out.mono ?_;rintro e w9 ⟨rfl,g9⟩;have hS9:=hS.gr g9;refine⟨by first|exact hS9|exact fun _=>hS9|exact fun _ _=>hS9,?_⟩;refine Reg.pt ?_;refine Reg.ty 21 ?_;refine Reg.ty 22 ?_;refine Reg.ty 23 ?_;refine Reg.ty 24 ?_;refine Reg.ty 25 ?_;refine Reg.tl 26 hS9 ?_ (hy:=by intro w hSw;obtain⟨k0,k3,k5,k6,kk,w1,w2,l1,l2,l3⟩:=hSw;go_simp;try with_reducible rfl);refine Reg.ty 27 ?_;refine Reg.ty 28 ?_;refine Reg.ty 29 ?_;refine Reg.ty 30 ?_;refine Reg.ty 31 ?_;refine Reg.tl 32 hS9 ?_ (hy:=by intro w hSw;obtain⟨k0,k3,k5,k6,kk,w1,w2,l1,l2,l3⟩:=hSw;go_simp;try with_reducible rfl);refine Reg.ty 33 ?_;refine Reg.ty 34 ?_;refine Reg.tl 35 hS9 ?_ (hy:=by intro w hSw;obtain⟨k0,k3,k5,k6,kk,w1,w2,l1,l2,l3⟩:=hSw;go_simp;try with_reducible rfl);refine Reg.ty 36 ?_;refine Reg.ty 37 ?_;refine Reg.ty 38 ?_;refine Reg.ty 39 ?_;refine Reg.ty 40 ?_;refine Reg.tl 41 hS9 ?_ (hy:=by intro w hSw;obtain⟨k0,k3,k5,k6,kk,w1,w2,l1,l2,l3⟩:=hSw;go_simp;try with_reducible rfl);refine Reg.ty 42 ?_;refine Reg.ty 43 ?_;refine Reg.ty 44 ?_;refine Reg.done (by kernel_rfl) ?_ _;have gR:=HGQ.out.drew.trans g9;clear hS hS0 hS9 g9;go_wp2_with fail
       go_roundw
       case rel=>first|exact⟨j+1,by go_num,by omega,gR⟩|((repeat apply Exists.intro);exact⟨⟨j+1,rfl,by omega,gR⟩,rfl⟩)
       case measure=>simp[intOf];omega
     as_aux_lemma =>
     have u2:((kd:Int)==1)=false:=by simp;omega
     refine Reg.begin' (W:=fun _=>true) (S:=MadS wr.heap.size gk j b (off+j*4) kd kx.v it.va it.vb (.slice x.aw x.ws.length x.cw) x.v) (by kernel_rfl) ?_;refine Reg.ty 0 ?_;refine Reg.tl 1 hS ?_ (hy:=by intro w hSw;obtain⟨k0,k3,k5,k6,kk,w1,w2,l1,l2,l3⟩:=hSw;go_simp;try with_reducible rfl);refine Reg.ty 2 ?_;refine Reg.ty 3 ?_;refine Reg.ty 4 ?_;refine Reg.tl 5 hS ?_ (hy:=by intro w hSw;obtain⟨k0,k3,k5,k6,kk,w1,w2,l1,l2,l3⟩:=hSw;go_simp;try with_reducible rfl);refine Reg.ty 6 ?_;refine Reg.ty 7 ?_;refine Reg.ty 8 ?_;refine Reg.tl 9 hS ?_ (hy:=by intro w hSw;obtain⟨k0,k3,k5,k6,kk,w1,w2,l1,l2,l3⟩:=hSw;go_simp;try with_reducible rfl);refine Reg.ty 10 ?_;refine Reg.ty 11 ?_;refine Reg.ty 12 ?_;refine Reg.ty 13 ?_;refine Reg.tl 14 hS ?_ (hy:=by intro w hSw;obtain⟨k0,k3,k5,k6,kk,w1,w2,l1,l2,l3⟩:=hSw;go_simp;try with_reducible rfl);refine Reg.ty 15 ?_;refine Reg.ty 16 ?_;refine Reg.ty 17 ?_;refine Reg.ty 18 ?_;refine Reg.tl 19 hS ?_ (hy:=by intro w hSw;obtain⟨k0,k3,k5,k6,kk,w1,w2,l1,l2,l3⟩:=hSw;go_simp;try with_reducible rfl);refine Reg.on 20 ?_;go_simp;refine HSW.out.mono ?_;rintro e w9 ⟨rfl,g9⟩;have hS9:=hS.gr g9;refine⟨by first|exact hS9|exact fun _=>hS9|exact fun _ _=>hS9,?_⟩;refine Reg.pt ?_;refine Reg.ty 21 ?_;refine Reg.ty 22 ?_;refine Reg.ty 23 ?_;refine Reg.ty 24 ?_;refine Reg.ty 25 ?_;refine Reg.tl 26 hS9 ?_ (hy:=by intro w hSw;obtain⟨k0,k3,k5,k6,kk,w1,w2,l1,l2,l3⟩:=hSw;go_simp;try with_reducible rfl);refine Reg.ty 27 ?_;refine Reg.ty 28 ?_;refine Reg.sk 29 ?_;refine Reg.sk 30 ?_;refine Reg.sk 31 ?_;refine Reg.sk 32 ?_;refine Reg.sk 33 ?_;refine Reg.sk 34 ?_;refine Reg.sk 35 ?_;refine Reg.sk 36 ?_;refine Reg.sk 37 ?_;refine Reg.sk 38 ?_;refine Reg.sk 39 ?_;refine Reg.sk 40 ?_;refine Reg.sk 41 ?_;refine Reg.sk 42 ?_;refine Reg.ty 43 ?_;refine Reg.ty 44 ?_;refine Reg.done (by kernel_rfl) ?_ _;have gR:=HGQ.out.drew.trans g9;clear hS hS0 hS9 g9;go_wp2_with fail
     go_roundw
     case rel=>first|exact⟨j+1,by go_num,by omega,gR⟩|((repeat apply Exists.intro);exact⟨⟨j+1,rfl,by omega,gR⟩,rfl⟩)
     case measure=>simp[intOf];omega
   have f1:decide ((j:Int)<(i:Int))=false:=by simp;omega
   have f1n:decide (j<i)=false:=by simp;omega
   have HEND:=Lib.hid (HGW.out.trans (HG1.out.trans (HGW1.out.trans hgq)));clear hgq;go_wp2_with fail;refine (lb_lives _ (HW.out.gr HEND.out)).mono ?_;rintro e w4 ⟨rfl,g4⟩;go_wp2_with fail;exact bodyPost_ret (v := .bool true) (by simp[results,Tryz.results4,go_sem]) rfl ⟨rfl,HEND.out.trans g4⟩
end Go.Proofs.YtkplelejagpkmaaGreatDoor
