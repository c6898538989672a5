/-
 The walks and plain laws that the claim rests on, part 38.
-/
import Derived.Test.YtfogfaagjpebcaaGreatDoorP00
import Derived.Test.YtfogfaagjpebcaaGreatDoorP04
import Derived.Test.YtfogfaagjpebcaaGreatDoorP30
set_option maxHeartbeats 16000000
set_option linter.all false
set_option linter.unusedVariables false
set_option linter.unusedSimpArgs false
namespace Go.Proofs.YtfogfaagjpebcaaGreatDoor
open Go.RowKit Go.Shelf Go.Joins
attribute [local go_sem] Oper.semAt_some
theorem BodyPost.form {s:ByteArray} {I:Nat} {w w':World} {X:Pl.Res (Nat × Pl.It)} {e:Ending} (h:BodyPost s I w X e w') (hne:X ≠ .non):∃x y z:Int,e = .returned (.tuple #[.int .i64 x,.agg #[.int .i64 y,.int .i64 z]]):=by
 cases X with
 | non=>exact absurd rfl hne
 | bad c p=>exact⟨_,_,_,h.1⟩
 | ok r=>exact⟨_,_,_,h.1⟩
theorem BodyPost.up {s:ByteArray} {I:Nat} {w wA w':World} {X:Pl.Res (Nat × Pl.It)} {e:Ending} (h:BodyPost s I wA X e w') (hA:St (fun k=>k=I) (fun k=>k=I) w wA):BodyPost s I w X e w':=by
 cases X with
 | non=>trivial
 | bad c p=>exact⟨h.1,h.2.1,hA.trans h.2.2.1,h.2.2.2⟩
 | ok r =>
  obtain⟨h1,h2,h3,kv,sv,nv,h4,h5⟩:=h;exact⟨h1,h2,hA.trans h3,kv,sv,nv,h4,h5.low hA.size⟩
theorem BodyPost.setF2 {s:ByteArray} {I:Nat} {w wA w':World} {X:Pl.Res (Nat × Pl.It)} {e:Ending} (h:BodyPost s I wA X e w') (hA:St (fun k=>k=I) (fun k=>k=I) w wA) {F0:Nat} (h0:w.heap.size≤F0) (h1:F0<wA.heap.size) (hne:I≠F0) (x y:Value) :
    BodyPost s I w X e ((w'.setCell ⟨F0,0,none⟩ x).setCell ⟨F0,1,none⟩ y):=by
 cases X with
 | non=>trivial
 | bad c p =>
  obtain⟨a1,a2,a3,k,a,b,kv,sv,va,vb,nv,root,a4⟩:=h;exact⟨a1,a2,((hA.trans a3).setCell (.inr h0) _).setCell (.inr h0) _,k,a,b,kv,sv,va,vb,nv,root,by rw[Below.heap_setCell _ _ _ _ hne,Below.heap_setCell _ _ _ _ hne];exact a4⟩
 | ok r =>
  obtain⟨a1,a2,a3,kv,sv,nv,a4,a5⟩:=h;exact⟨a1,a2,((hA.trans a3).setCell (.inr h0) _).setCell (.inr h0) _,kv,sv,nv,by rw[Below.heap_setCell _ _ _ _ hne,Below.heap_setCell _ _ _ _ hne];exact a4,((a5.set h1 _ _).set h1 _ _).low hA.size⟩
theorem BodyPost.st {s:ByteArray} {I:Nat} {w w':World} {X:Pl.Res (Nat × Pl.It)} {e:Ending} (h:BodyPost s I w X e w') (hne:X ≠ .non):St (fun k=>k=I) (fun k=>k=I) w w':=by
 cases X with
 | non=>exact absurd rfl hne
 | bad c p=>exact h.2.2.1
 | ok r=>exact h.2.2.1
theorem crlf_has (c:UInt8):(bs ⟨#[35,13,10]⟩).contains c=(c.toNat==35 || c.toNat==13 || c.toNat==10):=by
 have h:∀n:Fin 256,(bs ⟨#[35,13,10]⟩).contains (UInt8.ofNat n.val)=((UInt8.ofNat n.val).toNat==35 || (UInt8.ofNat n.val).toNat==13 || (UInt8.ofNat n.val).toNat==10):=by decide +kernel
 exact J27
theorem rest_on (s:ByteArray) (a:Nat) (h1:a<s.size):∃rest,s.extract a s.size=rest∧¬rest.toList=[]∧rest.toList.isEmpty=false∧(0:Int)<(rest.size:Int)∧∃h0:0<rest.size,rest[0]=s[a]:=by
 refine⟨_,rfl,?_⟩;have hb:=bs_extract s a;have hz:(s.extract a s.size).size=s.size-a:=by simp
 generalize s.extract a s.size=rest at hb hz ⊢;have h0:0<rest.size:=by omega
 have hne:¬rest.toList=[]:=fun e=>by
  rw[Lib.toList_data]at e;have h2:=bs_length rest;rw[show bs rest=[] from e]at h2;simp at h2;omega
 refine⟨hne,by simpa using hne,by omega,h0,?_⟩;have e1:=idx_bs rest 0 h0;have e2:=idx_bs s a h1;exact J28
theorem body_start {w:World} {I:Nat} (hI:w.heap[I]?=some (itO 0 0 0 nilV nilV 0 0 nilV 0)) (j:Nat) (jv:Int) (hj:jv=j) :
    ((w.setCell ⟨I,0,none⟩ (.int .u8 jv)).alloc (.cells #[.int .i64 0,.int .i64 0] 31)).heap[I]?=some (itO j 0 0 nilV nilV 0 0 nilV 0) ∧
    St (fun k=>k=I) (fun k=>k=I) w ((w.setCell ⟨I,0,none⟩ (.int .u8 jv)).alloc (.cells #[.int .i64 0,.int .i64 0] 31)) ∧
    FX w.heap.size (.int .i64 0) (.int .i64 0) ((w.setCell ⟨I,0,none⟩ (.int .u8 jv)).alloc (.cells #[.int .i64 0,.int .i64 0] 31)) ∧
    w.heap.size<((w.setCell ⟨I,0,none⟩ (.int .u8 jv)).alloc (.cells #[.int .i64 0,.int .i64 0] 31)).heap.size:=by
 subst hj;have hz:(w.setCell ⟨I,0,none⟩ (.int .u8 j)).heap.size=w.heap.size:=by simp[World.setCell]
 have h1:(w.setCell ⟨I,0,none⟩ (.int .u8 j)).heap[I]?=some (itO j 0 0 nilV nilV 0 0 nilV 0):=by rw[block_setCell hI];rfl
 refine⟨(((Gr.refl _).alloc _).block (by rw[hz];exact (Array.getElem?_eq_some_iff.1 hI).1)).trans h1,((St.refl (fun k=>k=I) w).setCell (p:=⟨I,0,none⟩) (.inl rfl) _).alloc _,?_,by simp[hz]⟩;have:=FX.new (w.setCell ⟨I,0,none⟩ (.int .u8 j)) (.int .i64 0) (.int .i64 0) 31
 rwa [hz]at this
set_option maxRecDepth 100000 in
theorem tl_body (T:Nat→UInt8 × UInt8) (s:ByteArray) (hs:s.size≤20000000) (I:Nat) (n:Nat) (i:Int) (hi:i=n) (hn:n≤s.size) (w0 w:World) (hg0:Gr w0 w) (hI0:w0.heap.size≤I)
    (hI:w.heap[I]?=some (itO 0 0 0 nilV nilV 0 0 nilV 0)) (hQ:RW T w0) (X:Pl.Res (Nat × Pl.It)) (hX:Pl.bodyS ⟨Pl.strS T,Pl.scalS⟩ (bs s) n=X) (hne:X ≠ .non) :
    Calls Tryz.prog 51 #[.pointer (some ⟨I,0,none⟩),.string s,.int .i64 i] w (BodyPost s I w X):=by
 subst hi;have hIl:I<w.heap.size:=(Array.getElem?_eq_some_iff.1 hI).1;have hIne:I≠w.heap.size:=by omega
 obtain⟨⟨i0,i1,i2,i3,i4,i5,i6,i7,i8⟩,ifz,ilt⟩:=itO_facts hI;have hIA:(w.alloc (.cells #[.int .i64 0,.int .i64 0] 31)).heap[I]?=some (itO 0 0 0 nilV nilV 0 0 nilV 0):=(((Gr.refl w).alloc _).block hIl).trans hI;have k0:(0:Int)≤(n:Int):=by omega
 have k1:(n:Int)≤(s.size:Int):=by omega
 have HQ:=Lib.hid hQ;have HG0:=Lib.hid hg0;have HX:=Lib.hid hX;have HNE:=Lib.hid hne;have hFn:=FX.new w (.int .i64 0) (.int .i64 0) 31;unfold Pl.bodyS at HX;clear hX hQ hne hg0;cases h2:Pl.pre ((bs s).drop n) [91,91] with
 | true =>
  have hl:=Pl.pre_length _ _ h2;rw[List.length_drop,bs_length]at hl;simp only[List.length_cons,List.length_nil]at hl;have HP:=Lib.hid h2;rw[h2,if_pos rfl]at HX;obtain⟨hIB,hSB,hFB,hzB⟩:=body_start hI 3 3 rfl;have HQ2:=Lib.hid (HQ.out.gr (hSB.below HG0.out (fun k e=>by rw[e];exact hI0)));clear h2;go_enter Tryz.func51,Tryz.ntmps51;go_wp2_with (go_at_call 9;refine (prefix_at s ⟨#[91,91]⟩ n true HP.out _).mono ?_;rintro e w3 ⟨rfl,rfl⟩);refine (tl_header T ⟨Pl.strS T,Pl.scalS⟩ rfl s hs I 3 ⟨#[93,93]⟩ (by decide) (low_of _ (by decide)) n _ rfl (by show n+2≤s.size;omega) _ hIB HQ2.out.q X HX.out HNE.out).mono ?_;exact J97
 | false =>
  have HP:=Lib.hid h2;rw[h2,if_neg (by simp)]at HX;clear h2;cases h1:Pl.pre ((bs s).drop n) [91] with
  | true =>
   have hl:=Pl.pre_length _ _ h1;rw[List.length_drop,bs_length]at hl;simp only[List.length_cons,List.length_nil]at hl;have HP1:=Lib.hid h1;rw[h1,if_pos rfl]at HX;obtain⟨hIB,hSB,hFB,hzB⟩:=body_start hI 2 2 rfl;have HQ2:=Lib.hid (HQ.out.gr (hSB.below HG0.out (fun k e=>by rw[e];exact hI0)));clear h1;go_enter Tryz.func51,Tryz.ntmps51;go_wp2_with (go_at_call 9;first|(refine (prefix_at s ⟨#[91,91]⟩ n false HP.out _).mono ?_;rintro e w3 ⟨rfl,rfl⟩)|(refine (prefix_at s ⟨#[91]⟩ n true HP1.out _).mono ?_;rintro e w3 ⟨rfl,rfl⟩));refine (tl_header T ⟨Pl.strS T,Pl.scalS⟩ rfl s hs I 2 ⟨#[93]⟩ (by decide) (low_of _ (by decide)) n _ rfl (by show n+1≤s.size;omega) _ hIB HQ2.out.q X HX.out HNE.out).mono ?_;exact J97
  | false =>
   have HP1:=Lib.hid h1;rw[h1,if_neg (by simp)]at HX;clear h1;by_cases hend:n=s.size
   · have hbl:Pl.isBlankI ((bs s).drop n)=true:=by rw[List.drop_eq_nil_of_le (by rw[bs_length];omega)];rfl
     rw[hbl,if_pos rfl]at HX;have hrest:s.extract n s.size=ByteArray.empty:=by
      apply ByteArray.ext;apply Array.toList_inj.1;rw[show (s.extract n s.size).data.toList=(bs s).drop n from bs_extract s n,List.drop_eq_nil_of_le (by rw[bs_length];omega)];rfl
     have HP1r:=Lib.hid (prefix_at s ⟨#[91]⟩ n false HP1.out);have HPr:=Lib.hid (prefix_at s ⟨#[91,91]⟩ n false HP.out);rw[hrest]at HP1r HPr;clear hbl hend;go_enter Tryz.func51,Tryz.ntmps51;clear i0 i1 i2 i3 i4 i5 i6 i7 i8 ifz ilt;go_wp2_with (go_at_call 9;first|(refine (HPr.out _).mono ?_;rintro e w3 ⟨rfl,rfl⟩)|(refine (HP1r.out _).mono ?_;rintro e w3 ⟨rfl,rfl⟩));exact J67
   obtain⟨rest,hrest,r1,r2,r3,r0,r4⟩:=rest_on s n (by omega);have HP1r:=Lib.hid (prefix_at s ⟨#[91]⟩ n false HP1.out);have HPr:=Lib.hid (prefix_at s ⟨#[91,91]⟩ n false HP.out);rw[hrest]at HP1r HPr;have hbI:Pl.isBlankI ((bs s).drop n)=(bs ⟨#[35,13,10]⟩).contains (rest[0]'r0):=by
    rw[crlf_has,r4,idx_bs s n (by omega)];rfl
   cases hbl:Pl.isBlankI ((bs s).drop n) with
   | true =>
    rw[hbl,if_pos rfl]at HX;rw[hbl]at hbI;have HB:=Lib.hid hbI.symm;clear hbl hbI r4;go_enter Tryz.func51,Tryz.ntmps51;go_wp2_with (first|(go_at_call 9;first|(refine (HPr.out _).mono ?_;rintro e w3 ⟨rfl,rfl⟩)|(refine (HP1r.out _).mono ?_;rintro e w3 ⟨rfl,rfl⟩))|(go_at_call 43;refine (indexByte_at ⟨#[35,13,10]⟩ _ true HB.out _).mono ?_;rintro e w3 ⟨⟨i,rfl,hi⟩,rfl⟩;have hi2:decide (i<0)=false:=by (simp at hi ⊢;omega)))
    try clear hrest
    exact J67
   | false =>
    rw[hbl,if_neg (by simp)]at HX;rw[hbl]at hbI;have HB:=Lib.hid hbI.symm;obtain⟨hIB,hSB,hFB,hzB⟩:=body_start hI 1 1 rfl;clear hbl hbI r4;go_enter Tryz.func51,Tryz.ntmps51;go_wp2_with (first|(go_at_call 9;first|(refine (HPr.out _).mono ?_;rintro e w3 ⟨rfl,rfl⟩)|(refine (HP1r.out _).mono ?_;rintro e w3 ⟨rfl,rfl⟩))|(go_at_call 43;refine (indexByte_at ⟨#[35,13,10]⟩ _ false HB.out _).mono ?_;rintro e w3 ⟨⟨i,rfl,hi⟩,rfl⟩;have hi2:decide (i<0)=true:=by (simp at hi ⊢;omega)))
    try clear hrest
    refine (tl_pair T s hs I n _ rfl hn w0 _ (hSB.below HG0.out (fun k e=>by rw[e];exact hI0)) hI0 hIB HQ.out X HX.out HNE.out).mono ?_;exact J97
abbrev itV (k:Nat) (a b:Int) (kv sv:Value) (va vb:Int) (nv:Value) (root:Int):Value := .agg #[.int .u8 k,.int .i64 a,.int .i64 b,kv,sv,.int .i64 va,.int .i64 vb,nv,.int .i64 root]
abbrev itZ:Value := .agg #[.int .u8 0,.int .i64 0,.int .i64 0,nilV,nilV,.int .i64 0,.int .i64 0,nilV,.int .i64 0]
abbrev itZO:Obj := .cells #[.int .u8 0,.int .i64 0,.int .i64 0,nilV,nilV,.int .i64 0,.int .i64 0,nilV,.int .i64 0] 79 (0,0)
def ReadI (s:ByteArray) (w:World) (X:Pl.Res Pl.It) (e:Ending) (w':World):Prop:=match X with
 | .non=>True
 | .bad c p=>e = .returned (.tuple #[itZ,fv c p])∧c≠0∧Gr w w'
 | .ok it=>∃kv sv nv,e = .returned (.tuple #[itV it.kind it.a it.b kv sv it.va it.vb nv it.root,f0])∧ItM w' w.heap.size it kv sv nv∧Gr w w'
theorem ItM.forms {W:World} {lo:Nat} {it:Pl.It} {kv sv nv:Value} (h:ItM W lo it kv sv nv):(∃a n c,kv = .slice a n c)∧(∃a n c,sv = .slice a n c)∧(∃a n c,nv = .slice a n c):=by
 refine⟨?_,?_,?_⟩
 · rcases rowC_form h.k with⟨rfl,_⟩|⟨g,c,rfl,_⟩
   · exact⟨_,_,_,rfl⟩
   exact⟨_,_,_,rfl⟩
 · rcases rowC_form h.s with⟨rfl,_⟩|⟨g,c,rfl,_⟩
   · exact⟨_,_,_,rfl⟩
   exact⟨_,_,_,rfl⟩
 rcases h.n with⟨rfl,_⟩|⟨g,L,rfl,_⟩
 · exact⟨_,_,_,rfl⟩
 exact⟨_,_,_,rfl⟩
theorem RowC.keptC {V W:World} {base e size n:Nat} {v:Value} {xs:List Value} (h:RowC V base e size v n xs) (hk:∀(k:Nat) (o:Obj),base≤k→V.heap[k]?=some o→o.isCells=true→W.heap[k]?=some o):RowC W base e size v n xs:=by
 obtain⟨v0,⟨h1,h2⟩,h3⟩:=h;exact⟨v0,⟨h1,h2.imp id fun ⟨g,cap,cur,x,y,z,r⟩=>⟨g,cap,cur,x,y,hk g _ y z rfl,r⟩⟩,h3⟩
theorem ItM.kept {V W:World} {lo:Nat} {it:Pl.It} {kv sv nv:Value} (h:ItM V lo it kv sv nv) (hk:∀(k:Nat) (o:Obj),lo≤k→V.heap[k]?=some o→o.isCells=true→W.heap[k]?=some o) (hz:V.heap.size≤W.heap.size):ItM W lo it kv sv nv:=by
 refine⟨h.k.keptC hk,h.s.keptC hk,h.n.imp id fun ⟨g0,L,a,b,c⟩=>⟨g0,L,a,b,⟨⟨c.lt.1,Nat.lt_of_lt_of_le c.lt.2 hz⟩,fun i r hr j v hv=>?_,fun i r hr=>?_,c.tg⟩⟩⟩
 · have h1:=c.cell i r hr j v hv;obtain⟨o,ho,hc⟩:=cells_of_cell h1;exact (World.cell?_of_block (w:=V) (a:=⟨g0,i*7+j,none⟩) ((hk g0 o c.lt.1 ho hc).trans ho.symm)).trans h1
 obtain⟨x,y,z⟩:=c.rows i r hr;exact⟨x.keptC hk,y.keptC hk,z.keptC hk⟩
end Go.Proofs.YtfogfaagjpebcaaGreatDoor
namespace Go.Proofs.YtfogfaagjpebcaaGreatDoor
open Go.RowKit Go.Shelf Go.Joins
attribute [local go_sem] Oper.semAt_some
theorem item_chain {w2:World} {I F:Nat} {k:Nat} {a b:Int} {kv sv:Value} {va vb:Int} {nv:Value} {root:Int} {x0 y0:Value} (hI:w2.heap[I]?=some (itO k a b kv sv va vb nv root)) (hF:FX F x0 y0 w2) (hne:I≠F) {w:World} (hG:Gr w w2) (hwI:w.heap.size≤I) (hwF:w.heap.size≤F) (c0 c1 c2 c3 c4 c5 c6 c7 c8 x y:Value) :
    (((((((((((w2.setCell ⟨I,0,none⟩ c0).setCell ⟨I,1,none⟩ c1).setCell ⟨I,2,none⟩ c2).setCell ⟨I,3,none⟩ c3).setCell ⟨I,4,none⟩ c4).setCell ⟨I,5,none⟩ c5).setCell ⟨I,6,none⟩ c6).setCell ⟨I,7,none⟩ c7).setCell ⟨I,8,none⟩ c8).setCell ⟨F,0,none⟩ x).setCell ⟨F,1,none⟩ y).heap[I]?=some (.cells #[c0,c1,c2,c3,c4,c5,c6,c7,c8] 79 (0,0)) ∧
    FX F x y (((((((((((w2.setCell ⟨I,0,none⟩ c0).setCell ⟨I,1,none⟩ c1).setCell ⟨I,2,none⟩ c2).setCell ⟨I,3,none⟩ c3).setCell ⟨I,4,none⟩ c4).setCell ⟨I,5,none⟩ c5).setCell ⟨I,6,none⟩ c6).setCell ⟨I,7,none⟩ c7).setCell ⟨I,8,none⟩ c8).setCell ⟨F,0,none⟩ x).setCell ⟨F,1,none⟩ y) ∧
    Gr w (((((((((((w2.setCell ⟨I,0,none⟩ c0).setCell ⟨I,1,none⟩ c1).setCell ⟨I,2,none⟩ c2).setCell ⟨I,3,none⟩ c3).setCell ⟨I,4,none⟩ c4).setCell ⟨I,5,none⟩ c5).setCell ⟨I,6,none⟩ c6).setCell ⟨I,7,none⟩ c7).setCell ⟨I,8,none⟩ c8).setCell ⟨F,0,none⟩ x).setCell ⟨F,1,none⟩ y) ∧
    (∀k,k≠I→k≠F→(((((((((((w2.setCell ⟨I,0,none⟩ c0).setCell ⟨I,1,none⟩ c1).setCell ⟨I,2,none⟩ c2).setCell ⟨I,3,none⟩ c3).setCell ⟨I,4,none⟩ c4).setCell ⟨I,5,none⟩ c5).setCell ⟨I,6,none⟩ c6).setCell ⟨I,7,none⟩ c7).setCell ⟨I,8,none⟩ c8).setCell ⟨F,0,none⟩ x).setCell ⟨F,1,none⟩ y).heap[k]?=w2.heap[k]?):=by
 have h0:(w2.setCell ⟨I,0,none⟩ c0).heap[I]?=some (.cells #[c0,.int .i64 a,.int .i64 b,kv,sv,.int .i64 va,.int .i64 vb,nv,.int .i64 root] 79 (0,0)):=by rw[block_setCell hI];rfl
 have h1:((w2.setCell ⟨I,0,none⟩ c0).setCell ⟨I,1,none⟩ c1).heap[I]?=some (.cells #[c0,c1,.int .i64 b,kv,sv,.int .i64 va,.int .i64 vb,nv,.int .i64 root] 79 (0,0)):=by rw[block_setCell h0];rfl
 have h2:(((w2.setCell ⟨I,0,none⟩ c0).setCell ⟨I,1,none⟩ c1).setCell ⟨I,2,none⟩ c2).heap[I]?=some (.cells #[c0,c1,c2,kv,sv,.int .i64 va,.int .i64 vb,nv,.int .i64 root] 79 (0,0)):=by rw[block_setCell h1];rfl
 obtain⟨W2,hW2⟩:∃W,((w2.setCell ⟨I,0,none⟩ c0).setCell ⟨I,1,none⟩ c1).setCell ⟨I,2,none⟩ c2=W:=⟨_,rfl⟩
 have g2:FX F x0 y0 W2:=by rw[←hW2];exact ((hF.other hne _).other hne _).other hne _
 rw[hW2]at h2 ⊢;have h3:(W2.setCell ⟨I,3,none⟩ c3).heap[I]?=some (.cells #[c0,c1,c2,c3,sv,.int .i64 va,.int .i64 vb,nv,.int .i64 root] 79 (0,0)):=by rw[block_setCell h2];rfl
 have h4:((W2.setCell ⟨I,3,none⟩ c3).setCell ⟨I,4,none⟩ c4).heap[I]?=some (.cells #[c0,c1,c2,c3,c4,.int .i64 va,.int .i64 vb,nv,.int .i64 root] 79 (0,0)):=by rw[block_setCell h3];rfl
 have h5:(((W2.setCell ⟨I,3,none⟩ c3).setCell ⟨I,4,none⟩ c4).setCell ⟨I,5,none⟩ c5).heap[I]?=some (.cells #[c0,c1,c2,c3,c4,c5,.int .i64 vb,nv,.int .i64 root] 79 (0,0)):=by rw[block_setCell h4];rfl
 obtain⟨W5,hW5⟩:∃W,((W2.setCell ⟨I,3,none⟩ c3).setCell ⟨I,4,none⟩ c4).setCell ⟨I,5,none⟩ c5=W:=⟨_,rfl⟩
 have g5:FX F x0 y0 W5:=by rw[←hW5];exact ((g2.other hne _).other hne _).other hne _
 rw[hW5]at h5 ⊢;have h6:(W5.setCell ⟨I,6,none⟩ c6).heap[I]?=some (.cells #[c0,c1,c2,c3,c4,c5,c6,nv,.int .i64 root] 79 (0,0)):=by rw[block_setCell h5];rfl
 have h7:((W5.setCell ⟨I,6,none⟩ c6).setCell ⟨I,7,none⟩ c7).heap[I]?=some (.cells #[c0,c1,c2,c3,c4,c5,c6,c7,.int .i64 root] 79 (0,0)):=by rw[block_setCell h6];rfl
 have h8:(((W5.setCell ⟨I,6,none⟩ c6).setCell ⟨I,7,none⟩ c7).setCell ⟨I,8,none⟩ c8).heap[I]?=some (.cells #[c0,c1,c2,c3,c4,c5,c6,c7,c8] 79 (0,0)):=by rw[block_setCell h7];rfl
 have k2:Gr w W2:=by rw[←hW2];exact ((hG.setCell (p:=⟨I,0,none⟩) hwI _).setCell (p:=⟨I,1,none⟩) hwI _).setCell (p:=⟨I,2,none⟩) hwI _
 have k5:Gr w W5:=by rw[←hW5];exact ((k2.setCell (p:=⟨I,3,none⟩) hwI _).setCell (p:=⟨I,4,none⟩) hwI _).setCell (p:=⟨I,5,none⟩) hwI _
 refine⟨by rw[Below.heap_setCell _ _ _ _ hne,Below.heap_setCell _ _ _ _ hne];exact h8,(((g5.other hne _).other hne _).other hne _).set x y,
  ((((k5.setCell (p:=⟨I,6,none⟩) hwI _).setCell (p:=⟨I,7,none⟩) hwI _).setCell (p:=⟨I,8,none⟩) hwI _).setCell (p:=⟨F,0,none⟩) hwF _).setCell (p:=⟨F,1,none⟩) hwF _,fun k k1 k2=>?_⟩
 rw[Below.heap_setCell _ _ _ _ k2,Below.heap_setCell _ _ _ _ k2,Below.heap_setCell _ _ _ _ k1,Below.heap_setCell _ _ _ _ k1,Below.heap_setCell _ _ _ _ k1,←hW5,Below.heap_setCell _ _ _ _ k1,Below.heap_setCell _ _ _ _ k1,Below.heap_setCell _ _ _ _ k1,←hW2,Below.heap_setCell _ _ _ _ k1,Below.heap_setCell _ _ _ _ k1,Below.heap_setCell _ _ _ _ k1]
theorem ItM.same {W:World} {base:Nat} {it:Pl.It} {kv sv nv:Value} (h:ItM W base it kv sv nv) {a b:Nat}:ItM W.drew base { it with a:=a,b:=b } kv sv nv:=⟨h.k.of_block fun _ _=>rfl,h.s.of_block fun _ _=>rfl,(h.gr (Gr.refl W).drew).n⟩
theorem cells9 {W:World} {I:Nat} {c0 c1 c2 c3 c4 c5 c6 c7 c8:Value} (h:W.heap[I]?=some (.cells #[c0,c1,c2,c3,c4,c5,c6,c7,c8] 79 (0,0))) :
    (W.cell? ⟨I,0,none⟩=some c0∧W.cell? ⟨I,1,none⟩=some c1∧W.cell? ⟨I,2,none⟩=some c2∧W.cell? ⟨I,3,none⟩=some c3∧W.cell? ⟨I,4,none⟩=some c4∧W.cell? ⟨I,5,none⟩=some c5∧W.cell? ⟨I,6,none⟩=some c6∧W.cell? ⟨I,7,none⟩=some c7∧W.cell? ⟨I,8,none⟩=some c8)∧(∀o,W.frozen? ⟨I,o,none⟩=false)∧I<W.heap.size :=
 ⟨⟨by rw[cell_of_block h];rfl,by rw[cell_of_block h];rfl,by rw[cell_of_block h];rfl,by rw[cell_of_block h];rfl,by rw[cell_of_block h];rfl,by rw[cell_of_block h];rfl,by rw[cell_of_block h];rfl,by rw[cell_of_block h];rfl,by rw[cell_of_block h];rfl⟩,fun o=>unfrozen_of_block h o,(Array.getElem?_eq_some_iff.1 h).1⟩
set_option maxRecDepth 100000 in
theorem tl_Read (T:Nat→UInt8 × UInt8) (s:ByteArray) (hs:s.size≤20000000) (n:Nat) (i:Int) (hi:i=n) (hn:n<s.size) (w:World) (hQ:RW T w) (X:Pl.Res Pl.It) (hX:Pl.itemS ⟨Pl.strS T,Pl.scalS⟩ (bs s) n=X) (hne:X ≠ .non) :
    Calls Tryz.prog 36 #[.string s,.int .i64 i] w (ReadI s w X):=by
 subst hi;have hb:=Pl.blanksAt_le (bs s) n (by rw[bs_length];omega);rw[bs_length]at hb;obtain⟨b,hbe⟩:∃b,Pl.blanksAt (bs s) n=b:=⟨_,rfl⟩
 rw[hbe]at hb;have hb2:=hb.2;unfold Pl.itemS at hX;rw[hbe]at hX;obtain⟨Y,hY⟩:∃Y,Pl.bodyS ⟨Pl.strS T,Pl.scalS⟩ (bs s) b=Y:=⟨_,rfl⟩
 rw[hY]at hX;have hYn:Y ≠ .non:=fun e=>hne (by rw[←hX,e])
 have t1:decide ((n:Int)<0)=false:=by simp
 have t2:decide ((s.size:Int)≤(n:Int))=false:=by simp;omega
 have t3:decide (s.size≤n)=false:=by simp;omega
 have HB:=Lib.hid hbe;have HQ:=Lib.hid hQ;have HX:=Lib.hid hX;have HNE:=Lib.hid hne;have HBD:=Lib.hid hY;obtain⟨W1,hW1⟩:∃W,(w.alloc itZO).alloc (.cells #[.int .i64 0,.int .i64 0] 31)=W:=⟨_,rfl⟩
 have hG1:Gr w W1:=by rw[←hW1];exact ((Gr.refl w).alloc _).alloc _
 have hI1:W1.heap[w.heap.size]?=some (itO 0 0 0 nilV nilV 0 0 nilV 0):=by rw[←hW1];exact (((Gr.refl _).alloc _).block (by simp)).trans (heap_alloc_new w _)
 have hF1:FX (w.heap.size+1) (.int .i64 0) (.int .i64 0) W1:=by
  rw[←hW1];have:=FX.new (w.alloc itZO) (.int .i64 0) (.int .i64 0) 31;exact J14
 have HW1:=Lib.hid hW1;clear hbe hb hX hY hQ hne hW1;go_enter Tryz.func36,Tryz.ntmps36;go_wp2_with fail;rw[show ((w.alloc (.cells #[.int .u8 0,.int .i64 0,.int .i64 0,.slice none 0 0,.slice none 0 0,.int .i64 0,.int .i64 0,.slice none 0 0,.int .i64 0] 79)).alloc (.cells #[.int .i64 0,.int .i64 0] 31))=W1 from HW1.out];refine (tk_Blanks s _ n rfl (by omega) (by omega) _).mono ?_;rw[HB.out];rintro e w1 ⟨rfl,g1⟩;have hI2:=(g1.block (Array.getElem?_eq_some_iff.1 hI1).1).trans hI1;have hF2:=hF1.gr g1;have hG2:=hG1.trans g1;have hwz:w.heap.size+1<w1.heap.size:=hF2.2.2.2;clear hI1 hF1 hG1 HW1;go_wp2_with fail;refine (tl_body T s hs w.heap.size b _ rfl hb2 w _ hG2 (Nat.le_refl _) hI2 HQ.out Y HBD.out hYn).mono ?_;clear HBD;cases Y with
 | non=>exact absurd rfl hYn
 | bad c p =>
  rintro e w2 ⟨rfl,hc,hst,k,a1,a2,kv,sv,va,vb,nv,root,hI3⟩;have hF3:=hF2.st hst (by simp);have hG3:=hst.below hG2 (fun k e=>by rw[e];exact Nat.le_refl _);clear hst hF2 hG2 g1 hI2;go_wp2_with fail;refine Z242 ?_;intro w3 g3;have gA:Gr w2 w3:=((Gr.refl w2).alloc _).trans g3;have hX3:=(FX.new w2 (.int .i64 c) (.int .i64 p) 31).gr g3;have hI4:=(gA.block (Array.getElem?_eq_some_iff.1 hI3).1).trans hI3;have hF4:=hF3.gr gA;have hG4:=hG3.trans gA;have hI2z:=(Array.getElem?_eq_some_iff.1 hI3).1;have hz2:=hF3.2.2.2;clear hI3 hF3 hG3 g3 gA;obtain⟨q0,q1,qf,ql⟩:=id hX3;go_wp2_with fail;refine Z242 ?_;intro w4 g4;exact J86
 | ok r =>
  obtain⟨m,it⟩:=r;rintro e w2 ⟨rfl,hm,hst,kv,sv,nv,hI3,hM3⟩;have hF3:=hF2.st hst (by simp);have hG3:=hst.below hG2 (fun k e=>by rw[e];exact Nat.le_refl _);obtain⟨⟨ka,kn,kc,rfl⟩,⟨sa,sn,sc,rfl⟩,⟨na,nn,nc,rfl⟩⟩:=hM3.forms;clear hst hF2 hG2 g1 hI2;go_wp2_with fail;refine (tl_fine_yes _).mono ?_;rintro e w3 ⟨rfl,g3⟩;have gA:Gr w2 w3:=((Gr.refl w2).alloc _).trans g3;have hX3:=(FX.new w2 (.int .i64 0) (.int .i64 0) 31).gr g3;have hI4:=(gA.block (Array.getElem?_eq_some_iff.1 hI3).1).trans hI3;have hF4:=hF3.gr gA;have hG4:=hG3.trans gA;have hKA:∀k,k<w2.heap.size→w3.heap[k]?=w2.heap[k]?:=fun k hk=>gA.block hk
  have hzA:=gA.size;have hI2z:=(Array.getElem?_eq_some_iff.1 hI3).1;have hz2:=hF3.2.2.2;have hcl:=Pl.closedS_le (bs s) m (by rw[bs_length];exact hm);clear hI3 hF3 hG3 g3 gA;go_wp2_with fail;refine (tl_closed s hs m _ rfl hm _).mono ?_;rintro e w5 ⟨hp,g5⟩;have hX5:=hX3.gr g5;have hI5:=(g5.block (Array.getElem?_eq_some_iff.1 hI4).1).trans hI4;have hF5:=hF4.gr g5;have hG5:=hG4.trans g5;have hK5:∀k,k<w2.heap.size→w5.heap[k]?=w2.heap[k]?:=fun k hk=>(g5.block (by omega)).trans (hKA k hk)
  have hz5:w2.heap.size<w5.heap.size:=hX5.2.2.2;clear g5 hX3 hI4 hF4 hG4 hKA;have hIx:w.heap.size≠w2.heap.size:=by omega
  have hFx:w.heap.size+1≠w2.heap.size:=by omega
  unfold OutI at hp;cases hq:Pl.closedS (bs s) m with
  | bad c p =>
   rw[hq]at hp HX;simp only at HX;have he:=hp;clear hp;subst he;have hc:c≠0:=(hcl.2 c p hq).2;clear hq hcl hM3 hK5;obtain⟨q0,q1,qf,ql⟩:=id hX5;have hI4':((w5.setCell ⟨w2.heap.size,0,none⟩ (.int .i64 c)).setCell ⟨w2.heap.size,1,none⟩ (.int .i64 p)).heap[w.heap.size]?=some (itO it.kind 0 0 (.slice ka kn kc) (.slice sa sn sc) it.va it.vb (.slice na nn nc) it.root):=by
    rw[Below.heap_setCell _ _ _ _ hIx,Below.heap_setCell _ _ _ _ hIx];exact hI5
   have hF4':=(hF5.other (Ne.symm hFx) (b2:=w2.heap.size) (o:=0) (.int .i64 c)).other (Ne.symm hFx) (b2:=w2.heap.size) (o:=1) (.int .i64 p);have hX4':=hX5.set (.int .i64 c) (.int .i64 p);have hG4':=(hG5.setCell (p:=⟨w2.heap.size,0,none⟩) (by show w.heap.size≤w2.heap.size;omega) (.int .i64 c)).setCell (p:=⟨w2.heap.size,1,none⟩) (by show w.heap.size≤w2.heap.size;omega) (.int .i64 p);go_wp2_with fail;refine Z242 ?_;intro w4 g4;have hI4:=hI4';have hF4:=hF4';have hX3:=hX4';have hG4:=hG4';clear hI5 hF5 hX5 hG5 hI4' hF4' hX4' hG4';exact J86
  | ok q =>
   rw[hq]at hp HX;simp only at HX;have he:=hp;clear hp;subst he;have hql:=hcl.1 q hq;clear hq hcl;obtain⟨q0,q1,qf,ql⟩:=id hX5;have hI6:((w5.setCell ⟨w2.heap.size,0,none⟩ (.int .i64 0)).setCell ⟨w2.heap.size,1,none⟩ (.int .i64 0)).heap[w.heap.size]?=some (itO it.kind 0 0 (.slice ka kn kc) (.slice sa sn sc) it.va it.vb (.slice na nn nc) it.root):=by
    rw[Below.heap_setCell _ _ _ _ hIx,Below.heap_setCell _ _ _ _ hIx];exact hI5
   have hF6:=(hF5.other (Ne.symm hFx) (b2:=w2.heap.size) (o:=0) (.int .i64 0)).other (Ne.symm hFx) (b2:=w2.heap.size) (o:=1) (.int .i64 0);have hX6:=hX5.set (.int .i64 0) (.int .i64 0);have hG6:=(hG5.setCell (p:=⟨w2.heap.size,0,none⟩) (by show w.heap.size≤w2.heap.size;omega) (.int .i64 0)).setCell (p:=⟨w2.heap.size,1,none⟩) (by show w.heap.size≤w2.heap.size;omega) (.int .i64 0);have hK6:∀k,k<w2.heap.size→((w5.setCell ⟨w2.heap.size,0,none⟩ (.int .i64 0)).setCell ⟨w2.heap.size,1,none⟩ (.int .i64 0)).heap[k]?=w2.heap[k]?:=fun k hk=>by
    rw[Below.heap_setCell _ _ _ _ (by show k≠w2.heap.size;omega),Below.heap_setCell _ _ _ _ (by show k≠w2.heap.size;omega)];exact hK5 k hk
   go_wp2_with fail;refine (tl_fine_yes _).mono ?_;rintro e w6 ⟨rfl,g6⟩;have hz6:w5.heap.size≤w6.heap.size:=by have:=g6.size;simpa [World.setCell]using this
   have hI7:=(g6.block (Array.getElem?_eq_some_iff.1 hI6).1).trans hI6;have hF7:=hF6.gr g6;have hX7:=hX6.gr g6;have hG7:=hG6.trans g6;have hK7:∀k,k<w2.heap.size→w6.heap[k]?=w2.heap[k]?:=fun k hk=>(g6.block (by simp[World.setCell];omega)).trans (hK6 k hk)
   clear g6 hI5 hI6 hF5 hF6 hX5 hX6 hG5 hG6 hK5 hK6 q0 q1 qf ql;obtain⟨⟨i0,i1,i2,i3,i4,i5,i6,i7,i8⟩,ifz,ilt⟩:=itO_facts hI7;have hI8:((w6.setCell ⟨w.heap.size,1,none⟩ (.int .i64 n)).setCell ⟨w.heap.size,2,none⟩ (.int .i64 q)).heap[w.heap.size]?=some (itO it.kind n q (.slice ka kn kc) (.slice sa sn sc) it.va it.vb (.slice na nn nc) it.root):=by
    have h1:(w6.setCell ⟨w.heap.size,1,none⟩ (.int .i64 n)).heap[w.heap.size]?=some (itO it.kind n 0 (.slice ka kn kc) (.slice sa sn sc) it.va it.vb (.slice na nn nc) it.root):=by rw[block_setCell hI7];rfl
    rw[block_setCell h1];rfl
   have hF8:=(hF7.other (b2:=w.heap.size) (o:=1) (by omega) (.int .i64 n)).other (b2:=w.heap.size) (o:=2) (by omega) (.int .i64 q);have hX8:=(hX7.other (b2:=w.heap.size) (o:=1) (by omega) (.int .i64 n)).other (b2:=w.heap.size) (o:=2) (by omega) (.int .i64 q);have hG8:=(hG7.setCell (p:=⟨w.heap.size,1,none⟩) (Nat.le_refl _) (.int .i64 n)).setCell (p:=⟨w.heap.size,2,none⟩) (Nat.le_refl _) (.int .i64 q);have hK8:∀k,w1.heap.size≤k→k<w2.heap.size→((w6.setCell ⟨w.heap.size,1,none⟩ (.int .i64 n)).setCell ⟨w.heap.size,2,none⟩ (.int .i64 q)).heap[k]?=w2.heap[k]?:=fun k hk0 hk=>by
    rw[Below.heap_setCell _ _ _ _ (by show k≠w.heap.size;omega),Below.heap_setCell _ _ _ _ (by show k≠w.heap.size;omega)];exact hK7 k hk
   have hz8:((w6.setCell ⟨w.heap.size,1,none⟩ (.int .i64 n)).setCell ⟨w.heap.size,2,none⟩ (.int .i64 q)).heap.size=w6.heap.size:=by simp[World.setCell]
   obtain⟨q0,q1,qf,ql⟩:=id hX7;go_wp2_with fail;obtain⟨W8,hW8⟩:∃W,(w6.setCell ⟨w.heap.size,1,none⟩ (.int .i64 n)).setCell ⟨w.heap.size,2,none⟩ (.int .i64 q)=W:=⟨_,rfl⟩
   rw[hW8]at hI8 hF8 hX8 hG8 hK8 hz8 ⊢;clear hW8 hI7 hF7 hX7 hG7 hK7 i0 i1 i2 i3 i4 i5 i6 i7 i8 ifz ilt q0 q1 qf ql;obtain⟨⟨i0,i1,i2,i3,i4,i5,i6,i7,i8⟩,ifz,ilt⟩:=itO_facts hI8;obtain⟨q0,q1,qf,ql⟩:=id hX8;obtain⟨v0,v1,vf,vl⟩:=id hF8;obtain⟨zI,zF,zG,zK⟩:=item_chain hI8 hF8 (Nat.ne_of_lt (Nat.lt_succ_self _)) hG8 (Nat.le_refl _) (Nat.le_succ _) (.int .u8 it.kind) (.int .i64 n) (.int .i64 q) (.slice ka kn kc) (.slice sa sn sc) (.int .i64 it.va) (.int .i64 it.vb) (.slice na nn nc) (.int .i64 it.root) (.int .i64 0) (.int .i64 0);obtain⟨WF,hWF⟩:∃W,(((((((((((W8.setCell ⟨w.heap.size,0,none⟩ (.int .u8 it.kind)).setCell ⟨w.heap.size,1,none⟩ (.int .i64 n)).setCell ⟨w.heap.size,2,none⟩ (.int .i64 q)).setCell ⟨w.heap.size,3,none⟩ (.slice ka kn kc)).setCell ⟨w.heap.size,4,none⟩ (.slice sa sn sc)).setCell ⟨w.heap.size,5,none⟩ (.int .i64 it.va)).setCell ⟨w.heap.size,6,none⟩ (.int .i64 it.vb)).setCell ⟨w.heap.size,7,none⟩ (.slice na nn nc)).setCell ⟨w.heap.size,8,none⟩ (.int .i64 it.root)).setCell ⟨w.heap.size+1,0,none⟩ (.int .i64 0)).setCell ⟨w.heap.size+1,1,none⟩ (.int .i64 0))=W:=⟨_,rfl⟩
   have hzF:WF.heap.size=W8.heap.size:=by rw[←hWF];simp[World.setCell]
   rw[hWF]at zI zF zG zK;have HWF:=Lib.hid hWF;have HMF:Hid (ItM WF w1.heap.size it (.slice ka kn kc) (.slice sa sn sc) (.slice na nn nc)):=Lib.hid (hM3.kept (fun k o hk ho _=>by
    have hlt:=(Array.getElem?_eq_some_iff.1 ho).1;exact ((zK k (by omega) (by omega)).trans (hK8 k hk hlt)).trans ho) (by omega))
   clear hWF hK8 zK hM3
   go_region
   all_goals rw[HWF.out]
   all_goals clear HWF i0 i1 i2 i3 i4 i5 i6 i7 i8 ifz ilt v0 v1 vf vl q0 q1 qf ql hI8 hF8 hX8 hG8
   all_goals obtain⟨⟨i0,i1,i2,i3,i4,i5,i6,i7,i8⟩,ifz,ilt⟩:=cells9 zI
   all_goals obtain⟨v0,v1,vf,vl⟩:=id zF
   all_goals go_wp2_with fail
   all_goals refine bodyPost_ret (v := .tuple #[itV it.kind n q (.slice ka kn kc) (.slice sa sn sc) it.va it.vb (.slice na nn nc) it.root,f0]) (by simp[results,Tryz.results36,go_sem,i0,i1,i2,i3,i4,i5,i6,i7,i8,v0,v1]) rfl ?_
   all_goals rw[←HX.out]
   all_goals exact⟨_,_,_,rfl,ItM.same (HMF.out.low (by omega)),zG.drew⟩
end Go.Proofs.YtfogfaagjpebcaaGreatDoor
