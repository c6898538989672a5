/-
 The walks and plain laws that the claim rests on, part 43.
-/
import Derived.Test.YtfogfaagjpebcaaGreatDoorP00
import Derived.Test.YtfogfaagjpebcaaGreatDoorP38
import Derived.Test.YtfogfaagjpebcaaGreatDoorP39
import Derived.Test.YtfogfaagjpebcaaGreatDoorP41
import Derived.Test.YtfogfaagjpebcaaGreatDoorP42
set_option maxHeartbeats 16000000
set_option linter.all false
set_option linter.unusedVariables false
set_option linter.unusedSimpArgs false
namespace Go.Proofs.YtfogfaagjpebcaaGreatDoor
open Go.RowKit Go.Shelf Go.Joins
attribute [local go_sem] Oper.semAt_some
structure WB3 (z:Nat) (a b c d e f:Value) (w:World):Prop where
 i:FX z a b w
 t:FX (z+1) c d w
 f:FX (z+1+1) e f w
theorem WB3.gr {z:Nat} {a b c d e f:Value} {w w':World} (h:WB3 z a b c d e f w) (g:Gr w w'):WB3 z a b c d e f w':=⟨h.i.gr g,h.t.gr g,h.f.gr g⟩
theorem WB3.st {z:Nat} {a b c d e f:Value} {w w':World} {F F':Nat→Prop} (h:WB3 z a b c d e f w) (g:St F F' w w') (hF:∀k,z≤k→k≤z+1+1→¬F k):WB3 z a b c d e f w' :=
 ⟨h.i.st g (hF _ (by omega) (by omega)),h.t.st g (hF _ (by omega) (by omega)),h.f.st g (hF _ (by omega) (by omega))⟩
theorem WB3.new (w:World) (a b c d e f:Value) (T0 T1 T2:TypeId) :
    WB3 w.heap.size a b c d e f (((w.alloc (.cells #[a,b] T0)).alloc (.cells #[c,d] T1)).alloc (.cells #[e,f] T2))∧Gr w (((w.alloc (.cells #[a,b] T0)).alloc (.cells #[c,d] T1)).alloc (.cells #[e,f] T2)) ∧
    (((w.alloc (.cells #[a,b] T0)).alloc (.cells #[c,d] T1)).alloc (.cells #[e,f] T2)).heap.size=w.heap.size+1+1+1:=by
 obtain⟨f1,g1,z1⟩:=bx2 w a b T0;obtain⟨w1,h1⟩:∃w1,w.alloc (.cells #[a,b] T0)=w1:=⟨_,rfl⟩
 rw[h1]at f1 g1 z1 ⊢;obtain⟨f2,g2,z2⟩:=bx2 w1 c d T1;obtain⟨w2,h2⟩:∃w2,w1.alloc (.cells #[c,d] T1)=w2:=⟨_,rfl⟩
 rw[h2]at f2 g2 z2 ⊢;obtain⟨f3,g3,z3⟩:=bx2 w2 e f T2;rw[z1]at f2 z2;rw[z2]at f3 z3;exact⟨⟨f1.gr (g2.trans g3),f2.gr g3,f3⟩,g1.trans (g2.trans g3),z3⟩
def WordsP (w:World) (R B base:Nat) (s:ByteArray) (own:Nat→Nat) (iv nsv:Value) (X:Pl.Res (Nat × Nat × Pl.Nds × Pl.Gst)) (e:Ending) (w':World):Prop:=match X with
 | .non=>True
 | .bad c p=>(∃(v1 v2:Int) (o:Option Addr) (l k:Nat) (v4:Int),e = .returned (.tuple #[.agg #[.int .i64 v1,.int .i64 v2],.agg #[.slice o l k,.int .i64 v4],fv c p]))∧c≠0∧∃own',St (FV own) (FV own') w w'∧w'.cell? ⟨R,2,none⟩=some (.string s)∧(∀k,own' k≠0→own k≠0∨w.heap.size≤k)
 | .ok (into,root,nds,g')=>∃(dd:Int) (tv:Value) (T:List NdR) (base2:Nat) (nv':Value) (L':List NdR) (own':Nat→Nat) (x':GrX),e = .returned (.tuple #[.agg #[.int .i64 into,.int .i64 dd],.agg #[tv,.int .i64 root],f0])∧x'.iv=iv∧x'.nsv=nsv ∧
     GM w' R B base s nv' L' own' x' g'∧St (FV own) (FV own') w w'∧(∀k,own' k≠0→own k≠0∨w.heap.size≤k)∧TreeA w' base2 tv T∧T.map (·.nd)=nds∧w.heap.size≤base2∧(∀k,base2≤k→own' k=0)
def tabW (X:Pl.Res Pl.Gst):Pl.Res (Nat × Nat × Pl.Nds × Pl.Gst):=match X with
 | .non => .non
 | .bad c p => .bad c p
 | .ok g1 => .ok (0,0,[],g1)
theorem TabG.open {V w2:World} {R B base:Nat} {s:ByteArray} {own:Nat→Nat} {iv nsv:Value} {Y:Pl.Res Pl.Gst} {e:Ending} (h:TabG V R B base s own iv nsv Y e w2) (hn:Y ≠ .non) :
    ∃(c q:Int),e = .returned (.agg #[.int .i64 c,.int .i64 q])∧∃own',St (FV own) (FV own') V w2:=by
 cases Y with
 | non=>exact absurd rfl hn
 | bad c p =>
  obtain⟨he,_,own',hst,_⟩:=h;exact⟨c,p,he,own',hst⟩
 | ok r =>
  obtain⟨he,_,_,own',_,_,_,_,hst,_⟩:=h;exact⟨0,0,he,own',hst⟩
theorem wordsP_tab {w w5 w6:World} {R B base:Nat} {s:ByteArray} {own:Nat→Nat} {iv nsv:Value} {X':Pl.Res Pl.Gst} {c q:Int} (g5:Gr w w5) (hz:w.heap.size+1+1<w5.heap.size) (hlt:∀k,own k≠0→k<w.heap.size) (hR:R<w.heap.size)
    (h:TabG w5 R B base s own iv nsv X' (.returned (.agg #[.int .i64 c,.int .i64 q])) w6) :
    WordsP w R B base s own iv nsv (tabW X') (.returned (.tuple #[.agg #[.int .i64 0,.int .i64 0],.agg #[.slice none 0 0,.int .i64 0],.agg #[.int .i64 c,.int .i64 q]])) ((w6.setCell ⟨w.heap.size+1+1,0,none⟩ (.int .i64 c)).setCell ⟨w.heap.size+1+1,1,none⟩ (.int .i64 q)):=by
 have hb:∀k,k≠w.heap.size+1+1→((w6.setCell ⟨w.heap.size+1+1,0,none⟩ (.int .i64 c)).setCell ⟨w.heap.size+1+1,1,none⟩ (.int .i64 q)).heap[k]?=w6.heap[k]?:=fun k hk=>by
  show ((w6.setCell ⟨w.heap.size+1+1,0,none⟩ (.int .i64 c)).setCell ⟨w.heap.size+1+1,1,none⟩ (.int .i64 q)).heap[k]?=_;rw[Below.heap_setCell _ _ _ _ hk,Below.heap_setCell _ _ _ _ hk]
 have hzz:((w6.setCell ⟨w.heap.size+1+1,0,none⟩ (.int .i64 c)).setCell ⟨w.heap.size+1+1,1,none⟩ (.int .i64 q)).heap.size=w6.heap.size:=by
  show ((w6.setCell ⟨w.heap.size+1+1,0,none⟩ (.int .i64 c)).setCell ⟨w.heap.size+1+1,1,none⟩ (.int .i64 q)).heap.size=_;simp[World.setCell]
 have hst:∀own',St (FV own) (FV own') w5 w6→St (FV own) (FV own') w ((w6.setCell ⟨w.heap.size+1+1,0,none⟩ (.int .i64 c)).setCell ⟨w.heap.size+1+1,1,none⟩ (.int .i64 q)):=fun own' h=>((((g5.st).trans h).setCell (p:=⟨w.heap.size+1+1,0,none⟩) (.inr (by simp only;omega)) _).setCell (p:=⟨w.heap.size+1+1,1,none⟩) (.inr (by simp only;omega)) _)
 have h5:=g5.size;cases X' with
 | non=>trivial
 | bad c' p' =>
  obtain⟨he,hc,own',h1,h2,h3⟩:=h;have e1:c=(c':Int)∧q=(p':Int):=by simpa [fv]using he
  obtain⟨rfl,rfl⟩:=e1;exact⟨⟨_,_,_,_,_,_,rfl⟩,hc,own',hst own' h1,(World.cell?_of_block (w:=w6) (a:=⟨R,2,none⟩) (hb R (by omega))).trans h2,fun k hk=>(h3 k hk).imp id (fun h=>by omega)⟩
 | ok g' =>
  obtain⟨he,nv',L',own',x',e1,e2,hgm,h1,h3⟩:=h;have e3:c=0∧q=0:=by simpa [f0]using he
  obtain⟨rfl,rfl⟩:=e3;have hz0:own' (w.heap.size+1+1)=0:=Decidable.byContradiction fun h=>(h3 _ h).elim (fun h=>by have:=hlt _ h;omega) (fun h=>by omega)
  have h6:=h1.size;refine⟨0,_,[],w6.heap.size,nv',L',own',x',rfl,e1,e2,⟨hgm.v.kept (fun k hk=>hb k (fun e=>hk (by rw[e];exact hz0))) (Nat.le_of_eq hzz.symm),hgm.nd,hgm.sec,hgm.dep,hgm.many⟩,hst own' h1,fun k hk=>(h3 k hk).imp id (fun h=>by omega),.inl ⟨rfl,rfl⟩,rfl,by omega,fun k hk=>Decidable.byContradiction fun h=>by have:=(hgm.v.lt k h).2;omega⟩
theorem pre_byte (s:ByteArray) (n:Nat):Pl.pre ((bs s).drop n) (bs ⟨#[61]⟩)=decide (Pl.byteAt (bs s) n=61):=by
 show Pl.pre ((bs s).drop n) [61]=_;unfold Pl.byteAt;cases h:(bs s)[n]? with
 | none =>
  rw[List.drop_eq_nil_of_le (by simpa using h)];rfl
 | some c =>
  obtain⟨hl,hc⟩:=List.getElem?_eq_some_iff.1 h;rw[List.drop_eq_getElem_cons hl,hc];have h1:(c==61)=decide (c.toNat=61):=by
   by_cases e:c=61
   · subst e;rfl
   have e2:¬c.toNat=61:=fun e2=>e (by rw[←UInt8.toNat_inj];exact e2)
   simp[e,e2]
  simp[Pl.pre,h1]
theorem TreeV.keptB {W W':World} {base g:Nat} {L:List NdR} (h:TreeV W base g L) (hb:∀k,base≤k→k<W.heap.size→W'.heap[k]?=W.heap[k]?) (hz:W.heap.size≤W'.heap.size):TreeV W' base g L :=
 ⟨⟨h.lt.1,Nat.lt_of_lt_of_le h.lt.2 hz⟩,fun i r hr j v hv=>(World.cell?_of_block (w:=W) (a:=⟨g,i*7+j,none⟩) (hb g h.lt.1 h.lt.2)).trans (h.cell i r hr j v hv),fun i r hr=>by
  obtain⟨a,b,c⟩:=h.rows i r hr;exact⟨a.of_block fun k e=>hb k (a.lt k e).1 (a.lt k e).2,b.of_block fun k e=>hb k (b.lt k e).1 (b.lt k e).2,c.of_block fun k e=>hb k (c.lt k e).1 (c.lt k e).2⟩,h.tg⟩
theorem TreeA.keptB {W W':World} {base:Nat} {v:Value} {L:List NdR} (h:TreeA W base v L) (hb:∀k,base≤k→k<W.heap.size→W'.heap[k]?=W.heap[k]?) (hz:W.heap.size≤W'.heap.size):TreeA W' base v L :=
 h.imp id fun ⟨g,e,hT⟩=>⟨g,e,hT.keptB hb hz⟩
theorem ReadPost2.open {s:ByteArray} {V w2:World} {Y:Pl.Res (Nat × Nat × Pl.Nds)} {e:Ending} (h:ReadPost2 s V Y e w2) (hn:Y ≠ .non):∃(a:Option Addr) (n c:Nat) (r m c' q:Int),e = .returned (.tuple #[.agg #[.slice a n c,.int .i64 r],.int .i64 m,.agg #[.int .i64 c',.int .i64 q]])∧Gr V w2:=by
 cases Y with
 | non=>exact absurd rfl hn
 | bad c p=>exact⟨_,_,_,_,_,_,_,h.1,h.2.2⟩
 | ok r =>
  obtain⟨i,m,st⟩:=r;obtain⟨g,L,h1,_,_,_,_,h2⟩:=h;exact⟨_,_,_,_,_,_,_,h1,h2⟩
theorem readS_min (E:Pl.Env) (l:Pl.Bs) (n d:Nat):Pl.readS E l n (min d 256)=Pl.readS E l n d:=by
 unfold Pl.readS;rw[show min (min d 256) 256=min d 256 by omega]
theorem trim2 (l:Pl.Bs):(Lib.trimPrefix (Lib.trimPrefix l [91]) [91]).length+(if Pl.pre l [91,91] then 2 else if Pl.pre l [91] then 1 else 0)=l.length:=by
 unfold Lib.trimPrefix Lib.hasPrefix;cases l with
 | nil=>rfl
 | cons a l =>
  by_cases ha:a=91
  · subst ha;cases l with
    | nil=>rfl
    | cons b l =>
     by_cases hb:b=91
     · subst hb;simp[Pl.pre,List.isPrefixOf]
     have hb':(b==91)=false:=by simpa using hb
     have hb2:((91:UInt8)==b)=false:=by simpa using Ne.symm hb
     simp[Pl.pre,List.isPrefixOf,hb',hb2]
  have ha':(a==91)=false:=by simpa using ha
  have ha2:((91:UInt8)==a)=false:=by simpa using Ne.symm ha
  cases l <;> simp[Pl.pre,List.isPrefixOf,ha',ha2]
def KeyR (z:Nat) (s:ByteArray) (w1:World) (Y:Pl.Res (List Pl.KW × Nat)) (s9 s10:Value) (w':World):Prop :=
 ∃bK:Nat,s9 = .pointer (some ⟨bK,0,none⟩)∧w1.heap.size≤bK∧bK<w'.heap.size∧St (fun k=>k=z+1+1) (fun k=>k=z+1+1) w1 w'∧match Y with
  | .non=>True
  | .bad c p=>s10 = .int .i64 0∧c≠0∧FX (z+1+1) (.int .i64 c) (.int .i64 p) w'
  | .ok (ws,m)=>s10 = .int .i64 m∧m≤s.size∧FX (z+1+1) (.int .i64 0) (.int .i64 0) w'∧0<ws.length∧ws.length≤s.size+2∧∃gk gs ck cs,FX bK (.slice (some ⟨gk,0,none⟩) ws.length ck) (.slice (some ⟨gs,0,none⟩) ws.length cs) w'∧w1.heap.size≤gk∧w1.heap.size≤gs∧gk<w'.heap.size∧gs<w'.heap.size ∧
      ∀(j:Nat) (t:Pl.Bs) (a b:Nat),ws[j]?=some (t,a,b)→w'.cell? ⟨gk,j,none⟩=some (strV t)∧w'.cell? ⟨gs,j*2,none⟩=some (.int .i64 a)∧w'.cell? ⟨gs,j*2+1,none⟩=some (.int .i64 b)
theorem KeyPost.open {s:ByteArray} {V w2:World} {Y:Pl.Res (List Pl.KW × Nat)} {e:Ending} (h:KeyPost s V Y e w2) (hn:Y ≠ .non):∃(ka:Option Addr) (kn kc:Nat) (sa:Option Addr) (sn sc:Nat) (m c q:Int),e = .returned (.tuple #[.agg #[.slice ka kn kc,.slice sa sn sc],.int .i64 m,.agg #[.int .i64 c,.int .i64 q]])∧Gr V w2:=by
 cases Y with
 | non=>exact absurd rfl hn
 | bad c p=>exact⟨_,_,_,_,_,_,_,_,_,h.1,h.2.2⟩
 | ok r =>
  obtain⟨ws,m⟩:=r;obtain⟨kv,sv,h1,_,hk,hs,_,h0,h2⟩:=h;obtain⟨gk,ck,rfl,_,_⟩:=hk.form h0;obtain⟨gs,cs,rfl,_,_⟩:=hs.form h0;exact⟨_,_,_,_,_,_,_,_,_,h1,h2⟩
theorem keyR_of {z:Nat} {s:ByteArray} {w1 V w2 w3:World} {Y:Pl.Res (List Pl.KW × Nat)} {kv sv:Value} {m c q:Int} (h:KeyPost s V Y (.returned (.tuple #[.agg #[kv,sv],.int .i64 m,.agg #[.int .i64 c,.int .i64 q]])) w2)
    (gV:Gr w1 V) (g2:Gr V w2) (g3:Gr w2 w3) {bK:Nat} (hbK:w1.heap.size≤bK) (oK:bK<V.heap.size∨w2.heap.size≤bK) {x y:Value} (fK:FX bK x y w3) (hz:z+1+1<w1.heap.size) {x' y':Value} (ff:FX (z+1+1) x' y' w1) :
    KeyR z s w1 Y (.pointer (some ⟨bK,0,none⟩)) (.int .i64 m) ((((w3.setCell ⟨bK,0,none⟩ kv).setCell ⟨bK,1,none⟩ sv).setCell ⟨z+1+1,0,none⟩ (.int .i64 c)).setCell ⟨z+1+1,1,none⟩ (.int .i64 q)):=by
 have gA:=(gV.trans g2).trans g3;have hne:bK≠z+1+1:=by omega
 have s1:St (fun k=>k=z+1+1) (fun k=>k=z+1+1) w1 ((((w3.setCell ⟨bK,0,none⟩ kv).setCell ⟨bK,1,none⟩ sv).setCell ⟨z+1+1,0,none⟩ (.int .i64 c)).setCell ⟨z+1+1,1,none⟩ (.int .i64 q)) :=
  ((((gA.st (F:=fun k=>k=z+1+1)).setCell (p:=⟨bK,0,none⟩) (.inr hbK) kv).setCell (p:=⟨bK,1,none⟩) (.inr hbK) sv).setCell (p:=⟨z+1+1,0,none⟩) (.inl rfl) (.int .i64 c)).setCell (p:=⟨z+1+1,1,none⟩) (.inl rfl) (.int .i64 q)
 have hF:=((ff.gr gA).other hne (o:=0) kv).other hne (o:=1) sv |>.set (.int .i64 c) (.int .i64 q);have hK:=((fK.set kv sv).other (Ne.symm hne) (o:=0) (.int .i64 c)).other (Ne.symm hne) (o:=1) (.int .i64 q);have hb:∀k,k≠bK→k≠z+1+1→((((w3.setCell ⟨bK,0,none⟩ kv).setCell ⟨bK,1,none⟩ sv).setCell ⟨z+1+1,0,none⟩ (.int .i64 c)).setCell ⟨z+1+1,1,none⟩ (.int .i64 q)).heap[k]?=w3.heap[k]?:=fun k k1 k2=>by
  rw[Below.heap_setCell _ _ _ _ k2,Below.heap_setCell _ _ _ _ k2,Below.heap_setCell _ _ _ _ k1,Below.heap_setCell _ _ _ _ k1]
 refine⟨bK,rfl,hbK,hK.2.2.2,s1,?_⟩;cases Y with
 | non=>trivial
 | bad c' p' =>
  obtain⟨he,hc,_⟩:=h;have h1:m=0∧c=(c':Int)∧q=(p':Int):=by simp[fv,and_assoc]at he;omega
  obtain⟨rfl,rfl,rfl⟩:=h1;exact⟨rfl,hc,hF⟩
 | ok r =>
  obtain⟨ws,m'⟩:=r;obtain⟨kv',sv',he,hm,hk,hs,hl,h0,_⟩:=h;have h1:kv=kv'∧sv=sv'∧m=(m':Int)∧c=0∧q=0:=by
   simp[f0,and_assoc]at he;obtain⟨a1,a2,a3,a4,a5⟩:=he;exact⟨a1,a2,by omega,a4,a5⟩
  obtain⟨rfl,rfl,rfl,rfl,rfl⟩:=h1;obtain⟨gk,gs,ck,cs,rfl,rfl,l1,l2,l3,l4,hw⟩:=keyRows hk hs h0;have hz1:=gV.size;have hz3:=g3.size;have hzW:=hb;have nk:gk≠bK∧gk≠z+1+1:=⟨by omega,by omega⟩
  have ns:gs≠bK∧gs≠z+1+1:=⟨by omega,by omega⟩
  have tk:∀o,((((w3.setCell ⟨bK,0,none⟩ (.slice (some ⟨gk,0,none⟩) ws.length ck)).setCell ⟨bK,1,none⟩ (.slice (some ⟨gs,0,none⟩) ws.length cs)).setCell ⟨z+1+1,0,none⟩ (.int .i64 0)).setCell ⟨z+1+1,1,none⟩ (.int .i64 0)).cell? ⟨gk,o,none⟩=w2.cell? ⟨gk,o,none⟩:=fun o =>
   (World.cell?_of_block (w:=w3) (a:=⟨gk,o,none⟩) (hb gk nk.1 nk.2)).trans (g3.use.1 _ _ l3)
  have ts:∀o,((((w3.setCell ⟨bK,0,none⟩ (.slice (some ⟨gk,0,none⟩) ws.length ck)).setCell ⟨bK,1,none⟩ (.slice (some ⟨gs,0,none⟩) ws.length cs)).setCell ⟨z+1+1,0,none⟩ (.int .i64 0)).setCell ⟨z+1+1,1,none⟩ (.int .i64 0)).cell? ⟨gs,o,none⟩=w2.cell? ⟨gs,o,none⟩:=fun o =>
   (World.cell?_of_block (w:=w3) (a:=⟨gs,o,none⟩) (hb gs ns.1 ns.2)).trans (g3.use.1 _ _ l4)
  refine⟨rfl,hm,hF,h0,hl,gk,gs,ck,cs,hK,by omega,by omega,?_,?_,fun j t a b hj=>?_⟩
  · simp only[World.setCell,Array.size_modify];omega
  · simp only[World.setCell,Array.size_modify];omega
  obtain⟨a1,a2,a3⟩:=hw j t a b hj;exact⟨(tk _).trans a1,(ts _).trans a2,(ts _).trans a3⟩
set_option maxRecDepth 100000 in
theorem gr_words (Tb:Nat→UInt8 × UInt8) (w0 w:World) (hg0:Gr w0 w) (hRW:RW Tb w0) (R B base:Nat) (hb0:w0.heap.size≤base) (s:ByteArray) (hs:s.size≤20000000) (nv:Value) (L:List NdR) (own:Nat→Nat) (x:GrX) (g:Pl.Gst) (h:GM w R B base s nv L own x g)
    (hL:L.length≤20000001) (hm:x.many≤30000000) (hdep:g.dep≤100000000) (n:Nat) (hn:n<s.size) (X:Pl.Res (Nat × Nat × Pl.Nds × Pl.Gst)) (hX:Pl.wordsG ⟨Pl.strS Tb,Pl.scalS⟩ (bs s) n g=X) (hne:X ≠ .non) :
    Calls Tryz.prog 35 #[.pointer (some ⟨R,0,none⟩),.int .i64 n] w (WordsP w R B base s own x.iv x.nsv X):=by
 have hb:=Pl.blanksAt_le (bs s) n (by rw[bs_length];omega);rw[bs_length]at hb;obtain⟨n1,hn1⟩:∃n1,Pl.blanksAt (bs s) n=n1:=⟨_,rfl⟩
 rw[hn1]at hb;obtain⟨hb1,hb2⟩:=hb;have hXX:=hX;unfold Pl.wordsG at hXX;simp only at hXX;rw[hn1]at hXX;have HX:=Lib.hid hXX;have H:=Lib.hid h;have HG0:=Lib.hid hg0;have HRW:=Lib.hid hRW;have HN1:=Lib.hid hn1;have hRw:=h.v.R_lt;obtain⟨⟨c0,c1,c2,c3,c4,c5,c6⟩,c7,c8,fz⟩:=h.v.cells;have i0:(0:Int)≤(n1:Int):=by omega
 have i1:(n1:Int)≤(s.size:Int):=by omega
 clear h hXX hX hg0 hRW hn1 c0 c1 c3 c4 c5 c6 c7 c8 fz;go_enter Tryz.func35,Tryz.ntmps35
 go_upto_region 1 with fail
 obtain⟨W,hW⟩:∃W,((w.alloc (.cells #[.int .i64 0,.int .i64 0] 60)).alloc (.cells #[.slice none 0 0,.int .i64 0] 29)).alloc (.cells #[.int .i64 0,.int .i64 0] 31)=W:=⟨_,rfl⟩
 obtain⟨hB,gW,hz⟩:=WB3.new w (.int .i64 0) (.int .i64 0) (.slice none 0 0) (.int .i64 0) (.int .i64 0) (.int .i64 0) 60 29 31;rw[hW]at hB gW hz ⊢;clear hW;have hS:W.drew.cell? ⟨R,2,none⟩=some (.string s):=(gW.drew.use.1 R 2 hRw.2).trans c2;have HB:=Lib.hid hB;have HG:=Lib.hid gW;have HZ:=Lib.hid hz;clear hB gW hz c2;refine Reg.begin' (W:=fun _=>true) (S:=fun W=>W.cell? ⟨R,2,none⟩=some (.string s)) (by kernel_rfl) ?_;refine Z296 ?_;refine Reg.ty 8 ?_;refine Reg.on 9 ?_;go_simp;refine (tk_Blanks s _ n rfl (by omega) (by omega) _).mono ?_;rw[HN1.out];rintro e w1 ⟨rfl,g1⟩;have hRW:=Nat.lt_of_lt_of_le hRw.2 HG.out.size;have hS1:w1.cell? ⟨R,2,none⟩=some (.string s):=(g1.use.1 R 2 hRW).trans hS;refine Z64 ?_;refine Z65 ?_;refine Z12 ?_;have g1':Gr W w1:=(Gr.refl W).drew.trans g1;have HG1:=Lib.hid (HG.out.trans g1');have HB1:=Lib.hid (HB.out.gr g1');have HZ1:=Lib.hid (show w.heap.size+1+1+1≤w1.heap.size by have:=g1'.size;have:=HZ.out;omega);clear g1 g1' HB HG HZ;obtain⟨⟨p0,p1,pf,pl⟩,⟨p2,p3,pf',pl'⟩,⟨p4,p5,pf'',pl''⟩⟩:=id HB1.out;have k2:w1.cell? ⟨R,2,none⟩=some (.string s):=hS1;have hR1:R<w1.heap.size:=Nat.lt_of_lt_of_le hRw.2 HG1.out.size;clear hS hS1 hRW;by_cases hend:n1=s.size
 · have hbl:Pl.isBlankI ((bs s).drop n1)=true:=by rw[List.drop_eq_nil_of_le (by rw[bs_length];omega)];rfl
   have hXX:=HX.out;rw[hbl,if_pos rfl]at hXX;have hrest:s.extract n1 s.size=ByteArray.empty:=by
    apply ByteArray.ext;apply Array.toList_inj.1;rw[show (s.extract n1 s.size).data.toList=(bs s).drop n1 from bs_extract s n1,List.drop_eq_nil_of_le (by rw[bs_length];omega)];rfl
   clear hbl hend;exact J68
 obtain⟨rest,hrest,r1,r2,r3,r0,r4⟩:=rest_on s n1 (by omega);have hbI:Pl.isBlankI ((bs s).drop n1)=(bs ⟨#[35,13,10]⟩).contains (rest[0]'r0):=by
  rw[crlf_has,r4,idx_bs s n1 (by omega)];rfl
 have hXX:=HX.out;cases hbl:Pl.isBlankI ((bs s).drop n1) with
 | true =>
  rw[hbl,if_pos rfl]at hXX;rw[hbl]at hbI;have HBI:=Lib.hid hbI.symm;clear hbl hbI r4;exact J68
 | false =>
  rw[hbl,if_neg (by simp)]at hXX;rw[hbl]at hbI;have HBI:=Lib.hid hbI.symm;have HXX:=Lib.hid hXX;clear hbl hbI r4 hXX
  go_upto_region 4 with (go_at_call 43;refine (indexByte_at ⟨#[35,13,10]⟩ _ false HBI.out _).mono ?_;rintro e w3 ⟨⟨i,rfl,hi⟩,hw3⟩;subst w3;have hi2:decide (i<0)=true:=by (simp at hi ⊢;omega))
  have hbr:bs rest=(bs s).drop n1:=by rw[←hrest,bs_extract]
  obtain⟨m,hmdef⟩:∃m,(if Pl.pre ((bs s).drop n1) [91,91] then 2 else if Pl.pre ((bs s).drop n1) [91] then 1 else 0)=m:=⟨_,rfl⟩
  have hsz:=trim2 (bs rest);rw[hbr,hmdef]at hsz;rw[List.length_drop,bs_length]at hsz;have hrs:rest.size=s.size-n1:=by have:=bs_length rest;rw[hbr,List.length_drop,bs_length]at this;omega
  obtain⟨inn,hinn⟩:∃inn:ByteArray,(⟨(Lib.trimPrefix (Lib.trimPrefix (bs rest) [91]) [91]).toArray⟩:ByteArray)=inn:=⟨_,rfl⟩
  have his:inn.size+m=s.size-n1:=by
   rw[←hsz,←hinn,hbr];simp[ByteArray.size]
  have HTR:=Lib.hid (fun W=>Tryz.strings_TrimPrefix rest ⟨#[91]⟩ W);have HTR2:Hid (∀W,Calls Tryz.prog 44 #[.string ⟨(Lib.trimPrefix rest.data.toList [91]).toArray⟩,.string ⟨#[91]⟩] W fun e w'=>e = .returned (.string inn)∧w'=W):=fun W=>by
   have h1:=Tryz.strings_TrimPrefix ⟨(Lib.trimPrefix rest.data.toList [91]).toArray⟩ ⟨#[91]⟩ W;rw[←hinn];exact h1
  have HIS:=Lib.hid his;have HRS:=Lib.hid hrs;have hxx:=HXX.out;rw[hmdef]at hxx;have HXX:=Lib.hid hxx;have HMD:=Lib.hid hmdef;clear hmdef hsz hbr hinn hxx his hrs;go_wp2_with fail;refine (HTR.out _).mono ?_;rintro e w3 ⟨rfl,hw3⟩;subst w3;go_wp2_with fail;refine (HTR2.out _).mono ?_;rintro e w3 ⟨rfl,hw3⟩;subst w3;obtain⟨bq,hbq⟩:∃bq,Pl.blanksAt (bs s) (n1+m)=bq:=⟨_,rfl⟩
  have hbm:=(Pl.blanksAt_le (bs s) (n1+m) (by rw[bs_length];have:=HIS.out;omega)).2;rw[hbq,bs_length]at hbm;have hnm:n1+m≤s.size:=by have:=HIS.out;omega
  have wsub:IntKind.i64.wrap ((s.size:Int)-(inn.size:Int))=(n1:Int)+(m:Int):=by have:=HIS.out;rw[IntWalk.i64_in _ ⟨by omega,by omega⟩];omega
  obtain⟨Y,hY⟩:∃Y,Pl.keyS ⟨Pl.strS Tb,Pl.scalS⟩ (bs s) bq=Y:=⟨_,rfl⟩
  have hxx:=HXX.out;rw[hbq,hY]at hxx;have hYn:Y ≠ .non:=fun e=>by rw[e]at hxx;exact hne hxx.symm
  have HXX:=Lib.hid hxx;have HBM:=Lib.hid hbq;have HREAD:=Lib.hid (fun V (q:Gr w0 V)=>tk_Read Tb ⟨Pl.strS Tb,Pl.scalS⟩ rfl s _ bq rfl hbm hs Y hY hYn V (HRW.out.gr q).q);have HG01:=Lib.hid (HG0.out.trans HG1.out);have hz3:w.heap.size+1+1<w1.heap.size:=by have:=HZ1.out;omega
  clear hbq hY hxx
  go_upto_region 5 with fail
  go_cut [9,10] (fun s9 s10 W'=>KeyR w.heap.size s w1 Y s9 s10 W')
  case first =>
   have hS:w1.drew.cell? ⟨R,2,none⟩=some (.string s):=k2;refine Reg.begin' (W:=fun i=>i != 17 && i != 23 && i != 25) (S:=fun W=>W.cell? ⟨R,2,none⟩=some (.string s)) (by kernel_rfl) ?_;refine Z296 ?_;refine Z46 ?_;refine Reg.tl 11 hS ?_ (hy:=by intro w hSw;obtain s0:=hSw;go_simp;try with_reducible rfl);refine Z47 ?_;refine Reg.ty 15 ?_;refine Z173 ?_;refine Z14 ?_;intro j hj;rcases hj with rfl|rfl
   · skip;refine Z157 ?_;go_simp;refine (tk_Blanks s _ (n1+m) (by omega) (by omega) (by omega) (w1.drew)).mono ?_;rw[HBM.out];rintro e wb ⟨rfl,gb⟩;have hSb:wb.cell? ⟨R,2,none⟩=some (.string s):=(gb.use.1 R 2 hR1).trans k2
     first|refine (And.intro (hSb) ?_:_∧Reg.anyW _ _ _ _ _ _ _ _ _ _)|refine (And.intro (fun _=>hSb) ?_:_∧Reg.anyW _ _ _ _ _ _ _ _ _ _)|refine (And.intro (fun _ _=>hSb) ?_:_∧Reg.anyW _ _ _ _ _ _ _ _ _ _)|skip
     refine Z2 ?_;have gb':Gr w1 wb:=(Gr.refl w1).drew.trans gb;refine Reg.all (rs:=[17,22]) (by kernel_rfl) (by simp) ?_;refine Z14 ?_;intro j hj;rcases hj with rfl|rfl
     · skip;refine Reg.one (i:=17) rfl (by rfl) ?_;go_simp;refine (HREAD.out (wb) (HG01.out.trans gb')).mono ?_;rintro e w2 hpost;obtain⟨ka,kn,kc,sa,sn,sc,em,ec,eq,rfl,g2⟩:=hpost.open hYn;refine Z2 ?_;refine Z234 ?_;refine Reg.on 22 ?_;go_simp;have hv:=(gb'.trans g2).size;obtain⟨fK,g3,z3⟩:=bx2 w2 (.slice none 0 0) (.slice none 0 0) 77
       first|refine (And.intro (((g2.trans g3).use.1 R 2 (Nat.lt_of_lt_of_le hR1 gb'.size)).trans hSb) ?_:_∧Reg.anyW _ _ _ _ _ _ _ _ _ _)|refine (And.intro (fun _=>((g2.trans g3).use.1 R 2 (Nat.lt_of_lt_of_le hR1 gb'.size)).trans hSb) ?_:_∧Reg.anyW _ _ _ _ _ _ _ _ _ _)|refine (And.intro (fun _ _=>((g2.trans g3).use.1 R 2 (Nat.lt_of_lt_of_le hR1 gb'.size)).trans hSb) ?_:_∧Reg.anyW _ _ _ _ _ _ _ _ _ _)|skip
       refine Z2 ?_;obtain⟨W3,hW3⟩:∃W3,w2.alloc (.cells #[.slice none 0 0,.slice none 0 0] 77)=W3:=⟨_,rfl⟩
       rw[hW3]at fK g3 z3 ⊢;clear hW3;have gA:=(gb'.trans g2).trans g3;refine Z302 ?_;intro r0' r1' rf' rl' k0' k1' kf' kl';refine Z292 ?_;go_wp2_with fail
       go_meet
       exact keyR_of hpost gb' g2 g3 hv (.inr (Nat.le_refl _)) fK hz3 HB1.out.f
     skip;refine Z66 ?_;obtain⟨fK,g3,z3⟩:=bx2 wb (.slice none 0 0) (.slice none 0 0) 77;have hSc:=(g3.use.1 R 2 (Nat.lt_of_lt_of_le hR1 gb'.size)).trans hSb
     first|refine (And.intro (hSc) ?_:_∧Reg.anyW _ _ _ _ _ _ _ _ _ _)|refine (And.intro (fun _=>hSc) ?_:_∧Reg.anyW _ _ _ _ _ _ _ _ _ _)|refine (And.intro (fun _ _=>hSc) ?_:_∧Reg.anyW _ _ _ _ _ _ _ _ _ _)|skip
     refine Z2 ?_;obtain⟨W3,hW3⟩:∃W3,wb.alloc (.cells #[.slice none 0 0,.slice none 0 0] 77)=W3:=⟨_,rfl⟩
     rw[hW3]at fK g3 z3 ⊢;clear hW3 hSc;refine Reg.all (rs:=[17]) (by kernel_rfl) (by simp) ?_;intro j hj;obtain rfl:=List.mem_singleton.1 hj;clear hj;have gV:=gb'.trans g3;refine Reg.one (i:=17) rfl (by rfl) ?_;go_simp;refine (HREAD.out (W3) (HG01.out.trans gV)).mono ?_;rintro e w2 hpost;obtain⟨ka,kn,kc,sa,sn,sc,em,ec,eq,rfl,g2⟩:=hpost.open hYn;refine Z2 ?_;refine Z234 ?_;have hv:=gb'.size;have gA:=gV.trans g2;have fK:=fK.gr g2;refine Z302 ?_;intro r0' r1' rf' rl' k0' k1' kf' kl';refine Z292 ?_;go_wp2_with fail
     go_meet
     exact keyR_of hpost gV g2 (Gr.refl _) hv (.inl (by rw[z3];omega)) fK hz3 HB1.out.f
   skip;refine Z66 ?_;obtain⟨fK,g3,z3⟩:=bx2 w1 (.slice none 0 0) (.slice none 0 0) 77;have hSc:(w1.alloc (.cells #[.slice none 0 0,.slice none 0 0] 77)).drew.cell? ⟨R,2,none⟩=some (.string s):=((g3.drew).use.1 R 2 hR1).trans k2
   first|refine (And.intro (hSc) ?_:_∧Reg.anyW _ _ _ _ _ _ _ _ _ _)|refine (And.intro (fun _=>hSc) ?_:_∧Reg.anyW _ _ _ _ _ _ _ _ _ _)|refine (And.intro (fun _ _=>hSc) ?_:_∧Reg.anyW _ _ _ _ _ _ _ _ _ _)|skip
   refine Z2 ?_;obtain⟨W3,hW3⟩:∃W3,(w1.alloc (.cells #[.slice none 0 0,.slice none 0 0] 77)).drew=W3:=⟨_,rfl⟩
   have fK:=fK.gr (Gr.refl _).drew;have g3:=g3.drew;have z3:W3.heap.size=w1.heap.size+1:=by rw[←hW3];exact z3
   rw[hW3]at fK g3 hSc ⊢;clear hW3;refine Reg.on 16 ?_;go_simp;refine (tk_Blanks s _ (n1+m) (by omega) (by omega) (by omega) (W3)).mono ?_;rw[HBM.out];rintro e wb ⟨rfl,gb⟩;have hSb:wb.cell? ⟨R,2,none⟩=some (.string s):=(gb.use.1 R 2 (by omega)).trans hSc
   first|refine (And.intro (hSb) ?_:_∧Reg.anyW _ _ _ _ _ _ _ _ _ _)|refine (And.intro (fun _=>hSb) ?_:_∧Reg.anyW _ _ _ _ _ _ _ _ _ _)|refine (And.intro (fun _ _=>hSb) ?_:_∧Reg.anyW _ _ _ _ _ _ _ _ _ _)|skip
   refine Z2 ?_;refine Reg.all (rs:=[17]) (by kernel_rfl) (by simp) ?_;intro j hj;obtain rfl:=List.mem_singleton.1 hj;clear hj;have gV:=g3.trans gb;refine Reg.one (i:=17) rfl (by rfl) ?_;go_simp;refine (HREAD.out (wb) (HG01.out.trans gV)).mono ?_;rintro e w2 hpost;obtain⟨ka,kn,kc,sa,sn,sc,em,ec,eq,rfl,g2⟩:=hpost.open hYn;refine Z2 ?_;refine Z234 ?_;have hbz:=gb.size;have gA:=gV.trans g2;have fK:=(fK.gr gb).gr g2;refine Z302 ?_;intro r0' r1' rf' rl' k0' k1' kf' kl';refine Z292 ?_;go_wp2_with fail
   go_meet
   exact keyR_of hpost gV g2 (Gr.refl _) (Nat.le_refl _) (.inl (by omega)) fK hz3 HB1.out.f
  case rest =>
   obtain⟨bK,rfl,hbK,hbKl,hst,hYY⟩:=hcut;have hB2:FX w.heap.size (.int .i64 0) (.int .i64 0) wc∧FX (w.heap.size+1) (.slice none 0 0) (.int .i64 0) wc:=⟨HB1.out.i.st hst (by omega),HB1.out.t.st hst (by omega)⟩
   have hM2:GM wc R B base s nv L own x g:=⟨(H.out.v.gr HG1.out).kept (fun k hk=>hst.block k (Nat.lt_of_lt_of_le (H.out.v.lt k hk).2 HG1.out.size) (fun e=>by have:=(H.out.v.lt k hk).2;omega)) hst.size,H.out.nd,H.out.sec,H.out.dep,H.out.many⟩
   have hG2:Gr w wc:=hst.below HG1.out (fun k e=>by omega);have HB2:=Lib.hid hB2;have HM2:=Lib.hid hM2;have HG2:=Lib.hid hG2;have hgq:m≤2:=by have:=HMD.out;split at this <;> (try split at this) <;> omega
   have wbr:IntKind.i64.wrap ((rest.size:Int)-(inn.size:Int))=(m:Int):=by have:=HIS.out;have:=HRS.out;rw[IntWalk.i64_in _ ⟨by omega,by omega⟩];omega
   have hxx:=HXX.out;clear p0 p1 pf pl p2 p3 pf' pl' p4 p5 pf'' pl'' hB2 hM2 hG2 k2 hst;obtain⟨⟨p0,p1,pf,pl⟩,⟨p2,p3,pf',pl'⟩⟩:=id HB2.out;cases Y with
   | non=>exact absurd rfl hYn
   | bad c p =>
    obtain⟨rfl,hc0,hF⟩:=hYY;simp only at hxx;obtain⟨v0,v1,vf,vl⟩:=id hF;have HF:=Lib.hid hF;go_wp2_with fail;refine Z181 ?_;intro w5 g5
    go_upto_region 8 with fail
    have hB3:WB3 w.heap.size (.int .i64 0) (.int .i64 0) (.slice none 0 0) (.int .i64 0) (.int .i64 c) (.int .i64 p) w5:=⟨HB2.out.1.gr g5,HB2.out.2.gr g5,HF.out.gr g5⟩
    have hS3:=hB3.gr (Gr.refl w5).drew;clear p0 p1 pf pl p2 p3 pf' pl' v0 v1 vf vl hF;obtain⟨⟨p0,p1,pf,pl⟩,⟨p2,p3,pf',pl'⟩,⟨p4,p5,pf'',pl''⟩⟩:=id hB3;refine Reg.begin' (W:=fun _=>true) (S:=WB3 w.heap.size (.int .i64 0) (.int .i64 0) (.slice none 0 0) (.int .i64 0) (.int .i64 c) (.int .i64 p)) (by kernel_rfl) ?_;refine Z4 ?_;go_wp2_with fail;obtain⟨⟨q0,q1,qf,ql⟩,⟨y0,y1,yf,yl⟩,⟨v0',v1',vf',vl'⟩⟩:=hS3;have gE:=(HG2.out.trans g5).drew;rw[←hxx];exact bodyPost_ret (v := .tuple #[.agg #[.int .i64 0,.int .i64 0],.agg #[.slice none 0 0,.int .i64 0],fv c p]) (by simp[results,Tryz.results35,go_sem,q0,q1,qf,ql,y0,y1,yf,yl,v0',v1',vf',vl']) rfl ⟨⟨_,_,_,_,_,_,rfl⟩,hc0,own,(St.refl (FV own) w).gr gE,(H.out.gr gE).v.cells.1.2.2.1,fun k hk => .inl hk⟩
   | ok r =>
    obtain⟨ws,em⟩:=r;obtain⟨rfl,hem,hF,h0,hwl,gk,gs,ck,cs,hK,l1,l2,l3,l4,hrows⟩:=hYY;simp only at hxx;obtain⟨v0,v1,vf,vl⟩:=id hF;have HF:=Lib.hid hF;have HK:=Lib.hid hK;have hw1:w.heap.size≤w1.heap.size:=HG1.out.size;have hk0:own gk=0:=Decidable.byContradiction fun h=>by have:=(H.out.v.lt gk h).2;omega
    have hs0:own gs=0:=Decidable.byContradiction fun h=>by have:=(H.out.v.lt gs h).2;omega
    have hm3:m=2∨m=1∨m=0:=by omega
    clear hK hgq;rcases hm3 with rfl|rfl|rfl
    · rw[if_pos rfl]at hxx;obtain⟨X',hX'⟩:∃X',Pl.moreG g ws=X':=⟨_,rfl⟩
      have hxx2:tabW X'=X:=by rw[hX']at hxx;rw[←hxx];cases X' <;> rfl
      have hX'n:X' ≠ .non:=fun e=>by rw[e]at hxx2;exact hne hxx2.symm
      clear hxx;go_wp2_with fail;refine Z206 ?_;intro w5 g5
      go_upto_region 10 with fail
      refine Z114 ?_;intro hB3 hK5 hS3 g5d;have HCALL:=Lib.hid (gr_more w5.drew R B base s nv L own x g (HM2.out.gr g5d) hL hm gk gs ck cs ws (ws.length-1) (by omega) (by omega) (Nat.lt_of_lt_of_le l3 g5d.size) (Nat.lt_of_lt_of_le l4 g5d.size) hk0 hs0 (fun j t a b hj=>⟨(g5d.use.1 _ _ l3).trans (hrows j t a b hj).1,(g5d.use.1 _ _ l4).trans (hrows j t a b hj).2.1,(g5d.use.1 _ _ l4).trans (hrows j t a b hj).2.2⟩) X' hX' hX'n);exact J83
    · rw[if_neg (by omega),if_pos rfl]at hxx;obtain⟨X',hX'⟩:∃X',Pl.tableG g ws=X':=⟨_,rfl⟩
      have hxx2:tabW X'=X:=by rw[hX']at hxx;rw[←hxx];cases X' <;> rfl
      have hX'n:X' ≠ .non:=fun e=>by rw[e]at hxx2;exact hne hxx2.symm
      clear hxx;go_wp2_with fail;refine Z206 ?_;intro w5 g5
      go_upto_region 12 with fail
      refine Z114 ?_;intro hB3 hK5 hS3 g5d;have HCALL:=Lib.hid (gr_table w5.drew R B base s nv L own x g (HM2.out.gr g5d) hL hm gk gs ck cs ws (ws.length-1) (by omega) (by omega) (Nat.lt_of_lt_of_le l3 g5d.size) (Nat.lt_of_lt_of_le l4 g5d.size) hk0 hs0 (fun j t a b hj=>⟨(g5d.use.1 _ _ l3).trans (hrows j t a b hj).1,(g5d.use.1 _ _ l4).trans (hrows j t a b hj).2.1,(g5d.use.1 _ _ l4).trans (hrows j t a b hj).2.2⟩) X' hX' hX'n);exact J83
    rw[if_neg (by omega),if_neg (by omega)]at hxx;obtain⟨X',hX'⟩:∃X',Pl.pairG g ws=X':=⟨_,rfl⟩
    rw[hX']at hxx;have hX'n:X' ≠ .non:=fun e=>by rw[e]at hxx;exact hne hxx.symm
    obtain⟨kk0,kk1,kkf,kkl⟩:=id HK.out;go_wp2_with fail;refine Z206 ?_;intro w5 g5;refine Z311 ?_;intro hB3 hK5;have HCALL:=Lib.hid (gr_pair w5 R B base s nv L own x g (HM2.out.gr g5) hdep hL hm gk gs ck cs ws (ws.length-1) (by omega) (by omega) (Nat.lt_of_lt_of_le l3 g5.size) (Nat.lt_of_lt_of_le l4 g5.size) hk0 hs0 (fun j t a b hj=>⟨(g5.use.1 _ _ l3).trans (hrows j t a b hj).1,(g5.use.1 _ _ l4).trans (hrows j t a b hj).2.1,(g5.use.1 _ _ l4).trans (hrows j t a b hj).2.2⟩) X' hX' hX'n);have hG5:=HG2.out.trans g5;clear p0 p1 pf pl p2 p3 pf' pl' v0 v1 vf vl hF kk0 kk1 kkf kkl;obtain⟨kk0,kk1,kkf,kkl⟩:=hK5;obtain⟨⟨p0,p1,pf,pl⟩,⟨p2,p3,pf',pl'⟩,⟨p4,p5,pf'',pl''⟩⟩:=id hB3;have hnb:∀k,w.heap.size≤k→¬FV own k:=fun k hk e=>by have:=(H.out.v.lt k e).2;omega
    have HB5:=Lib.hid hB3;have HG5:=Lib.hid hG5;have HXX:=Lib.hid hxx;have HHX:=Lib.hid hX';have hz5:w.heap.size+1+1<w5.heap.size:=pl'';obtain⟨e1,he1⟩:∃e1,Pl.blanksAt (bs s) em=e1:=⟨_,rfl⟩
    have hbe:=(Pl.blanksAt_le (bs s) em (by rw[bs_length];omega)).2;rw[he1,bs_length]at hbe;have HE1:=Lib.hid he1;clear hB3 hG5 hxx hX' hrows he1;go_wp2_with fail;refine HCALL.out.mono ?_;clear HCALL;cases X' with
    | non=>exact absurd rfl hX'n
    | bad c p =>
     rintro e w6 ⟨⟨nn,dd,he⟩,hc0,own2,st2,hs2,on2⟩;subst he;have hzz:=st2.size;have hB6:=HB5.out.st st2 (fun k h1 _=>hnb k h1);have hst6:=(HG5.out.st).trans st2;have hXF:=fx2s hB6.i hB6.f (by omega) hst6 (Nat.le_refl _) (by omega) (.int .i64 nn) (.int .i64 dd) (.int .i64 c) (.int .i64 p);obtain⟨⟨a0,a1,af,al⟩,⟨a2,a3,af',al'⟩,⟨a4,a5,af'',al''⟩⟩:=id hB6;clear p0 p1 pf pl p2 p3 pf' pl' p4 p5 pf'' pl'' kk0 kk1 kkf kkl;have hRw6:R<w6.heap.size:=by omega
     go_wp2_with fail;obtain⟨W7,hW7⟩:∃W',((((w6.setCell ⟨w.heap.size,0,none⟩ (.int .i64 nn)).setCell ⟨w.heap.size,1,none⟩ (.int .i64 dd)).setCell ⟨w.heap.size+1+1,0,none⟩ (.int .i64 c)).setCell ⟨w.heap.size+1+1,1,none⟩ (.int .i64 p))=W':=⟨_,rfl⟩
     rw[hW7]at hXF ⊢;clear hW7 a0 a1 af al a2 a3 af' al' a4 a5 af'' al'';obtain⟨hI7,hF7,hST7,hH7,hZ7⟩:=hXF;have hT7:=hB6.t.of_block (hH7 _ (by omega) (by omega)) hZ7;have hk7:W7.cell? ⟨R,2,none⟩=some (.string s):=(World.cell?_of_block (w:=w6) (a:=⟨R,2,none⟩) (hH7 R (by omega) (by omega))).trans hs2;refine (tk_Blanks s _ em rfl hem (by omega) _).mono ?_;rw[HE1.out];rintro e w8 ⟨rfl,g8⟩;have hB8:WB3 w.heap.size (.int .i64 nn) (.int .i64 dd) (.slice none 0 0) (.int .i64 0) (.int .i64 c) (.int .i64 p) w8:=⟨hI7.gr g8,hT7.gr g8,hF7.gr g8⟩
     have hk8:w8.cell? ⟨R,2,none⟩=some (.string s):=(g8.use.1 R 2 (by omega)).trans hk7;have HB8:=Lib.hid hB8;have HST8:=Lib.hid (hST7.gr g8);have hz8:W7.heap.size≤w8.heap.size:=g8.size;obtain⟨⟨p0,p1,pf,pl⟩,⟨p2,p3,pf',pl'⟩,⟨p4,p5,pf'',pl''⟩⟩:=hB8;have hR8:R<w8.heap.size:=by omega
     clear hI7 hT7 hF7 hst6 hB6 hST7;go_wp2_with fail;refine Z181 ?_;intro w9 g9
     go_upto_region 17 with fail
     have hB3:=HB8.out.gr g9;have hS3:=hB3.gr (Gr.refl w9).drew;clear p0 p1 pf pl p2 p3 pf' pl' p4 p5 pf'' pl'';obtain⟨⟨p0,p1,pf,pl⟩,⟨p2,p3,pf',pl'⟩,⟨p4,p5,pf'',pl''⟩⟩:=id hB3;refine Reg.begin' (W:=fun _=>true) (S:=WB3 w.heap.size (.int .i64 nn) (.int .i64 dd) (.slice none 0 0) (.int .i64 0) (.int .i64 c) (.int .i64 p)) (by kernel_rfl) ?_;refine Z4 ?_;go_wp2_with fail;obtain⟨⟨q0,q1,qf,ql⟩,⟨y0,y1,yf,yl⟩,⟨v0',v1',vf',vl'⟩⟩:=hS3;have hxx:=HXX.out
     try simp only at hxx
     rw[←hxx];exact bodyPost_ret (v := .tuple #[.agg #[.int .i64 nn,.int .i64 dd],.agg #[.slice none 0 0,.int .i64 0],fv c p]) (by simp[results,Tryz.results35,go_sem,q0,q1,qf,ql,y0,y1,yf,yl,v0',v1',vf',vl']) rfl ⟨⟨_,_,_,_,_,_,rfl⟩,hc0,own2,(HST8.out.gr g9).drew,(g9.drew.use.1 R 2 hR8).trans hk8,fun k hk=>(on2 k hk).imp id (fun h=>by omega)⟩
    | ok r =>
     obtain⟨into,dd,g1⟩:=r;rintro e w6 ⟨he,nv2,L2,own2,hgm2,st2,on2⟩;subst he;have hzz:=st2.size;have hs2:=hgm2.v.cells.1.2.2.1;have hB6:=HB5.out.st st2 (fun k h1 _=>hnb k h1);have hst6:=(HG5.out.st).trans st2;have hXF:=fx2s hB6.i hB6.f (by omega) hst6 (Nat.le_refl _) (by omega) (.int .i64 into) (.int .i64 dd) (.int .i64 0) (.int .i64 0);obtain⟨⟨a0,a1,af,al⟩,⟨a2,a3,af',al'⟩,⟨a4,a5,af'',al''⟩⟩:=id hB6;clear p0 p1 pf pl p2 p3 pf' pl' p4 p5 pf'' pl'' kk0 kk1 kkf kkl;have hRw6:R<w6.heap.size:=by omega
     go_wp2_with fail;obtain⟨W7,hW7⟩:∃W',((((w6.setCell ⟨w.heap.size,0,none⟩ (.int .i64 into)).setCell ⟨w.heap.size,1,none⟩ (.int .i64 dd)).setCell ⟨w.heap.size+1+1,0,none⟩ (.int .i64 0)).setCell ⟨w.heap.size+1+1,1,none⟩ (.int .i64 0))=W':=⟨_,rfl⟩
     rw[hW7]at hXF ⊢;clear hW7 a0 a1 af al a2 a3 af' al' a4 a5 af'' al'';obtain⟨hI7,hF7,hST7,hH7,hZ7⟩:=hXF;have hT7:=hB6.t.of_block (hH7 _ (by omega) (by omega)) hZ7;have hk7:W7.cell? ⟨R,2,none⟩=some (.string s):=(World.cell?_of_block (w:=w6) (a:=⟨R,2,none⟩) (hH7 R (by omega) (by omega))).trans hs2;refine (tk_Blanks s _ em rfl hem (by omega) _).mono ?_;rw[HE1.out];rintro e w8 ⟨rfl,g8⟩;have hB8:WB3 w.heap.size (.int .i64 into) (.int .i64 dd) (.slice none 0 0) (.int .i64 0) (.int .i64 0) (.int .i64 0) w8:=⟨hI7.gr g8,hT7.gr g8,hF7.gr g8⟩
     have hk8:w8.cell? ⟨R,2,none⟩=some (.string s):=(g8.use.1 R 2 (by omega)).trans hk7;have HB8:=Lib.hid hB8;have HST8:=Lib.hid (hST7.gr g8);have hz8:W7.heap.size≤w8.heap.size:=g8.size;obtain⟨⟨p0,p1,pf,pl⟩,⟨p2,p3,pf',pl'⟩,⟨p4,p5,pf'',pl''⟩⟩:=hB8;have hR8:R<w8.heap.size:=by omega
     clear hI7 hT7 hF7 hst6 hB6 hST7;go_wp2_with fail;refine Z206 ?_;intro w9 g9;have hk9:=(g9.use.1 R 2 hR8).trans hk8;have hR9:=Nat.lt_of_lt_of_le hR8 g9.size;have e10:(0:Int)≤(e1:Int):=by omega
     have e11:(e1:Int)≤(s.size:Int):=by omega
     have hz9:=g9.size;have HB9:=Lib.hid (HB8.out.gr g9);have HST9:=Lib.hid (HST8.out.gr g9);have hfree:∀k,w.heap.size≤k→k≤w.heap.size+1+1→own2 k=0:=fun k h1 h2=>Decidable.byContradiction fun h=>(on2 k h).elim (fun h=>by have:=(H.out.v.lt k h).2;omega) (fun h=>by omega)
     have hGM9:GM w9 R B base s nv2 L2 own2 x g1:=⟨(hgm2.v.kept (w':=W7) (fun k hk=>hH7 k (fun e=>hk (hfree k (by omega) (by omega))) (fun e=>hk (hfree k (by omega) (by omega)))) hZ7).gr (g8.trans g9),hgm2.nd,hgm2.sec,hgm2.dep,hgm2.many⟩
     have HGM9:=Lib.hid hGM9;have hxx:=HXX.out
     try simp only at hxx
     rw[HE1.out]at hxx;clear hGM9 hgm2 hk8 p0 p1 pf pl p2 p3 pf' pl' p4 p5 pf'' pl'' hH7 hk7 g8 hs2;obtain⟨⟨p0,p1,pf,pl⟩,⟨p2,p3,pf',pl'⟩,⟨p4,p5,pf'',pl''⟩⟩:=id HB9.out;by_cases h61:Pl.byteAt (bs s) e1=61
     · rw[if_pos h61]at hxx;have HP:=Lib.hid (prefix_at s ⟨#[61]⟩ e1 true (by rw[pre_byte];exact decide_eq_true h61));have he1s:e1<s.size:=Decidable.byContradiction fun hle=>by rw[byteAt_ge s e1 hle]at h61;omega
       clear h61;go_wp2_with fail;refine (HP.out _).mono ?_;rintro e w10 ⟨rfl,hw10⟩;subst w10;obtain⟨e2,he2⟩:∃e2,Pl.blanksAt (bs s) (e1+1)=e2:=⟨_,rfl⟩
       have hb2:=(Pl.blanksAt_le (bs s) (e1+1) (by rw[bs_length];omega)).2;rw[he2,bs_length]at hb2;obtain⟨Xr,hXr⟩:∃Xr,Pl.readS ⟨Pl.strS Tb,Pl.scalS⟩ (bs s) e2 dd=Xr:=⟨_,rfl⟩
       rw[he2,hXr]at hxx;have hXrn:Xr ≠ .non:=fun e=>by rw[e]at hxx;exact hne hxx.symm
       have HE2:=Lib.hid he2;have HREAD:=Lib.hid (fun V (q:Gr w0 V)=>tv_Read V (HRW.out.gr q) s hs _ e2 rfl hb2 (dd:Int) (min dd 256) (by omega) Xr (by rw[readS_min];exact hXr) hXrn);have HXR:=Lib.hid hxx;have hst09:Gr w0 w9:=HST9.out.below HG0.out (fun k e=>by have:=(H.out.v.lt k e).1;omega);have HG09:=Lib.hid hst09;have we1:IntKind.i64.wrap ((e1:Int)+1)=(e1:Int)+1:=IntWalk.i64_in _ ⟨by omega,by omega⟩;clear he2 hXr hxx hst09
       go_upto_region 16 with fail
       have hS:w9.drew.cell? ⟨R,2,none⟩=some (.string s)∧FX w.heap.size (.int .i64 into) (.int .i64 dd) w9.drew:=⟨hk9,HB9.out.i.gr (Gr.refl w9).drew⟩
       refine Reg.begin' (W:=fun i=>i != 13 && i != 18 && i != 19) (S:=fun W=>W.cell? ⟨R,2,none⟩=some (.string s)∧FX w.heap.size (.int .i64 into) (.int .i64 dd) W) (by kernel_rfl) ?_;refine Z40 ?_;refine Reg.tl 3 hS ?_ (hy:=by intro w hSw;obtain⟨s0,⟨s1,s2,s3,s4⟩⟩:=hSw;go_simp;try with_reducible rfl);refine Z307 ?_;refine Reg.tl 7 hS ?_ (hy:=by intro w hSw;obtain⟨s0,⟨s1,s2,s3,s4⟩⟩:=hSw;go_simp;try with_reducible rfl);refine Z308 ?_;refine Reg.ty 11 ?_;refine Reg.tl 12 hS ?_ (hy:=by intro w hSw;obtain⟨s0,⟨s1,s2,s3,s4⟩⟩:=hSw;go_simp;try with_reducible rfl);refine Reg.on 10 ?_;go_simp;refine (tk_Blanks s _ (e1+1) (by omega) (by omega) (by omega) _).mono ?_;rw[HE2.out];rintro e wb ⟨rfl,gb⟩;have hSb:wb.cell? ⟨R,2,none⟩=some (.string s)∧FX w.heap.size (.int .i64 into) (.int .i64 dd) wb:=⟨(gb.use.1 R 2 hR9).trans hk9,hS.2.gr gb⟩
       first|refine (And.intro (hSb) ?_:_∧Reg.anyW _ _ _ _ _ _ _ _ _ _)|refine (And.intro (fun _=>hSb) ?_:_∧Reg.anyW _ _ _ _ _ _ _ _ _ _)|refine (And.intro (fun _ _=>hSb) ?_:_∧Reg.anyW _ _ _ _ _ _ _ _ _ _)|skip
       refine Z2 ?_;have gb':Gr w9 wb:=(Gr.refl w9).drew.trans gb;refine Reg.on 13 ?_;go_simp;refine (HREAD.out wb (HG09.out.trans gb')).mono ?_;rintro e w11 hpost;obtain⟨ta,tn,tc,tr,tm,ec,eq,rfl,g11⟩:=hpost.open hXrn;refine Z2 ?_;refine Z77 ?_;refine Reg.ty 17 ?_;have gA:=gb'.trans g11;have hB11:=HB9.out.gr gA;have hXF:=fx2s hB11.t hB11.f (by omega) (HST9.out.gr gA) (by omega) (by omega) (.slice ta tn tc) (.int .i64 tr) (.int .i64 ec) (.int .i64 eq);have hI11:=hB11.i;clear p0 p1 pf pl p2 p3 pf' pl' p4 p5 pf'' pl'';obtain⟨⟨p0,p1,pf,pl⟩,⟨p2,p3,pf',pl'⟩,⟨p4,p5,pf'',pl''⟩⟩:=hB11;refine Reg.on 18 ?_;go_simp;refine Z2 ?_;refine Z175 ?_;refine Z2 ?_;refine Z12 ?_;obtain⟨W12,hW12⟩:∃W',((((w11.setCell ⟨w.heap.size+1,0,none⟩ (.slice ta tn tc)).setCell ⟨w.heap.size+1,1,none⟩ (.int .i64 tr)).setCell ⟨w.heap.size+1+1,0,none⟩ (.int .i64 ec)).setCell ⟨w.heap.size+1+1,1,none⟩ (.int .i64 eq))=W':=⟨_,rfl⟩
       rw[hW12]at hXF ⊢;clear hW12 p0 p1 pf pl p2 p3 pf' pl' p4 p5 pf'' pl'';obtain⟨hT12,hF12,hST12,hH12,hZ12⟩:=hXF;have hI12:=hI11.of_block (hH12 _ (by omega) (by omega)) hZ12;have hB3:WB3 w.heap.size (.int .i64 into) (.int .i64 dd) (.slice ta tn tc) (.int .i64 tr) (.int .i64 ec) (.int .i64 eq) W12:=⟨hI12,hT12,hF12⟩
       have hS3:=hB3.gr (Gr.refl W12).drew;obtain⟨⟨p0,p1,pf,pl⟩,⟨p2,p3,pf',pl'⟩,⟨p4,p5,pf'',pl''⟩⟩:=id hB3;have hzb:=gb'.size;have hzg:=g11.size;have hlt2:∀k,own2 k≠0→k<w9.heap.size:=fun k h=>(HGM9.out.v.lt k h).2
       have GV12:GrV W12.drew R B base s 0 nv2 L2 own2 g1.srt x:=((HGM9.out.v.gr gA).kept (w':=W12) (fun k hk=>hH12 k (fun e=>hk (hfree k (by omega) (by omega))) (fun e=>hk (hfree k (by omega) (by omega)))) hZ12).drew;have HGV12:=Lib.hid GV12;have HST12:=Lib.hid hST12.drew;have HH12:=Lib.hid hH12;have HPO:=Lib.hid hpost;clear hI12 hT12 hF12 hI11 hST12 hH12 GV12 hpost
       go_upto_region 17 with fail
       refine Reg.begin' (W:=fun _=>true) (S:=WB3 w.heap.size (.int .i64 into) (.int .i64 dd) (.slice ta tn tc) (.int .i64 tr) (.int .i64 ec) (.int .i64 eq)) (by kernel_rfl) ?_;refine Z4 ?_;go_wp2_with fail;obtain⟨⟨q0,q1,qf,ql⟩,⟨y0,y1,yf,yl⟩,⟨v0',v1',vf',vl'⟩⟩:=hS3;refine bodyPost_ret (v := .tuple #[.agg #[.int .i64 into,.int .i64 dd],.agg #[.slice ta tn tc,.int .i64 tr],.agg #[.int .i64 ec,.int .i64 eq]]) (by simp[results,Tryz.results35,go_sem,q0,q1,qf,ql,y0,y1,yf,yl,v0',v1',vf',vl']) rfl ?_;rw[←HXR.out];have hpo:=HPO.out;cases Xr with
       | non=>exact absurd rfl hXrn
       | bad c p =>
        obtain⟨he,hc0,_⟩:=hpo;have h1:ec=(c:Int)∧eq=(p:Int):=by simp[fv,and_assoc]at he;omega
        obtain⟨rfl,rfl⟩:=h1;exact⟨⟨_,_,_,_,_,_,rfl⟩,hc0,own2,HST12.out,HGV12.out.cells.1.2.2.1,fun k hk=>(on2 k hk).imp id (fun h=>by omega)⟩
       | ok r =>
        obtain⟨ri,rm,st⟩:=r;obtain⟨gT,LT,he,_,hri,hnd,hTV,_⟩:=hpo;have h1:ta=some ⟨gT,0,none⟩∧tn=st.length∧tc=st.length∧tr=(ri:Int)∧ec=0∧eq=0:=by
         simp[f0,and_assoc]at he;obtain⟨a1,a2,a3,a4,_,a6,a7⟩:=he;exact⟨a1,a2,a3,a4,a6,a7⟩
        obtain⟨rfl,rfl,rfl,rfl,rfl,rfl⟩:=h1;have hlT:LT.length=st.length:=by rw[←hnd,List.length_map]
        refine⟨dd,_,LT,wb.heap.size,nv2,L2,own2,x,rfl,rfl,rfl,⟨HGV12.out,HGM9.out.nd,HGM9.out.sec,HGM9.out.dep,HGM9.out.many⟩,HST12.out,fun k hk=>(on2 k hk).imp id (fun h=>by omega),.inr ⟨gT,by rw[hlT],?_⟩,hnd,by omega,fun k hk=>Decidable.byContradiction fun h=>by have:=hlt2 k h;omega⟩;exact (hTV.keptB (fun k hk _=>HH12.out k (by omega) (by omega)) hZ12).gr (Gr.refl W12).drew
     rw[if_neg h61]at hxx;have HP:=Lib.hid (prefix_at s ⟨#[61]⟩ e1 false (by rw[pre_byte];exact decide_eq_false h61));clear h61;go_wp2_with fail;refine (HP.out _).mono ?_;rintro e w10 ⟨rfl,hw10⟩;subst w10
     go_upto_region 17 with fail
     have hB3:=HB9.out;have hS3:=hB3.gr (Gr.refl w9).drew;refine Reg.begin' (W:=fun _=>true) (S:=WB3 w.heap.size (.int .i64 into) (.int .i64 dd) (.slice none 0 0) (.int .i64 0) (.int .i64 0) (.int .i64 0)) (by kernel_rfl) ?_;refine Z4 ?_;go_wp2_with fail;obtain⟨⟨q0,q1,qf,ql⟩,⟨y0,y1,yf,yl⟩,⟨v0',v1',vf',vl'⟩⟩:=hS3;rw[←hxx];have hlt2:∀k,own2 k≠0→k<w9.drew.heap.size:=fun k h=>(HGM9.out.v.lt k h).2
     exact bodyPost_ret (v := .tuple #[.agg #[.int .i64 into,.int .i64 dd],.agg #[.slice none 0 0,.int .i64 0],f0]) (by simp[results,Tryz.results35,go_sem,q0,q1,qf,ql,y0,y1,yf,yl,v0',v1',vf',vl']) rfl ⟨dd,_,[],w9.drew.heap.size,nv2,L2,own2,x,rfl,rfl,rfl,HGM9.out.gr (Gr.refl w9).drew,HST9.out.drew,fun k hk=>(on2 k hk).imp id (fun h=>by omega),.inl ⟨rfl,rfl⟩,rfl,(show w.heap.size≤w9.heap.size by omega),fun k hk=>Decidable.byContradiction fun h=>by have:=hlt2 k h;omega⟩
end Go.Proofs.YtfogfaagjpebcaaGreatDoor
