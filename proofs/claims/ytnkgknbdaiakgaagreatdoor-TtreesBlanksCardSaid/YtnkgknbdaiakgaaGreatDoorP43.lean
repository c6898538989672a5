/- The proof's part 43. -/
import Derived.Test.YtnkgknbdaiakgaaGreatDoorP42
set_option maxHeartbeats 16000000
set_option linter.all false
set_option maxRecDepth 100000
namespace Go.Proofs.YtnkgknbdaiakgaaGreatDoor
open Pl Go.Proofs.Tryz Go.RowKit Go.Shelf Go.Joins
attribute [local go_sem] Uy
structure WB3(z:Nat)(a b c d e f:Value)(w:World):Prop where
 i:FX z a b w
 t:FX (z+1) c d w
 f:FX (z+1+1) e f w
theorem WB3.gr{z:Nat}{a b c d e f:Value}{w w':World}(h:WB3 z a b c d e f w)(g:Gr w w'):WB3 z a b c d e f w':=⟨h.i.gr g,h.t.gr g,h.f.gr g⟩
theorem WB3.st{z:Nat}{a b c d e f:Value}{w w':World}{F F':Nat->Prop}(h:WB3 z a b c d e f w)(g:St F F' w w')(hF:∀k,z<=k->k<=z+1+1->¬F k):WB3 z a b c d e f w' :=
 ⟨h.i.st g (hF _ (by omega) (by omega)),h.t.st g (hF _ (by omega) (by omega)),h.f.st g (hF _ (by omega) (by omega))⟩
theorem WB3.new(w:World)(a b c d e f:Value)(T0 T1 T2:TypeId) :
    WB3 w.heap.size a b c d e f (((w.alloc (.cells #[a,b] T0)).alloc (.cells #[c,d] T1)).alloc (.cells #[e,f] T2))/\Gr w (((w.alloc (.cells #[a,b] T0)).alloc (.cells #[c,d] T1)).alloc (.cells #[e,f] T2)) /\
    (((w.alloc (.cells #[a,b] T0)).alloc (.cells #[c,d] T1)).alloc (.cells #[e,f] T2)).heap.size=w.heap.size+1+1+1:=by
 obtain⟨f1,g1,z1⟩:=bx2 w a b T0;obtain⟨w1,h1⟩:=ExZ (w.alloc (.cells #[a,b] T0))
 rw[h1]at f1 g1 z1⊢;obtain⟨f2,g2,z2⟩:=bx2 w1 c d T1;obtain⟨w2,h2⟩:=ExZ (w1.alloc (.cells #[c,d] T1))
 rw[h2]at f2 g2 z2⊢;obtain⟨f3,g3,z3⟩:=bx2 w2 e f T2;rw[z1]at f2 z2;rw[z2]at f3 z3;exact⟨⟨f1.gr (g2.trans g3),f2.gr g3,f3⟩,g1.trans (g2.trans g3),z3⟩
def O8e(w:World)(R B base:Nat)(s:ByteArray)(own:Nat->Nat)(iv nsv:Value)(X:Va (Nat×Nat×Vc×Vb))(e:Ending)(w':World):Prop:=match X with
 |.non=>True
 |.bad c p=>(∃(v1 v2:Int)(o:Option Addr)(l k:Nat)(v4:Int),e = .returned (.tuple #[.agg #[v1,v2],.agg #[.slice o l k,v4],fv c p]))/\c≠0/\∃own',St (FV own) (FV own') w w'/\w'.cell? ⟨R,2,none⟩=some (.string s)/\(∀k,own' k≠0->own k≠0\/w.heap.size<=k)
 | .ok (into,root,nds,g')=>∃(dd:Int)(tv:Value)(T:List Vw)(base2:Nat)(nv':Value)(L':List Vw)(own':Nat->Nat)(x':GrX),e = .returned (.tuple #[.agg #[into,dd],.agg #[tv,root],f0])/\x'.iv=iv/\x'.nsv=nsv /\
     GM w' R B base s nv' L' own' x' g'/\St (FV own) (FV own') w w'/\(∀k,own' k≠0->own k≠0\/w.heap.size<=k)/\O8b w' base2 tv T/\T.map (·.nd)=nds/\w.heap.size<=base2/\(∀k,base2<=k->own' k=0)
def Vbp(X:Va Vb):Va (Nat×Nat×Vc×Vb):=match X with
 |.non => .non
 |.bad c p => .bad c p
 |.ok g1 => .ok (0,0,[],g1)
theorem V9t.open{V w2:World}{R B base:Nat}{s:ByteArray}{own:Nat->Nat}{iv nsv:Value}{Y:Va Vb}{e:Ending}(h:V9t V R B base s own iv nsv Y e w2)(hn:Y ≠ .non) :
    ∃(c q:Int),e = .returned (.agg #[c,q])/\∃own',St (FV own) (FV own') V w2:=by
 cases Y with
 |non=>exact absurd rfl hn
 |bad c p =>
  obtain⟨he,_,own',a9,_⟩:=h;exact⟨c,p,he,own',a9⟩
 |ok r =>
  obtain⟨he,_,_,own',_,_,_,_,a9,_⟩:=h;exact⟨0,0,he,own',a9⟩
theorem Ofj{w w5 w6:World}{R B base:Nat}{s:ByteArray}{own:Nat->Nat}{iv nsv:Value}{X':Va Vb}{c q:Int}(g5:Gr w w5)(hz:w.heap.size+1+1<w5.heap.size)(aa:∀k,own k≠0->k<w.heap.size)(hR:R<w.heap.size)
    (h:V9t w5 R B base s own iv nsv X' (.returned (.agg #[c,q])) w6) :
    O8e w R B base s own iv nsv (Vbp X') (.returned (.tuple #[.agg #[(0:Int),(0:Int)],.agg #[.slice none 0 0,(0:Int)],.agg #[c,q]])) ((w6.setCell ⟨w.heap.size+1+1,0,none⟩ c).setCell ⟨w.heap.size+1+1,1,none⟩ q):=by
 have hb:∀k,k≠w.heap.size+1+1->((w6.setCell ⟨w.heap.size+1+1,0,none⟩ c).setCell ⟨w.heap.size+1+1,1,none⟩ q).heap[k]?=w6.heap[k]?:=λ k hk=>by
  show ((w6.setCell ⟨w.heap.size+1+1,0,none⟩ c).setCell ⟨w.heap.size+1+1,1,none⟩ q).heap[k]?=_;rw[U5 _ _ _ _ hk,U5 _ _ _ _ hk]
 have iB:((w6.setCell ⟨w.heap.size+1+1,0,none⟩ c).setCell ⟨w.heap.size+1+1,1,none⟩ q).heap.size=w6.heap.size:=by
  show ((w6.setCell ⟨w.heap.size+1+1,0,none⟩ c).setCell ⟨w.heap.size+1+1,1,none⟩ q).heap.size=_;simp[World.setCell]
 have a9:∀own',St (FV own) (FV own') w5 w6->St (FV own) (FV own') w ((w6.setCell ⟨w.heap.size+1+1,0,none⟩ c).setCell ⟨w.heap.size+1+1,1,none⟩ q):=λ own' h=>((((g5.st).trans h).setCell (p:=⟨w.heap.size+1+1,0,none⟩) (.inr (by simp only;omega)) _).setCell (p:=⟨w.heap.size+1+1,1,none⟩) (.inr (by simp only;omega)) _)
 have h5:=g5.size;cases X' with
 |non=>trivial
 |bad c' p' =>
  obtain⟨he,hc,own',h1,h2,h3⟩:=h;have e1:c=(c':Int)/\q=(p':Int):=by simpa [fv]using he
  obtain⟨rfl,rfl⟩:=e1;exact⟨⟨_,_,_,_,_,_,rfl⟩,hc,own',a9 own' h1,(Us (w:=w6) (a:=⟨R,2,none⟩) (hb R (by omega))).trans h2,λ k hk=>(h3 k hk).imp id (λ h=>by omega)⟩
 |ok g' =>
  obtain⟨he,nv',L',own',x',e1,e2,cE,h1,h3⟩:=h;have e3:c=0/\q=0:=by simpa [f0]using he
  obtain⟨rfl,rfl⟩:=e3;have fE:own' (w.heap.size+1+1)=0:=Ue λ h=>(h3 _ h).elim (λ h=>by have:=aa _ h;omega) (λ h=>by omega)
  have h6:=h1.size;refine⟨0,_,[],w6.heap.size,nv',L',own',x',rfl,e1,e2,⟨cE.v.kept (λ k hk=>hb k (λ e=>hk (by rw[e];exact fE))) (U39 iB.symm),cE.nd,cE.sec,cE.dep,cE.many⟩,a9 own' h1,λ k hk=>(h3 k hk).imp id (λ h=>by omega),.inl ⟨rfl,rfl⟩,rfl,by omega,λ k hk=>Ue λ h=>by have:=(cE.v.lt k h).2;omega⟩
theorem Oce(s:ByteArray)(n:Nat):Pl.pre ((bs s).drop n) (bs ⟨#[61]⟩)=decide (V9 (bs s) n=61):=by
 show Pl.pre ((bs s).drop n) [61]=_;unfold V9;cases h:(bs s)[n]? with
 |none =>
  rw[Ut (by simpa using h)];rfl
 |some c =>
  obtain⟨hl,hc⟩:=U7.1 h;rw[Uw hl,hc];have h1:(c==61)=decide (c.toNat=61):=by
   by_cases e:c=61;subst e;rfl
   have e2:¬c.toNat=61:=λ e2=>e (by rw[<-U1b];exact e2)
   simp[e,e2]
  simp[Pl.pre,h1]
theorem V2n.keptB{W W':World}{base g:Nat}{L:List Vw}(h:V2n W base g L)(hb:∀k,base<=k->k<W.heap.size->W'.heap[k]?=W.heap[k]?)(hz:W.heap.size<=W'.heap.size):V2n W' base g L :=
 ⟨⟨h.lt.1,U4 h.lt.2 hz⟩,λ i r hr j v hv=>(Us (w:=W) (a:=⟨g,i*7+j,none⟩) (hb g h.lt.1 h.lt.2)).trans (h.cell i r hr j v hv),λ i r hr=>by
  obtain⟨a,b,c⟩:=h.rows i r hr;exact⟨a.of_block λ k e=>hb k (a.lt k e).1 (a.lt k e).2,b.of_block λ k e=>hb k (b.lt k e).1 (b.lt k e).2,c.of_block λ k e=>hb k (c.lt k e).1 (c.lt k e).2⟩,h.tg⟩
theorem O8b.keptB{W W':World}{base:Nat}{v:Value}{L:List Vw}(h:O8b W base v L)(hb:∀k,base<=k->k<W.heap.size->W'.heap[k]?=W.heap[k]?)(hz:W.heap.size<=W'.heap.size):O8b W' base v L :=
 h.imp id λ ⟨g,e,hT⟩=>⟨g,e,hT.keptB hb hz⟩
theorem O5z.open{s:ByteArray}{V w2:World}{Y:Va (Nat×Nat×Vc)}{e:Ending}(h:O5z s V Y e w2)(hn:Y ≠ .non):∃(a:Option Addr)(n c:Nat)(r m c' q:Int),e = .returned (.tuple #[.agg #[.slice a n c,r],m,.agg #[c',q]])/\Gr V w2:=by
 cases Y with
 |non=>exact absurd rfl hn
 |bad c p=>exact⟨_,_,_,_,_,_,_,h.1,h.2.2⟩
 |ok r =>
  obtain⟨i,m,st⟩:=r;obtain⟨g,L,h1,_,_,_,_,h2⟩:=h;exact⟨_,_,_,_,_,_,_,h1,h2⟩
theorem Ohr(E:Vz)(l:Pl.Bs)(n d:Nat):V1l E l n (min d 256)=V1l E l n d:=by
 unfold V1l;rw[show min (min d 256) 256=min d 256 by omega]
theorem Ooy(l:Pl.Bs):(Lib.trimPrefix (Lib.trimPrefix l [91]) [91]).length+(if Pl.pre l [91,91] then 2 else if Pl.pre l [91] then 1 else 0)=l.length:=by
 unfold Lib.trimPrefix Lib.hasPrefix;cases l with
 |nil=>rfl
 |cons a l =>
  by_cases ha:a=91
  subst ha;cases l with
  |nil=>rfl
  |cons b l =>
   by_cases hb:b=91;subst hb;simp[Pl.pre,List.isPrefixOf]
   have fP:(b==91)=false:=by simpa using hb
   have aA:((91:UInt8)==b)=false:=by simpa using U2k hb
   simp[Pl.pre,List.isPrefixOf,fP,aA]
  have QY:(a==91)=false:=by simpa using ha
  have rC:((91:UInt8)==a)=false:=by simpa using U2k ha
  cases l <;> simp[Pl.pre,List.isPrefixOf,QY,rC]
def Vdf(z:Nat)(s:ByteArray)(w1:World)(Y:Va (List Pl.KW×Nat))(s9 ki:Value)(w':World):Prop :=
 ∃bK:Nat,s9 = .pointer (some ⟨bK,0,none⟩)/\w1.heap.size<=bK/\bK<w'.heap.size/\St (λ k=>k=z+1+1) (λ k=>k=z+1+1) w1 w'/\match Y with
  |.non=>True
  |.bad c p=>ki = .int .i64 0/\c≠0/\FX (z+1+1) c p w'
  | .ok (ws,m)=>ki = .int .i64 m/\m<=s.size/\FX (z+1+1) (0:Int) (0:Int) w'/\0<ws.length/\ws.length<=s.size+2/\∃gk gs ck cs,FX bK (.slice (some ⟨gk,0,none⟩) ws.length ck) (.slice (some ⟨gs,0,none⟩) ws.length cs) w'/\w1.heap.size<=gk/\w1.heap.size<=gs/\gk<w'.heap.size/\gs<w'.heap.size /\
      ∀(j:Nat)(t:Pl.Bs)(a b:Nat),ws[j]?=some (t,a,b)->w'.cell? ⟨gk,j,none⟩=some (V3a t)/\w'.cell? ⟨gs,j*2,none⟩=some (.int .i64 a)/\w'.cell? ⟨gs,j*2+1,none⟩=some (.int .i64 b)
theorem O6j.open{s:ByteArray}{V w2:World}{Y:Va (List Pl.KW×Nat)}{e:Ending}(h:O6j s V Y e w2)(hn:Y ≠ .non):∃(ka:Option Addr)(kn kc:Nat)(sa:Option Addr)(sn sc:Nat)(m c q:Int),e = .returned (.tuple #[.agg #[.slice ka kn kc,.slice sa sn sc],m,.agg #[c,q]])/\Gr V w2:=by
 cases Y with
 |non=>exact absurd rfl hn
 |bad c p=>exact⟨_,_,_,_,_,_,_,_,_,h.1,h.2.2⟩
 |ok r =>
  obtain⟨ws,m⟩:=r;obtain⟨kv,sv,h1,_,hk,hs,_,h0,h2⟩:=h;obtain⟨gk,ck,rfl,_,_⟩:=hk.form h0;obtain⟨gs,cs,rfl,_,_⟩:=hs.form h0;exact⟨_,_,_,_,_,_,_,_,_,h1,h2⟩
theorem O9d{z:Nat}{s:ByteArray}{w1 V w2 w3:World}{Y:Va (List Pl.KW×Nat)}{kv sv:Value}{m c q:Int}(h:O6j s V Y (.returned (.tuple #[.agg #[kv,sv],m,.agg #[c,q]])) w2)
    (gV:Gr w1 V)(g2:Gr V w2)(g3:Gr w2 w3){bK:Nat}(EH:w1.heap.size<=bK)(oK:bK<V.heap.size\/w2.heap.size<=bK){x y:Value}(fK:FX bK x y w3)(hz:z+1+1<w1.heap.size){x' y':Value}(ff:FX (z+1+1) x' y' w1) :
    Vdf z s w1 Y (.pointer (some ⟨bK,0,none⟩)) m ((((w3.setCell ⟨bK,0,none⟩ kv).setCell ⟨bK,1,none⟩ sv).setCell ⟨z+1+1,0,none⟩ c).setCell ⟨z+1+1,1,none⟩ q):=by
 have gA:=(gV.trans g2).trans g3;have a8:bK≠z+1+1:=by omega
 have s1:St (λ k=>k=z+1+1) (λ k=>k=z+1+1) w1 ((((w3.setCell ⟨bK,0,none⟩ kv).setCell ⟨bK,1,none⟩ sv).setCell ⟨z+1+1,0,none⟩ c).setCell ⟨z+1+1,1,none⟩ q) :=
  ((((gA.st (F:=λ k=>k=z+1+1)).setCell (p:=⟨bK,0,none⟩) (.inr EH) kv).setCell (p:=⟨bK,1,none⟩) (.inr EH) sv).setCell (p:=⟨z+1+1,0,none⟩) (.inl rfl) c).setCell (p:=⟨z+1+1,1,none⟩) (.inl rfl) q
 have hF:=((ff.gr gA).other a8 (o:=0) kv).other a8 (o:=1) sv |>.set c q;have hK:=((fK.set kv sv).other (U2k a8) (o:=0) c).other (U2k a8) (o:=1) q;have hb:∀k,k≠bK->k≠z+1+1->((((w3.setCell ⟨bK,0,none⟩ kv).setCell ⟨bK,1,none⟩ sv).setCell ⟨z+1+1,0,none⟩ c).setCell ⟨z+1+1,1,none⟩ q).heap[k]?=w3.heap[k]?:=λ k k1 k2=>by
  rw[U5 _ _ _ _ k2,U5 _ _ _ _ k2,U5 _ _ _ _ k1,U5 _ _ _ _ k1]
 refine⟨bK,rfl,EH,hK.2.2.2,s1,?_⟩;cases Y with
 |non=>trivial
 |bad c' p' =>
  obtain⟨he,hc,_⟩:=h;have h1:m=0/\c=(c':Int)/\q=(p':Int):=by simp[fv,and_assoc]at he;omega
  obtain⟨rfl,rfl,rfl⟩:=h1;exact⟨rfl,hc,hF⟩
 |ok r =>
  obtain⟨ws,m'⟩:=r;obtain⟨pS,pT,he,hm,hk,hs,hl,h0,_⟩:=h;have h1:kv=pS/\sv=pT/\m=(m':Int)/\c=0/\q=0:=by
   simp[f0,and_assoc]at he;obtain⟨a1,a2,a3,a4,a5⟩:=he;exact⟨a1,a2,by omega,a4,a5⟩
  obtain⟨rfl,rfl,rfl,rfl,rfl⟩:=h1;obtain⟨gk,gs,ck,cs,rfl,rfl,l1,l2,l3,l4,hw⟩:=O93 hk hs h0;have ay:=gV.size;have iX:=g3.size;have Ty:=hb;have nk:gk≠bK/\gk≠z+1+1:=⟨by omega,by omega⟩
  have ns:gs≠bK/\gs≠z+1+1:=⟨by omega,by omega⟩
  have tk:∀o,((((w3.setCell ⟨bK,0,none⟩ (.slice (some ⟨gk,0,none⟩) ws.length ck)).setCell ⟨bK,1,none⟩ (.slice (some ⟨gs,0,none⟩) ws.length cs)).setCell ⟨z+1+1,0,none⟩ (0:Int)).setCell ⟨z+1+1,1,none⟩ (0:Int)).cell? ⟨gk,o,none⟩=w2.cell? ⟨gk,o,none⟩:=λ o =>
   (Us (w:=w3) (a:=⟨gk,o,none⟩) (hb gk nk.1 nk.2)).trans (g3.use.1 _ _ l3)
  have ts:∀o,((((w3.setCell ⟨bK,0,none⟩ (.slice (some ⟨gk,0,none⟩) ws.length ck)).setCell ⟨bK,1,none⟩ (.slice (some ⟨gs,0,none⟩) ws.length cs)).setCell ⟨z+1+1,0,none⟩ (0:Int)).setCell ⟨z+1+1,1,none⟩ (0:Int)).cell? ⟨gs,o,none⟩=w2.cell? ⟨gs,o,none⟩:=λ o =>
   (Us (w:=w3) (a:=⟨gs,o,none⟩) (hb gs ns.1 ns.2)).trans (g3.use.1 _ _ l4)
  refine⟨rfl,hm,hF,h0,hl,gk,gs,ck,cs,hK,by omega,by omega,?_,?_,λ j t a b hj=>?_⟩;simp only[World.setCell,Array.size_modify];omega;simp only[World.setCell,Array.size_modify];omega
  obtain⟨a1,a2,a3⟩:=hw j t a b hj;exact⟨(tk _).trans a1,(ts _).trans a2,(ts _).trans a3⟩
theorem Ok1(Tb:Nat->UInt8×UInt8)(w0 w:World)(et:Gr w0 w)(bO:RW Tb w0)(R B base:Nat)(jo:w0.heap.size<=base)(s:ByteArray)(hs:s.size<=20000000)(nv:Value)(L:List Vw)(own:Nat->Nat)(x:GrX)(g:Vb)(h:GM w R B base s nv L own x g)
    (hL:L.length<=20000001)(hm:x.many<=30000000)(jS:g.dep<=100000000)(n:Nat)(hn:n<s.size)(X:Va (Nat×Nat×Vc×Vb))(hX:V27 ⟨Vj Tb,Vd⟩ (bs s) n g=X)(a8:X ≠ .non) :
    Calls prog 58 #[.pointer (some ⟨R,0,none⟩),n] w (O8e w R B base s own x.iv x.nsv X):=by
 have hb:=V8 (bs s) n (by rw[O0];omega);rw[O0]at hb;obtain⟨n1,mY⟩:=ExZ (V7 (bs s) n)
 rw[mY]at hb;obtain⟨bA,aA⟩:=hb;have ae:=hX;unfold V27 at ae;simp only at ae;rw[mY]at ae;have HX:=U0 ae;have H:=U0 h;have pV:=U0 et;have is:=U0 bO;have QZ:=U0 mY;have oE:=h.v.R_lt;obtain⟨⟨c0,c1,c2,c3,c4,c5,c6⟩,c7,c8,fz⟩:=h.v.cells;have i0:(0:Int)<=(n1:Int):=by omega
 have i1:(n1:Int)<=(s.size:Int):=by omega
 clear h ae hX et bO mY c0 c1 c3 c4 c5 c6 c7 c8 fz;go_enter func58,ntmps58
 go_upto_region 1 with fail
 obtain⟨W,hW⟩:=ExZ (((w.alloc (.cells #[(0:Int),(0:Int)] 67)).alloc (.cells #[.slice none 0 0,(0:Int)] 26)).alloc (.cells #[(0:Int),(0:Int)] 29))
 obtain⟨hB,gW,hz⟩:=WB3.new w (0:Int) (0:Int) (.slice none 0 0) (0:Int) (0:Int) (0:Int) 67 26 29;rw[hW]at hB gW hz⊢;clear hW;have hS:W.drew.cell? ⟨R,2,none⟩=some (.string s):=(gW.drew.use.1 R 2 oE.2).trans c2;have HB:=U0 hB;have HG:=U0 gW;have HZ:=U0 hz;clear hB gW hz c2;refine Reg.begin' (W:=λ _=>true) (S:=λ W=>W.cell? ⟨R,2,none⟩=some (.string s)) (by kernel_rfl) ?_;refine Z297 ?_;refine Reg.ty 8 ?_;refine Reg.on 9 ?_;go_simp;refine (O9 s _ n rfl (by omega) (by omega) _).mono ?_;rw[QZ.o];rintro e w1 ⟨rfl,g1⟩;have bO:=U4 oE.2 HG.o.size;have cm:w1.cell? ⟨R,2,none⟩=some (.string s):=(g1.use.1 R 2 bO).trans hS;refine Z65 ?_;refine Z61 ?_;refine Z12 ?_;have bT:Gr W w1:=(Gr.refl W).drew.trans g1;have dW:=U0 (HG.o.trans bT);have iD:=U0 (HB.o.gr bT);have B7:=U0 (show w.heap.size+1+1+1<=w1.heap.size by have:=bT.size;have:=HZ.o;omega);clear g1 bT HB HG HZ;obtain⟨⟨p0,p1,pf,pl⟩,⟨p2,p3,fC,fD⟩,⟨p4,p5,dp,da⟩⟩:=id iD.o;have k2:w1.cell? ⟨R,2,none⟩=some (.string s):=cm;have fJ:R<w1.heap.size:=U4 oE.2 dW.o.size;clear hS cm bO;by_cases bY:n1=s.size
 have aN:V14 ((bs s).drop n1)=true:=by rw[Ut (by rw[O0];omega)];rfl
 have ae:=HX.o;rw[aN,Ua rfl]at ae;have aG:s.extract n1 s.size=ByteArray.empty:=by
  apply U1y;apply U21.1;rw[show (s.extract n1 s.size).data.toList=(bs s).drop n1 from O3 s n1,Ut (by rw[O0];omega)];rfl
 clear aN bY;exact J72
 obtain⟨rest,aG,r1,r2,r3,r0,r4⟩:=Oel s n1 (by omega);have jP:V14 ((bs s).drop n1)=(bs ⟨#[35,13,10]⟩).contains (rest[0]'r0):=by
  rw[Ocd,r4,O8 s n1 (by omega)];rfl
 have ae:=HX.o;cases aN:V14 ((bs s).drop n1) with
 |true =>
  rw[aN,Ua rfl]at ae;rw[aN]at jP;have Fq:=U0 jP.symm;clear aN jP r4;exact J72
 |false =>
  rw[aN,Ud (by simp)]at ae;rw[aN]at jP;have Fq:=U0 jP.symm;have bV:=U0 ae;clear aN jP r4 ae
  go_upto_region 4 with (go_at_call 85;refine (Oo ⟨#[35,13,10]⟩ _ false Fq.o _).mono ?_;rintro e w3 ⟨⟨i,rfl,hi⟩,Jg⟩;subst w3;have ei:decide (i<0)=true:=by (simp at hi⊢;omega))
  have qi:bs rest=(bs s).drop n1:=by rw[<-aG,O3]
  obtain⟨m,mr⟩:=ExZ ((if Pl.pre ((bs s).drop n1) [91,91] then 2 else if Pl.pre ((bs s).drop n1) [91] then 1 else 0))
  have d5:=Ooy (bs rest);rw[qi,mr]at d5;rw[U3,O0]at d5;have jO:rest.size=s.size-n1:=by have:=O0 rest;rw[qi,U3,O0]at this;omega
  obtain⟨Am,yD⟩:∃Am:ByteArray,(⟨(Lib.trimPrefix (Lib.trimPrefix (bs rest) [91]) [91]).toArray⟩:ByteArray)=Am:=⟨_,rfl⟩
  have MK:Am.size+m=s.size-n1:=by
   rw[<-d5,<-yD,qi];simp[ByteArray.size]
  have GH:=U0 (λ W=>strings_TrimPrefix rest ⟨#[91]⟩ W);have Jh:Hid (∀W,Calls prog 86 #[.string ⟨(Lib.trimPrefix rest.data.toList [91]).toArray⟩,.string ⟨#[91]⟩] W λ e w'=>e = .returned (.string Am)/\w'=W):=λ W=>by
   have h1:=strings_TrimPrefix ⟨(Lib.trimPrefix rest.data.toList [91]).toArray⟩ ⟨#[91]⟩ W;rw[<-yD];exact h1
  have eh:=U0 MK;have nO:=U0 jO;have cW:=bV.o;rw[mr]at cW;have bV:=U0 cW;have Q':=U0 mr;clear mr d5 qi yD cW MK jO;go_wp2_with fail;refine (GH.o _).mono ?_;rintro e w3 ⟨rfl,Jg⟩;subst w3;go_wp2_with fail;refine (Jh.o _).mono ?_;rintro e w3 ⟨rfl,Jg⟩;subst w3;obtain⟨bq,zR⟩:=ExZ (V7 (bs s) (n1+m))
  have ML:=(V8 (bs s) (n1+m) (by rw[O0];have:=eh.o;omega)).2;rw[zR,O0]at ML;have uK:n1+m<=s.size:=by have:=eh.o;omega
  have R0:IntKind.i64.wrap ((s.size:Int)-(Am.size:Int))=(n1:Int)+(m:Int):=by have:=eh.o;rw[Uk _ ⟨by omega,by omega⟩];omega
  obtain⟨Y,hY⟩:=ExZ (V1k ⟨Vj Tb,Vd⟩ (bs s) bq)
  have cW:=bV.o;rw[zR,hY]at cW;have bH:Y ≠ .non:=λ e=>by rw[e]at cW;exact a8 cW.symm
  have bV:=U0 cW;have MM:=U0 zR;have ft:=U0 (λ V (q:Gr w0 V)=>O4d Tb ⟨Vj Tb,Vd⟩ rfl s _ bq rfl ML hs Y hY bH V (is.o.gr q).q);have yE:=U0 (pV.o.trans dW.o);have iX:w.heap.size+1+1<w1.heap.size:=by have:=B7.o;omega
  clear zR hY cW
  go_upto_region 5 with fail
  go_cut [9,10] (λ s9 ki W'=>Vdf w.heap.size s w1 Y s9 ki W')
  case first =>
   have hS:w1.drew.cell? ⟨R,2,none⟩=some (.string s):=k2;refine Reg.begin' (W:=λ i=>i != 17&&i != 23&&i != 25) (S:=λ W=>W.cell? ⟨R,2,none⟩=some (.string s)) (by kernel_rfl) ?_;refine Z297 ?_;refine Z46 ?_;refine Reg.tl 11 hS ?_ (hy:=by intro w ab;obtain s0:=ab;go_simp;try with_reducible rfl);refine Z47 ?_;refine Reg.ty 15 ?_;refine Z172 ?_;refine Z14 ?_;intro j hj;rcases hj with rfl|rfl
   ·skip;refine Z155 ?_;go_simp;refine (O9 s _ (n1+m) (by omega) (by omega) (by omega) (w1.drew)).mono ?_;rw[MM.o];rintro e wb ⟨rfl,gb⟩;have lF:wb.cell? ⟨R,2,none⟩=some (.string s):=(gb.use.1 R 2 fJ).trans k2
    first|refine (And.intro (lF) ?_:_/\Reg.anyW _ _ _ _ _ _ _ _ _ _)|refine (And.intro (λ _=>lF) ?_:_/\Reg.anyW _ _ _ _ _ _ _ _ _ _)|refine (And.intro (λ _ _=>lF) ?_:_/\Reg.anyW _ _ _ _ _ _ _ _ _ _)|skip
    refine Z2 ?_;have ms:Gr w1 wb:=(Gr.refl w1).drew.trans gb;refine Reg.all (rs:=[17,22]) (by kernel_rfl) (by simp) ?_;refine Z14 ?_;intro j hj;rcases hj with rfl|rfl
    ·skip;refine Reg.one (i:=17) rfl (by rfl) ?_;go_simp;refine (ft.o (wb) (yE.o.trans ms)).mono ?_;rintro e w2 ap;obtain⟨ka,kn,kc,sa,sn,sc,em,ec,eq,rfl,g2⟩:=ap.open bH;refine Z2 ?_;refine Z233 ?_;refine Reg.on 22 ?_;go_simp;have hv:=(ms.trans g2).size;obtain⟨fK,g3,z3⟩:=bx2 w2 (.slice none 0 0) (.slice none 0 0) 42
     first|refine (And.intro (((g2.trans g3).use.1 R 2 (U4 fJ ms.size)).trans lF) ?_:_/\Reg.anyW _ _ _ _ _ _ _ _ _ _)|refine (And.intro (λ _=>((g2.trans g3).use.1 R 2 (U4 fJ ms.size)).trans lF) ?_:_/\Reg.anyW _ _ _ _ _ _ _ _ _ _)|refine (And.intro (λ _ _=>((g2.trans g3).use.1 R 2 (U4 fJ ms.size)).trans lF) ?_:_/\Reg.anyW _ _ _ _ _ _ _ _ _ _)|skip
     refine Z2 ?_;obtain⟨W3,bQ⟩:=ExZ (w2.alloc (.cells #[.slice none 0 0,.slice none 0 0] 42))
     rw[bQ]at fK g3 z3⊢;clear bQ;have gA:=(ms.trans g2).trans g3;refine Z304 ?_;intro wO wP wQ wR rn ro rp rq;refine Z293 ?_;go_wp2_with fail
     go_meet
     exact O9d ap ms g2 g3 hv (.inr (U2 _)) fK iX iD.o.f
    skip;refine Z66 ?_;obtain⟨fK,g3,z3⟩:=bx2 wb (.slice none 0 0) (.slice none 0 0) 42;have rN:=(g3.use.1 R 2 (U4 fJ ms.size)).trans lF
    first|refine (And.intro (rN) ?_:_/\Reg.anyW _ _ _ _ _ _ _ _ _ _)|refine (And.intro (λ _=>rN) ?_:_/\Reg.anyW _ _ _ _ _ _ _ _ _ _)|refine (And.intro (λ _ _=>rN) ?_:_/\Reg.anyW _ _ _ _ _ _ _ _ _ _)|skip
    refine Z2 ?_;obtain⟨W3,bQ⟩:=ExZ (wb.alloc (.cells #[.slice none 0 0,.slice none 0 0] 42))
    rw[bQ]at fK g3 z3⊢;clear bQ rN;refine Reg.all (rs:=[17]) (by kernel_rfl) (by simp) ?_;intro j hj;obtain rfl:=U13.1 hj;clear hj;have gV:=ms.trans g3;refine Reg.one (i:=17) rfl (by rfl) ?_;go_simp;refine (ft.o (W3) (yE.o.trans gV)).mono ?_;rintro e w2 ap;obtain⟨ka,kn,kc,sa,sn,sc,em,ec,eq,rfl,g2⟩:=ap.open bH;refine Z2 ?_;refine Z233 ?_;have hv:=ms.size;have gA:=gV.trans g2;have fK:=fK.gr g2;refine Z304 ?_;intro wO wP wQ wR rn ro rp rq;refine Z293 ?_;go_wp2_with fail
    go_meet
    exact O9d ap gV g2 (Gr.refl _) hv (.inl (by rw[z3];omega)) fK iX iD.o.f
   skip;refine Z66 ?_;obtain⟨fK,g3,z3⟩:=bx2 w1 (.slice none 0 0) (.slice none 0 0) 42;have rN:(w1.alloc (.cells #[.slice none 0 0,.slice none 0 0] 42)).drew.cell? ⟨R,2,none⟩=some (.string s):=((g3.drew).use.1 R 2 fJ).trans k2
   first|refine (And.intro (rN) ?_:_/\Reg.anyW _ _ _ _ _ _ _ _ _ _)|refine (And.intro (λ _=>rN) ?_:_/\Reg.anyW _ _ _ _ _ _ _ _ _ _)|refine (And.intro (λ _ _=>rN) ?_:_/\Reg.anyW _ _ _ _ _ _ _ _ _ _)|skip
   refine Z2 ?_;obtain⟨W3,bQ⟩:=ExZ ((w1.alloc (.cells #[.slice none 0 0,.slice none 0 0] 42)).drew)
   have fK:=fK.gr (Gr.refl _).drew;have g3:=g3.drew;have z3:W3.heap.size=w1.heap.size+1:=by rw[<-bQ];exact z3
   rw[bQ]at fK g3 rN⊢;clear bQ;refine Reg.on 16 ?_;go_simp;refine (O9 s _ (n1+m) (by omega) (by omega) (by omega) (W3)).mono ?_;rw[MM.o];rintro e wb ⟨rfl,gb⟩;have lF:wb.cell? ⟨R,2,none⟩=some (.string s):=(gb.use.1 R 2 (by omega)).trans rN
   first|refine (And.intro (lF) ?_:_/\Reg.anyW _ _ _ _ _ _ _ _ _ _)|refine (And.intro (λ _=>lF) ?_:_/\Reg.anyW _ _ _ _ _ _ _ _ _ _)|refine (And.intro (λ _ _=>lF) ?_:_/\Reg.anyW _ _ _ _ _ _ _ _ _ _)|skip
   refine Z2 ?_;refine Reg.all (rs:=[17]) (by kernel_rfl) (by simp) ?_;intro j hj;obtain rfl:=U13.1 hj;clear hj;have gV:=g3.trans gb;refine Reg.one (i:=17) rfl (by rfl) ?_;go_simp;refine (ft.o (wb) (yE.o.trans gV)).mono ?_;rintro e w2 ap;obtain⟨ka,kn,kc,sa,sn,sc,em,ec,eq,rfl,g2⟩:=ap.open bH;refine Z2 ?_;refine Z233 ?_;have OL:=gb.size;have gA:=gV.trans g2;have fK:=(fK.gr gb).gr g2;refine Z304 ?_;intro wO wP wQ wR rn ro rp rq;refine Z293 ?_;go_wp2_with fail
   go_meet
   exact O9d ap gV g2 (Gr.refl _) (U2 _) (.inl (by omega)) fK iX iD.o.f
  case rest =>
   obtain⟨bK,rfl,EH,R1,a9,qM⟩:=hcut;have sq:FX w.heap.size (0:Int) (0:Int) wc/\FX (w.heap.size+1) (.slice none 0 0) (0:Int) wc:=⟨iD.o.i.st a9 (by omega),iD.o.t.st a9 (by omega)⟩
   have vg:GM wc R B base s nv L own x g:=⟨(H.o.v.gr dW.o).kept (λ k hk=>a9.block k (U4 (H.o.v.lt k hk).2 dW.o.size) (λ e=>by have:=(H.o.v.lt k hk).2;omega)) a9.size,H.o.nd,H.o.sec,H.o.dep,H.o.many⟩
   have bC:Gr w wc:=a9.below dW.o (λ k e=>by omega);have nL:=U0 sq;have Ji:=U0 vg;have pa:=U0 bC;have La:m<=2:=by have:=Q'.o;split at this <;> (try split at this) <;> omega
   have Tz:IntKind.i64.wrap ((rest.size:Int)-(Am.size:Int))=(m:Int):=by have:=eh.o;have:=nO.o;rw[Uk _ ⟨by omega,by omega⟩];omega
   have cW:=bV.o;clear p0 p1 pf pl p2 p3 fC fD p4 p5 dp da sq vg bC k2 a9;obtain⟨⟨p0,p1,pf,pl⟩,⟨p2,p3,fC,fD⟩⟩:=id nL.o;cases Y with
   |non=>exact absurd rfl bH
   |bad c p =>
    obtain⟨rfl,dT,hF⟩:=qM;simp only at cW;obtain⟨v0,v1,vf,vl⟩:=id hF;have HF:=U0 hF;go_wp2_with fail;refine Z180 ?_;intro w5 g5
    go_upto_region 8 with fail
    have cK:WB3 w.heap.size (0:Int) (0:Int) (.slice none 0 0) (0:Int) c p w5:=⟨nL.o.1.gr g5,nL.o.2.gr g5,HF.o.gr g5⟩
    have aD:=cK.gr (Gr.refl w5).drew;clear p0 p1 pf pl p2 p3 fC fD v0 v1 vf vl hF;obtain⟨⟨p0,p1,pf,pl⟩,⟨p2,p3,fC,fD⟩,⟨p4,p5,dp,da⟩⟩:=id cK;refine Reg.begin' (W:=λ _=>true) (S:=WB3 w.heap.size (0:Int) (0:Int) (.slice none 0 0) (0:Int) c p) (by kernel_rfl) ?_;refine Z4 ?_;go_wp2_with fail;obtain⟨⟨q0,q1,qf,ql⟩,⟨y0,y1,yf,yl⟩,⟨mz,mA,mB,mC⟩⟩:=aD;have gE:=(pa.o.trans g5).drew;rw[<-cW];exact U1 (v := .tuple #[.agg #[(0:Int),(0:Int)],.agg #[.slice none 0 0,(0:Int)],fv c p]) (by simp[results,results58,go_sem,q0,q1,qf,ql,y0,y1,yf,yl,mz,mA,mB,mC]) rfl ⟨⟨_,_,_,_,_,_,rfl⟩,dT,own,(St.refl (FV own) w).gr gE,(H.o.gr gE).v.cells.1.2.2.1,λ k hk => .inl hk⟩
   |ok r =>
    obtain⟨ws,em⟩:=r;obtain⟨rfl,MN,hF,h0,eP,gk,gs,ck,cs,hK,l1,l2,l3,l4,aF⟩:=qM;simp only at cW;obtain⟨v0,v1,vf,vl⟩:=id hF;have HF:=U0 hF;have HK:=U0 hK;have fZ:w.heap.size<=w1.heap.size:=dW.o.size;have dw:own gk=0:=Ue λ h=>by have:=(H.o.v.lt gk h).2;omega
    have fN:own gs=0:=Ue λ h=>by have:=(H.o.v.lt gs h).2;omega
    have sI:m=2\/m=1\/m=0:=by omega
    clear hK La;rcases sI with rfl|rfl|rfl
    ·rw[Ua rfl]at cW;obtain⟨X',gG⟩:=ExZ (V2y g ws)
     have mD:Vbp X'=X:=by rw[gG]at cW;rw[<-cW];cases X' <;> rfl
     have l9:X' ≠ .non:=λ e=>by rw[e]at mD;exact a8 mD.symm
     clear cW;go_wp2_with fail;refine Z187 ?_;intro w5 g5
     go_upto_region 10 with fail
     refine Z111 ?_;intro cK nJ aD kj;have jD:=U0 (Omo w5.drew R B base s nv L own x g (Ji.o.gr kj) hL hm gk gs ck cs ws (ws.length-1) (by omega) (by omega) (U4 l3 kj.size) (U4 l4 kj.size) dw fN (λ j t a b hj=>⟨(kj.use.1 _ _ l3).trans (aF j t a b hj).1,(kj.use.1 _ _ l4).trans (aF j t a b hj).2.1,(kj.use.1 _ _ l4).trans (aF j t a b hj).2.2⟩) X' gG l9);exact J109
    ·rw[Ud (by omega),Ua rfl]at cW;obtain⟨X',gG⟩:=ExZ (V2a g ws)
     have mD:Vbp X'=X:=by rw[gG]at cW;rw[<-cW];cases X' <;> rfl
     have l9:X' ≠ .non:=λ e=>by rw[e]at mD;exact a8 mD.symm
     clear cW;go_wp2_with fail;refine Z187 ?_;intro w5 g5
     go_upto_region 12 with fail
     refine Z111 ?_;intro cK nJ aD kj;have jD:=U0 (Ok0 w5.drew R B base s nv L own x g (Ji.o.gr kj) hL hm gk gs ck cs ws (ws.length-1) (by omega) (by omega) (U4 l3 kj.size) (U4 l4 kj.size) dw fN (λ j t a b hj=>⟨(kj.use.1 _ _ l3).trans (aF j t a b hj).1,(kj.use.1 _ _ l4).trans (aF j t a b hj).2.1,(kj.use.1 _ _ l4).trans (aF j t a b hj).2.2⟩) X' gG l9);exact J109
    rw[Ud (by omega),Ud (by omega)]at cW;obtain⟨X',gG⟩:=ExZ (V2z g ws)
    rw[gG]at cW;have l9:X' ≠ .non:=λ e=>by rw[e]at cW;exact a8 cW.symm
    obtain⟨EI,EJ,EK,EL⟩:=id HK.o;go_wp2_with fail;refine Z187 ?_;intro w5 g5;refine Z313 ?_;intro cK nJ;have jD:=U0 (Omp w5 R B base s nv L own x g (Ji.o.gr g5) jS hL hm gk gs ck cs ws (ws.length-1) (by omega) (by omega) (U4 l3 g5.size) (U4 l4 g5.size) dw fN (λ j t a b hj=>⟨(g5.use.1 _ _ l3).trans (aF j t a b hj).1,(g5.use.1 _ _ l4).trans (aF j t a b hj).2.1,(g5.use.1 _ _ l4).trans (aF j t a b hj).2.2⟩) X' gG l9);have dJ:=pa.o.trans g5;clear p0 p1 pf pl p2 p3 fC fD v0 v1 vf vl hF EI EJ EK EL;obtain⟨EI,EJ,EK,EL⟩:=nJ;obtain⟨⟨p0,p1,pf,pl⟩,⟨p2,p3,fC,fD⟩,⟨p4,p5,dp,da⟩⟩:=id cK;have fd:∀k,w.heap.size<=k->¬FV own k:=λ k hk e=>by have:=(H.o.v.lt k e).2;omega
    have sR:=U0 cK;have lC:=U0 dJ;have bV:=U0 cW;have TA:=U0 gG;have uE:w.heap.size+1+1<w5.heap.size:=da;obtain⟨e1,pL⟩:=ExZ (V7 (bs s) em)
    have jb:=(V8 (bs s) em (by rw[O0];omega)).2;rw[pL,O0]at jb;have vh:=U0 pL;clear cK dJ cW gG aF pL;go_wp2_with fail;refine jD.o.mono ?_;clear jD;cases X' with
    |non=>exact absurd rfl l9
    |bad c p =>
     rintro e w6 ⟨⟨nn,dd,he⟩,dT,ad,st2,dC,ke⟩;subst he;have iB:=st2.size;have hH:=sR.o.st st2 (λ k h1 _=>fd k h1);have dF:=(lC.o.st).trans st2;have cC:=V67 hH.i hH.f (by omega) dF (U2 _) (by omega) nn dd c p;obtain⟨⟨a0,a1,af,al⟩,⟨a2,a3,Jj,Jk⟩,⟨a4,a5,yF,yG⟩⟩:=id hH;clear p0 p1 pf pl p2 p3 fC fD p4 p5 dp da EI EJ EK EL;have Jl:R<w6.heap.size:=by omega
     go_wp2_with fail;obtain⟨W7,oL⟩:=ExZ (((((w6.setCell ⟨w.heap.size,0,none⟩ nn).setCell ⟨w.heap.size,1,none⟩ dd).setCell ⟨w.heap.size+1+1,0,none⟩ c).setCell ⟨w.heap.size+1+1,1,none⟩ p))
     rw[oL]at cC⊢;clear oL a0 a1 af al a2 a3 Jj Jk a4 a5 yF yG;obtain⟨tW,lD,qS,yH,EM⟩:=cC;have CR:=hH.t.of_block (yH _ (by omega) (by omega)) EM;have o8:W7.cell? ⟨R,2,none⟩=some (.string s):=(Us (w:=w6) (a:=⟨R,2,none⟩) (yH R (by omega) (by omega))).trans dC;refine (O9 s _ em rfl MN (by omega) _).mono ?_;rw[vh.o];rintro e w8 ⟨rfl,g8⟩;have CS:WB3 w.heap.size (.int .i64 nn) dd (.slice none 0 0) (0:Int) c p w8:=⟨tW.gr g8,CR.gr g8,lD.gr g8⟩
     have be:w8.cell? ⟨R,2,none⟩=some (.string s):=(g8.use.1 R 2 (by omega)).trans o8;have Jm:=U0 CS;have ir:=U0 (qS.gr g8);have BP:W7.heap.size<=w8.heap.size:=g8.size;obtain⟨⟨p0,p1,pf,pl⟩,⟨p2,p3,fC,fD⟩,⟨p4,p5,dp,da⟩⟩:=CS;have CJ:R<w8.heap.size:=by omega
     clear tW CR lD dF hH qS;go_wp2_with fail;refine Z180 ?_;intro w9 g9
     go_upto_region 17 with fail
     have cK:=Jm.o.gr g9;have aD:=cK.gr (Gr.refl w9).drew;clear p0 p1 pf pl p2 p3 fC fD p4 p5 dp da;obtain⟨⟨p0,p1,pf,pl⟩,⟨p2,p3,fC,fD⟩,⟨p4,p5,dp,da⟩⟩:=id cK;refine Reg.begin' (W:=λ _=>true) (S:=WB3 w.heap.size nn dd (.slice none 0 0) (0:Int) c p) (by kernel_rfl) ?_;refine Z4 ?_;go_wp2_with fail;obtain⟨⟨q0,q1,qf,ql⟩,⟨y0,y1,yf,yl⟩,⟨mz,mA,mB,mC⟩⟩:=aD;have cW:=bV.o
     try simp only at cW
     rw[<-cW];exact U1 (v := .tuple #[.agg #[nn,dd],.agg #[.slice none 0 0,(0:Int)],fv c p]) (by simp[results,results58,go_sem,q0,q1,qf,ql,y0,y1,yf,yl,mz,mA,mB,mC]) rfl ⟨⟨_,_,_,_,_,_,rfl⟩,dT,ad,(ir.o.gr g9).drew,(g9.drew.use.1 R 2 CJ).trans be,λ k hk=>(ke k hk).imp id (λ h=>by omega)⟩
    |ok r =>
     obtain⟨into,dd,g1⟩:=r;rintro e w6 ⟨he,ib,L2,ad,cq,st2,ke⟩;subst he;have iB:=st2.size;have dC:=cq.v.cells.1.2.2.1;have hH:=sR.o.st st2 (λ k h1 _=>fd k h1);have dF:=(lC.o.st).trans st2;have cC:=V67 hH.i hH.f (by omega) dF (U2 _) (by omega) into dd (0:Int) (0:Int);obtain⟨⟨a0,a1,af,al⟩,⟨a2,a3,Jj,Jk⟩,⟨a4,a5,yF,yG⟩⟩:=id hH;clear p0 p1 pf pl p2 p3 fC fD p4 p5 dp da EI EJ EK EL;have Jl:R<w6.heap.size:=by omega
     go_wp2_with fail;obtain⟨W7,oL⟩:=ExZ (((((w6.setCell ⟨w.heap.size,0,none⟩ into).setCell ⟨w.heap.size,1,none⟩ dd).setCell ⟨w.heap.size+1+1,0,none⟩ (0:Int)).setCell ⟨w.heap.size+1+1,1,none⟩ (0:Int)))
     rw[oL]at cC⊢;clear oL a0 a1 af al a2 a3 Jj Jk a4 a5 yF yG;obtain⟨tW,lD,qS,yH,EM⟩:=cC;have CR:=hH.t.of_block (yH _ (by omega) (by omega)) EM;have o8:W7.cell? ⟨R,2,none⟩=some (.string s):=(Us (w:=w6) (a:=⟨R,2,none⟩) (yH R (by omega) (by omega))).trans dC;refine (O9 s _ em rfl MN (by omega) _).mono ?_;rw[vh.o];rintro e w8 ⟨rfl,g8⟩;have CS:WB3 w.heap.size (.int .i64 into) dd (.slice none 0 0) (0:Int) (0:Int) (0:Int) w8:=⟨tW.gr g8,CR.gr g8,lD.gr g8⟩
     have be:w8.cell? ⟨R,2,none⟩=some (.string s):=(g8.use.1 R 2 (by omega)).trans o8;have Jm:=U0 CS;have ir:=U0 (qS.gr g8);have BP:W7.heap.size<=w8.heap.size:=g8.size;obtain⟨⟨p0,p1,pf,pl⟩,⟨p2,p3,fC,fD⟩,⟨p4,p5,dp,da⟩⟩:=CS;have CJ:R<w8.heap.size:=by omega
     clear tW CR lD dF hH qS;go_wp2_with fail;refine Z187 ?_;intro w9 g9;have om:=(g9.use.1 R 2 CJ).trans be;have MO:=U4 CJ g9.size;have TC:(0:Int)<=(e1:Int):=by omega
     have TD:(e1:Int)<=(s.size:Int):=by omega
     have zr:=g9.size;have EN:=U0 (Jm.o.gr g9);have eQ:=U0 (ir.o.gr g9);have bm:∀k,w.heap.size<=k->k<=w.heap.size+1+1->ad k=0:=λ k h1 h2=>Ue λ h=>(ke k h).elim (λ h=>by have:=(H.o.v.lt k h).2;omega) (λ h=>by omega)
     have lG:GM w9 R B base s ib L2 ad x g1:=⟨(cq.v.kept (w':=W7) (λ k hk=>yH k (λ e=>hk (bm k (by omega) (by omega))) (λ e=>hk (bm k (by omega) (by omega)))) EM).gr (g8.trans g9),cq.nd,cq.sec,cq.dep,cq.many⟩
     have cr:=U0 lG;have cW:=bV.o
     try simp only at cW
     rw[vh.o]at cW;clear lG cq be p0 p1 pf pl p2 p3 fC fD p4 p5 dp da yH o8 g8 dC;obtain⟨⟨p0,p1,pf,pl⟩,⟨p2,p3,fC,fD⟩,⟨p4,p5,dp,da⟩⟩:=id EN.o;by_cases eV:V9 (bs s) e1=61
     ·rw[Ua eV]at cW;have HP:=U0 (O6 s ⟨#[61]⟩ e1 true (by rw[Oce];exact decide_eq_true eV));have Ho:e1<s.size:=Ue λ aK=>by rw[O10 s e1 aK]at eV;omega
      clear eV;go_wp2_with fail;refine (HP.o _).mono ?_;rintro e cx ⟨rfl,Jn⟩;subst cx;obtain⟨e2,mM⟩:=ExZ (V7 (bs s) (e1+1))
      have aA:=(V8 (bs s) (e1+1) (by rw[O0];omega)).2;rw[mM,O0]at aA;obtain⟨Xr,Jo⟩:=ExZ (V1l ⟨Vj Tb,Vd⟩ (bs s) e2 dd)
      rw[mM,Jo]at cW;have yI:Xr ≠ .non:=λ e=>by rw[e]at cW;exact a8 cW.symm
      have AK:=U0 mM;have ft:=U0 (λ V (q:Gr w0 V)=>Oeh V (is.o.gr q) s hs _ e2 rfl aA (dd:Int) (min dd 256) (by omega) Xr (by rw[Ohr];exact Jo) yI);have R2:=U0 cW;have vH:Gr w0 w9:=eQ.o.below pV.o (λ k e=>by have:=(H.o.v.lt k e).1;omega);have Jp:=U0 vH;have TE:IntKind.i64.wrap ((e1:Int)+1)=(e1:Int)+1:=Uk _ ⟨by omega,by omega⟩;clear mM Jo cW vH
      go_upto_region 16 with fail
      have hS:w9.drew.cell? ⟨R,2,none⟩=some (.string s)/\FX w.heap.size into dd w9.drew:=⟨om,EN.o.i.gr (Gr.refl w9).drew⟩
      refine Reg.begin' (W:=λ i=>i != 13&&i != 18&&i != 19) (S:=λ W=>W.cell? ⟨R,2,none⟩=some (.string s)/\FX w.heap.size into dd W) (by kernel_rfl) ?_;refine Z32 ?_;refine Reg.tl 3 hS ?_ (hy:=by intro w ab;obtain⟨s0,⟨s1,s2,s3,s4⟩⟩:=ab;go_simp;try with_reducible rfl);refine Z309 ?_;refine Reg.tl 7 hS ?_ (hy:=by intro w ab;obtain⟨s0,⟨s1,s2,s3,s4⟩⟩:=ab;go_simp;try with_reducible rfl);refine Z310 ?_;refine Reg.ty 11 ?_;refine Reg.tl 12 hS ?_ (hy:=by intro w ab;obtain⟨s0,⟨s1,s2,s3,s4⟩⟩:=ab;go_simp;try with_reducible rfl);refine Reg.on 10 ?_;go_simp;refine (O9 s _ (e1+1) (by omega) (by omega) (by omega) _).mono ?_;rw[AK.o];rintro e wb ⟨rfl,gb⟩;have lF:wb.cell? ⟨R,2,none⟩=some (.string s)/\FX w.heap.size into dd wb:=⟨(gb.use.1 R 2 MO).trans om,hS.2.gr gb⟩
      first|refine (And.intro (lF) ?_:_/\Reg.anyW _ _ _ _ _ _ _ _ _ _)|refine (And.intro (λ _=>lF) ?_:_/\Reg.anyW _ _ _ _ _ _ _ _ _ _)|refine (And.intro (λ _ _=>lF) ?_:_/\Reg.anyW _ _ _ _ _ _ _ _ _ _)|skip
      refine Z2 ?_;have ms:Gr w9 wb:=(Gr.refl w9).drew.trans gb;refine Reg.on 13 ?_;go_simp;refine (ft.o wb (Jp.o.trans ms)).mono ?_;rintro e vq ap;obtain⟨ta,tn,tc,tr,tm,ec,eq,rfl,CT⟩:=ap.open yI;refine Z2 ?_;refine Z74 ?_;refine Reg.ty 17 ?_;have gA:=ms.trans CT;have u7:=EN.o.gr gA;have cC:=V67 u7.t u7.f (by omega) (eQ.o.gr gA) (by omega) (by omega) (.slice ta tn tc) tr ec eq;have CU:=u7.i;clear p0 p1 pf pl p2 p3 fC fD p4 p5 dp da;obtain⟨⟨p0,p1,pf,pl⟩,⟨p2,p3,fC,fD⟩,⟨p4,p5,dp,da⟩⟩:=u7;refine Reg.on 18 ?_;go_simp;refine Z2 ?_;refine Z174 ?_;refine Z2 ?_;refine Z12 ?_;obtain⟨vI,qT⟩:=ExZ (((((vq.setCell ⟨w.heap.size+1,0,none⟩ (.slice ta tn tc)).setCell ⟨w.heap.size+1,1,none⟩ tr).setCell ⟨w.heap.size+1+1,0,none⟩ ec).setCell ⟨w.heap.size+1+1,1,none⟩ eq))
      rw[qT]at cC⊢;clear qT p0 p1 pf pl p2 p3 fC fD p4 p5 dp da;obtain⟨CV,nA,vJ,u9,yJ⟩:=cC;have CW:=CU.of_block (u9 _ (by omega) (by omega)) yJ;have cK:WB3 w.heap.size into dd (.slice ta tn tc) tr ec eq vI:=⟨CW,CV,nA⟩
      have aD:=cK.gr (Gr.refl vI).drew;obtain⟨⟨p0,p1,pf,pl⟩,⟨p2,p3,fC,fD⟩,⟨p4,p5,dp,da⟩⟩:=id cK;have An:=ms.size;have TF:=CT.size;have lq:∀k,ad k≠0->k<w9.heap.size:=λ k h=>(cr.o.v.lt k h).2
      have CX:GrV vI.drew R B base s 0 ib L2 ad g1.srt x:=((cr.o.v.gr gA).kept (w':=vI) (λ k hk=>u9 k (λ e=>hk (bm k (by omega) (by omega))) (λ e=>hk (bm k (by omega) (by omega)))) yJ).drew;have vK:=U0 CX;have cO:=U0 vJ.drew;have Jq:=U0 u9;have R3:=U0 ap;clear CW CV nA CU vJ u9 CX ap
      go_upto_region 17 with fail
      refine Reg.begin' (W:=λ _=>true) (S:=WB3 w.heap.size into dd (.slice ta tn tc) tr ec eq) (by kernel_rfl) ?_;refine Z4 ?_;go_wp2_with fail;obtain⟨⟨q0,q1,qf,ql⟩,⟨y0,y1,yf,yl⟩,⟨mz,mA,mB,mC⟩⟩:=aD;refine U1 (v := .tuple #[.agg #[into,dd],.agg #[.slice ta tn tc,tr],.agg #[ec,eq]]) (by simp[results,results58,go_sem,q0,q1,qf,ql,y0,y1,yf,yl,mz,mA,mB,mC]) rfl ?_;rw[<-R2.o];have MP:=R3.o;cases Xr with
      |non=>exact absurd rfl yI
      |bad c p =>
       obtain⟨he,dT,_⟩:=MP;have h1:ec=(c:Int)/\eq=(p:Int):=by simp[fv,and_assoc]at he;omega
       obtain⟨rfl,rfl⟩:=h1;exact⟨⟨_,_,_,_,_,_,rfl⟩,dT,ad,cO.o,vK.o.cells.1.2.2.1,λ k hk=>(ke k hk).imp id (λ h=>by omega)⟩
      |ok r =>
       obtain⟨ri,rm,st⟩:=r;obtain⟨gT,LT,he,_,iq,bP,qU,_⟩:=MP;have h1:ta=some ⟨gT,0,none⟩/\tn=st.length/\tc=st.length/\tr=(ri:Int)/\ec=0/\eq=0:=by
        simp[f0,and_assoc]at he;obtain⟨a1,a2,a3,a4,_,a6,a7⟩:=he;exact⟨a1,a2,a3,a4,a6,a7⟩
       obtain⟨rfl,rfl,rfl,rfl,rfl,rfl⟩:=h1;have R5:LT.length=st.length:=by rw[<-bP,Ul]
       refine⟨dd,_,LT,wb.heap.size,ib,L2,ad,x,rfl,rfl,rfl,⟨vK.o,cr.o.nd,cr.o.sec,cr.o.dep,cr.o.many⟩,cO.o,λ k hk=>(ke k hk).imp id (λ h=>by omega),.inr ⟨gT,by rw[R5],?_⟩,bP,by omega,λ k hk=>Ue λ h=>by have:=lq k h;omega⟩;exact (qU.keptB (λ k hk _=>Jq.o k (by omega) (by omega)) yJ).gr (Gr.refl vI).drew
     rw[Ud eV]at cW;have HP:=U0 (O6 s ⟨#[61]⟩ e1 false (by rw[Oce];exact U3a eV));clear eV;go_wp2_with fail;refine (HP.o _).mono ?_;rintro e cx ⟨rfl,Jn⟩;subst cx
     go_upto_region 17 with fail
     have cK:=EN.o;have aD:=cK.gr (Gr.refl w9).drew;refine Reg.begin' (W:=λ _=>true) (S:=WB3 w.heap.size into dd (.slice none 0 0) (0:Int) (0:Int) (0:Int)) (by kernel_rfl) ?_;refine Z4 ?_;go_wp2_with fail;obtain⟨⟨q0,q1,qf,ql⟩,⟨y0,y1,yf,yl⟩,⟨mz,mA,mB,mC⟩⟩:=aD;rw[<-cW];have lq:∀k,ad k≠0->k<w9.drew.heap.size:=λ k h=>(cr.o.v.lt k h).2
     exact U1 (v := .tuple #[.agg #[into,dd],.agg #[.slice none 0 0,(0:Int)],f0]) (by simp[results,results58,go_sem,q0,q1,qf,ql,y0,y1,yf,yl,mz,mA,mB,mC]) rfl ⟨dd,_,[],w9.drew.heap.size,ib,L2,ad,x,rfl,rfl,rfl,cr.o.gr (Gr.refl w9).drew,eQ.o.drew,λ k hk=>(ke k hk).imp id (λ h=>by omega),.inl ⟨rfl,rfl⟩,rfl,(show w.heap.size<=w9.heap.size by omega),λ k hk=>Ue λ h=>by have:=lq k h;omega⟩
