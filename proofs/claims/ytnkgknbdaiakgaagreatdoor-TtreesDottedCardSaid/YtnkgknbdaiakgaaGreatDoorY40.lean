/- The proof's part 40. -/
import Derived.Test.YtnkgknbdaiakgaaGreatDoorY39
set_option maxHeartbeats 16000000
set_option linter.all false
set_option maxRecDepth 100000
namespace Go.Proofs.YtnkgknbdaiakgaaGreatDoor
open Pl Go.Proofs.Tryz Go.RowKit Go.Shelf Go.Joins
attribute [local go_sem] U28
structure WB3(z:Nat)(a b c d e f:Value)(w:World):Prop where
 i:FX z a b w
 t:FX (z+1) c d w
 f:FX (z+1+1) e f w
theorem WB3.gr{z:Nat}{a b c d e f:Value}{w w':World}(h:WB3 z a b c d e f w)(g:Gr w w'):WB3 z a b c d e f w':=⟨h.i.gr g,h.t.gr g,h.f.gr g⟩
theorem WB3.st{z:Nat}{a b c d e f:Value}{w w':World}{F F':Nat->Prop}(h:WB3 z a b c d e f w)(g:St F F' w w')(hF:∀k,z<=k->k<=z+1+1->¬F k):WB3 z a b c d e f w' :=
 ⟨h.i.st g (hF _ Ya Ya),h.t.st g (hF _ Ya Ya),h.f.st g (hF _ Ya Ya)⟩
theorem WB3.new(w:World)(a b c d e f:Value)(T0 T1 T2:TypeId):WB3 w a b c d e f (((w.alloc (.cells #[a,b] T0)).alloc (.cells #[c,d] T1)).alloc (.cells #[e,f] T2))/\Gr w (((w.alloc (.cells #[a,b] T0)).alloc (.cells #[c,d] T1)).alloc (.cells #[e,f] T2)) /\(((w.alloc (.cells #[a,b] T0)).alloc (.cells #[c,d] T1)).alloc (.cells #[e,f] T2)).heap.size=w.heap.size+1+1+1:=by
 obtain⟨f1,g1,z1⟩:=bx2 w a b T0;obtain⟨w1,h1⟩:=ExZ (w.alloc (.cells #[a,b] T0))
 rw[h1]at f1 g1 z1⊢;obtain⟨f2,g2,z2⟩:=bx2 w1 c d T1;obtain⟨w2,h2⟩:=ExZ (w1.alloc (.cells #[c,d] T1))
 rw[h2]at f2 g2 z2⊢;obtain⟨f3,g3,z3⟩:=bx2 w2 e f T2;rw[z1]at f2 z2;rw[z2]at f3 z3;exact⟨⟨f1.gr (g2.trans g3),f2.gr g3,f3⟩,g1.trans (g2.trans g3),z3⟩
def O93(w:World)(R B base:Nat)(s:ByteArray)(own:Nat->Nat)(iv nsv:Value)(X:Va (Nat×Nat×Ve×Vc))(e:Ending)(w':World):Prop:=match X with
 |.non=>True
 |.bad c p=>(∃(v1 v2:Int)(o:Option Addr)(l k:Nat)(v4:Int),e=.returned (.tuple #[.agg #[v1,v2],.agg #[.slice o l k,v4],fv c p]))/\c≠0/\∃own',St (FV own) (FV own') w w'/\w'.cell? ⟨R,2,none⟩=some (.string s)/\(∀k,own' k≠0->own k≠0\/w.heap.size<=k)
 | .ok (into,root,nds,g')=>∃(dd:Int)(tv:Value)(T:List NdR)(base2:Nat)(nv':Value)(L':List NdR)(own':Nat->Nat)(x':GrX),e=.returned (.tuple #[.agg #[into,dd],.agg #[tv,root],f0])/\x'.iv=iv/\x'.nsv=nsv /\
     GM w' R B base s nv' L' own' x' g'/\St (FV own) (FV own') w w'/\(∀k,own' k≠0->own k≠0\/w.heap.size<=k)/\O90 w' base2 tv T/\T.map (·.nd)=nds/\w.heap.size<=base2/\(∀k,base2<=k->own' k=0)
def Vcq(X:Va Vc):Va (Nat×Nat×Ve×Vc):=match X with
 |.non => .non
 |.bad c p => .bad c p
 |.ok g1 => .ok (0,0,[],g1)
theorem Vap.open{V w2:World}{R B base:Nat}{s:ByteArray}{own:Nat->Nat}{iv nsv:Value}{Y:Va Vc}{e:Ending}(h:Vap V R B base s own iv nsv Y e w2)(hn:Y≠.non):∃(c q:Int),e=.returned (.agg #[c,q])/\∃own',St (FV own) (FV own') V w2:=by
 cases Y with
 |non=>exact absurd rfl hn
 |bad c p =>
  obtain⟨he,_,own',a9,_⟩:=h;exact⟨c,p,he,own',a9⟩
 |ok r =>
  obtain⟨he,_,_,own',_,_,_,_,a9,_⟩:=h;exact⟨0,0,he,own',a9⟩
theorem Ogu{w w5 w6:World}{R B base:Nat}{s:ByteArray}{own:Nat->Nat}{iv nsv:Value}{X':Va Vc}{c q:Int}(g5:Gr w w5)(hz:w.heap.size+1+1<w5.heap.size)(aa:∀k,own k≠0->k<w.heap.size)(hR:R<w.heap.size)(h:Vap w5 R B base s own iv nsv X' (.returned (.agg #[c,q])) w6):O93 w R B base s own iv nsv (Vcq X') (.returned (.tuple #[.agg #[(0:Int),(0:Int)],.agg #[.slice none 0 0,(0:Int)],.agg #[c,q]])) ((w6.setCell (w.heap.size+1+1:Nat) c).setCell ⟨w+1+1,1,none⟩ q):=by
 have hb:∀k,k≠w.heap.size+1+1->((w6.setCell (w.heap.size+1+1:Nat) c).setCell ⟨w+1+1,1,none⟩ q).heap[k]?=w6.heap[k]?:=λ k hk=>by
  show ((w6.setCell (w.heap.size+1+1:Nat) c).setCell ⟨w+1+1,1,none⟩ q).heap[k]?=_;rw[U14 _ _ _ _ hk,U14 _ _ _ _ hk]
 have iD:((w6.setCell (w.heap.size+1+1:Nat) c).setCell ⟨w+1+1,1,none⟩ q).heap.size=w6.heap.size:=by
  show ((w6.setCell (w.heap.size+1+1:Nat) c).setCell ⟨w+1+1,1,none⟩ q).heap.size=_;simp[World.setCell]
 have a9:∀own',St (FV own) (FV own') w5 w6->St (FV own) (FV own') w ((w6.setCell (w.heap.size+1+1:Nat) c).setCell ⟨w+1+1,1,none⟩ q):=λ own' h=>((((g5.st).trans h).setCell (p:=⟨w+1+1,0,none⟩) (.inr Yk) _).setCell (p:=⟨w+1+1,1,none⟩) (.inr Yk) _)
 have h5:=g5.size;cases X' with
 |non=>trivial
 |bad c' p' =>
  obtain⟨he,hc,own',h1,h2,h3⟩:=h;have e1:c=(c':Int)/\q=(p':Int):=by simpa [fv]using he
  obtain⟨rfl,rfl⟩:=e1;exact⟨⟨_,_,_,_,_,_,rfl⟩,hc,own',a9 own' h1,(U1r (w:=w6) (a:=⟨R,2,none⟩) (hb R Ya)).trans h2,λ k hk=>(h3 k hk).imp id (λ h=>by omega)⟩
 |ok g' =>
  obtain⟨he,nv',L',own',x',e1,e2,cA,h1,h3⟩:=h;have e3:c=0/\q=0:=by simpa [f0]using he
  obtain⟨rfl,rfl⟩:=e3;have dL:own' (w.heap.size+1+1)=0:=U1e λ h=>(h3 _ h).elim (λ h=>by have:=aa _ h;omega) (λ h=>by omega)
  have h6:=h1.size;refine⟨0,_,[],w6.heap.size,nv',L',own',x',rfl,e1,e2,⟨cA.v.kept (λ k hk=>hb k (λ e=>hk (by rw[e];exact dL))) (U4e iD.symm),cA.nd,cA.sec,cA.dep,cA.many⟩,a9 own' h1,λ k hk=>(h3 k hk).imp id (λ h=>by omega),.inl ⟨rfl,rfl⟩,rfl,Ya,λ k hk=>U1e λ h=>by have:=(cA.v.lt k h).2;omega⟩
theorem Odo(s:ByteArray)(n:Nat):Pl.pre ((bs s).drop n) (bs ⟨#[61]⟩)=decide (V9 (bs s) n=61):=by
 show Pl.pre ((bs s).drop n) [61]=_;unfold V9;cases h:(bs s)[n]? with
 |none =>
  rw[U1w (by simpa using h)];rfl
 |some c =>
  obtain⟨hl,hc⟩:=U16.1 h;rw[U1u hl,hc];have h1:(c==61)=decide (c.toNat=61):=by
   by_cases e:c=61;subst e;rfl
   have e2:¬c.toNat=61:=λ e2=>e (by rw[<-U20];exact e2)
   simp[e,e2]
  simp[Pl.pre,h1]
theorem V2q.keptB{W W':World}{base g:Nat}{L:List NdR}(h:V2q W base g L)(hb:∀k,base<=k->k<W.heap.size->W'.heap[k]?=W.heap[k]?)(hz:W.heap.size<=W'.heap.size):V2q W' base g L :=
 ⟨⟨h.lt.1,U13 h.lt.2 hz⟩,λ i r hr j v hv=>(U1r (w:=W) (a:=⟨g,i*7+j,none⟩) (hb g h.lt.1 h.lt.2)).trans (h.cell i r hr j v hv),λ i r hr=>by
  obtain⟨a,b,c⟩:=h.rows i r hr;exact⟨a.of_block λ k e=>hb k (a.lt k e).1 (a.lt k e).2,b.of_block λ k e=>hb k (b.lt k e).1 (b.lt k e).2,c.of_block λ k e=>hb k (c.lt k e).1 (c.lt k e).2⟩,h.tg⟩
theorem O90.keptB{W W':World}{base:Nat}{v:Value}{L:List NdR}(h:O90 W base v L)(hb:∀k,base<=k->k<W.heap.size->W'.heap[k]?=W.heap[k]?)(hz:W.heap.size<=W'.heap.size):O90 W' base v L :=
 h.imp id λ ⟨g,e,hT⟩=>⟨g,e,hT.keptB hb hz⟩
theorem O6i.open{s:ByteArray}{V w2:World}{Y:Va (Nat×Nat×Ve)}{e:Ending}(h:O6i s V Y e w2)(hn:Y≠.non):∃(a:Option Addr)(n c:Nat)(r m c' q:Int),e=.returned (.tuple #[.agg #[.slice a n c,r],m,.agg #[c',q]])/\Gr V w2:=by
 cases Y with
 |non=>exact absurd rfl hn
 |bad c p=>exact⟨_,_,_,_,_,_,_,h.1,h.2.2⟩
 |ok r =>
  obtain⟨i,m,st⟩:=r;obtain⟨g,L,h1,_,_,_,_,h2⟩:=h;exact⟨_,_,_,_,_,_,_,h1,h2⟩
theorem Ojh(E:V19)(l:Pl.Bs)(n d:Nat):V1j E l n (min d 256)=V1j E l n d:=by
 unfold V1j;rw[show min (min d 256) 256=min d 256 by omega]
theorem Oq1(l:Pl.Bs):(Lib.trimPrefix (Lib.trimPrefix l [91]) [91]).length+(if Pl.pre l [91,91] then 2 else if Pl.pre l [91] then 1 else 0)=l.length:=by
 unfold Lib.trimPrefix Lib.hasPrefix;cases l with
 |nil=>rfl
 |cons a l =>
  by_cases ha:a=91
  subst ha;cases l with
  |nil=>rfl
  |cons b l =>
   by_cases hb:b=91;subst hb;simp[Pl.pre,List.isPrefixOf]
   have iP:(b==91)=false:=by simpa using hb
   have ay:((91:UInt8)==b)=false:=by simpa using U3p hb
   simp[Pl.pre,List.isPrefixOf,iP,ay]
  have Su:(a==91)=false:=by simpa using ha
  have Fb:((91:UInt8)==a)=false:=by simpa using U3p ha
  cases l <;> simp[Pl.pre,List.isPrefixOf,Su,Fb]
def Vel(z:Nat)(s:ByteArray)(w1:World)(Y:Va (List Pl.KW×Nat))(s9 ky:Value)(w':World):Prop :=
 ∃bK:Nat,s9=.pointer (some ⟨bK,0,none⟩)/\w1.heap.size<=bK/\bK<w'.heap.size/\St (λ k=>k=z+1+1) (λ k=>k=z+1+1) w1 w'/\match Y with
  |.non=>True
  |.bad c p=>ky=.int .i64 0/\c≠0/\FX (z+1+1) c p w'
  | .ok (ws,m)=>ky=.int .i64 m/\m<=s.size/\FX (z+1+1) (0:Int) (0:Int) w'/\0<ws.length/\ws.length<=s.size+2/\∃gk gs ck cs,FX bK (.slice (some ⟨gk,0,none⟩) ws.length ck) (.slice (some ⟨gs,0,none⟩) ws.length cs) w'/\w1.heap.size<=gk/\w1.heap.size<=gs/\gk<w'.heap.size/\gs<w'.heap.size /\
      ∀(j:Nat)(t:Pl.Bs)(a b:Nat),ws[j]?=some (t,a,b)->w'.cell? ⟨gk,j,none⟩=some (V3h t)/\w'.cell? ⟨gs,j*2,none⟩=some (.int .i64 a)/\w'.cell? ⟨gs,j*2+1,none⟩=some (.int .i64 b)
theorem O71.open{s:ByteArray}{V w2:World}{Y:Va (List Pl.KW×Nat)}{e:Ending}(h:O71 s V Y e w2)(hn:Y≠.non):∃(ka:Option Addr)(kn kc:Nat)(sa:Option Addr)(sn sc:Nat)(m c q:Int),e=.returned (.tuple #[.agg #[.slice ka kn kc,.slice sa sn sc],m,.agg #[c,q]])/\Gr V w2:=by
 cases Y with
 |non=>exact absurd rfl hn
 |bad c p=>exact⟨_,_,_,_,_,_,_,_,_,h.1,h.2.2⟩
 |ok r =>
  obtain⟨ws,m⟩:=r;obtain⟨kv,sv,h1,_,hk,hs,_,h0,h2⟩:=h;obtain⟨gk,ck,rfl,_,_⟩:=hk.form h0;obtain⟨gs,cs,rfl,_,_⟩:=hs.form h0;exact⟨_,_,_,_,_,_,_,_,_,h1,h2⟩
theorem O9y{z:Nat}{s:ByteArray}{w1 V w2 w3:World}{Y:Va (List Pl.KW×Nat)}{kv sv:Value}{m c q:Int}(h:O71 s V Y (.returned (.tuple #[.agg #[kv,sv],m,.agg #[c,q]])) w2)(gV:Gr w1 V)(g2:Gr V w2)(g3:Gr w2 w3){bK:Nat}(Fv:w1.heap.size<=bK)(oK:bK<V.heap.size\/w2.heap.size<=bK){x y:Value}(fK:FX bK x y w3)(hz:z+1+1<w1.heap.size){x' y':Value}(ff:FX (z+1+1) x' y' w1):Vel z s w1 Y (.pointer (some ⟨bK,0,none⟩)) m ((((w3.setCell bK kv).setCell ⟨bK,1,none⟩ sv).setCell (z+1+1:Nat) c).setCell ⟨z+1+1,1,none⟩ q):=by
 have gA:=(gV.trans g2).trans g3;have a8:bK≠z+1+1:=Ya;have s1:St (λ k=>k=z+1+1) (λ k=>k=z+1+1) w1 ((((w3.setCell bK kv).setCell ⟨bK,1,none⟩ sv).setCell (z+1+1:Nat) c).setCell ⟨z+1+1,1,none⟩ q) :=
  ((((gA.st (F:=λ k=>k=z+1+1)).setCell (p:=bK) (.inr Fv) kv).setCell (p:=⟨bK,1,none⟩) (.inr Fv) sv).setCell (p:=⟨z+1+1,0,none⟩) (.inl rfl) c).setCell (p:=⟨z+1+1,1,none⟩) (.inl rfl) q
 have hF:=((ff.gr gA).other a8 (o:=0) kv).other a8 (o:=1) sv |>.set c q;have hK:=((fK.set kv sv).other (U3p a8) (o:=0) c).other (U3p a8) (o:=1) q;have hb:∀k,k≠bK->k≠z+1+1->((((w3.setCell bK kv).setCell ⟨bK,1,none⟩ sv).setCell (z+1+1:Nat) c).setCell ⟨z+1+1,1,none⟩ q).heap[k]?=w3.heap[k]?:=λ k k1 k2=>by
  rw[U14 _ _ _ _ k2,U14 _ _ _ _ k2,U14 _ _ _ _ k1,U14 _ _ _ _ k1]
 refine⟨bK,rfl,Fv,hK.2.2.2,s1,?_⟩;cases Y with
 |non=>trivial
 |bad c' p' =>
  obtain⟨he,hc,_⟩:=h;have h1:m=0/\c=(c':Int)/\q=(p':Int):=by simp[fv,and_assoc]at he;omega
  obtain⟨rfl,rfl,rfl⟩:=h1;exact⟨rfl,hc,hF⟩
 |ok r =>
  obtain⟨ws,m'⟩:=r;obtain⟨qP,qQ,he,hm,hk,hs,hl,h0,_⟩:=h;have h1:kv=qP/\sv=qQ/\m=(m':Int)/\c=0/\q=0:=by
   simp[f0,and_assoc]at he;obtain⟨a1,a2,a3,a4,a5⟩:=he;exact⟨a1,a2,Ya,a4,a5⟩
  obtain⟨rfl,rfl,rfl,rfl,rfl⟩:=h1;obtain⟨gk,gs,ck,cs,rfl,rfl,l1,l2,l3,l4,hw⟩:=O9o hk hs h0;have ax:=gV.size;have j9:=g3.size;have US:=hb;have nk:gk≠bK/\gk≠z+1+1:=⟨Ya,Ya⟩
  have ns:gs≠bK/\gs≠z+1+1:=⟨Ya,Ya⟩
  have tk:∀o,((((w3.setCell bK (.slice gk ws.length ck)).setCell ⟨bK,1,none⟩ (.slice gs ws.length cs)).setCell (z+1+1:Nat) (0:Int)).setCell ⟨z+1+1,1,none⟩ (0:Int)).cell? ⟨gk,o,none⟩=w2.cell? ⟨gk,o,none⟩:=λ o =>
   (U1r (w:=w3) (a:=⟨gk,o,none⟩) (hb gk nk.1 nk.2)).trans (g3.use.1 _ _ l3)
  have ts:∀o,((((w3.setCell bK (.slice gk ws.length ck)).setCell ⟨bK,1,none⟩ (.slice gs ws.length cs)).setCell (z+1+1:Nat) (0:Int)).setCell ⟨z+1+1,1,none⟩ (0:Int)).cell? ⟨gs,o,none⟩=w2.cell? ⟨gs,o,none⟩:=λ o =>
   (U1r (w:=w3) (a:=⟨gs,o,none⟩) (hb gs ns.1 ns.2)).trans (g3.use.1 _ _ l4)
  refine⟨rfl,hm,hF,h0,hl,gk,gs,ck,cs,hK,Ya,Ya,?_,?_,λ j t a b hj=>?_⟩;simp only[World.setCell,Array.size_modify];omega;simp only[World.setCell,Array.size_modify];omega
  obtain⟨a1,a2,a3⟩:=hw j t a b hj;exact⟨(tk _).trans a1,(ts _).trans a2,(ts _).trans a3⟩
theorem Oly(Tb:Nat->UInt8×UInt8)(w0 w:World)(ei:Gr w0 w)(bW:RW Tb w0)(R B base:Nat)(iG:w0.heap.size<=base)(s:ByteArray)(hs:s.size<=20000000)(nv:Value)(L:List NdR)(own:Nat->Nat)(x:GrX)(g:Vc)(h:GM w R B base s nv L own x g)(hL:L.length<=20000001)(hm:x.many<=30000000)(jY:g.dep<=100000000)(n:Nat)(hn:n<s.size)(X:Va (Nat×Nat×Ve×Vc))(hX:V2d ⟨Vu Tb,Vl⟩ (bs s) n g=X)(a8:X≠.non):Calls prog 58 #[.pointer (some ⟨R,0,none⟩),n] w (O93 w R B base s own x.iv x.nsv X):=by
 have hb:=V8 (bs s) n (by rw[O0];omega);rw[O0]at hb;obtain⟨n1,n8⟩:=ExZ (V7 (bs s) n)
 rw[n8]at hb;obtain⟨bz,ay⟩:=hb;have ag:=hX;unfold V2d at ag;simp only at ag;rw[n8]at ag;have HX:=U10 ag;have H:=U10 h;have ny:=U10 ei;have ex:=U10 bW;have Sv:=U10 n8;have rB:=h.v.R_lt;obtain⟨⟨c0,c1,c2,c3,c4,c5,c6⟩,c7,c8,fz⟩:=h.v.cells;have i0:(0:Int)<=(n1:Int):=Ya
 have i1:(n1:Int)<=(s.size:Int):=Ya;clear h ag hX ei bW n8 c0 c1 c3 c4 c5 c6 c7 c8 fz;go_enter func58,ntmps58
 go_upto_region 1 with fail
 obtain⟨W,hW⟩:=ExZ (((w.alloc (.cells #[(0:Int),(0:Int)] 67)).alloc (.cells #[.slice none 0 0,(0:Int)] 26)).alloc (.cells #[(0:Int),(0:Int)] 29))
 obtain⟨hB,gW,hz⟩:=WB3.new w (0:Int) (0:Int) (.slice none 0 0) (0:Int) (0:Int) (0:Int) 67 26 29;rw[hW]at hB gW hz⊢;clear hW;have hS:W.drew.cell? ⟨R,2,none⟩=some (.string s):=(gW.drew.use.1 R 2 rB.2).trans c2;have HB:=U10 hB;have HG:=U10 gW;have HZ:=U10 hz;clear hB gW hz c2;refine Reg.begin' (W:=λ _=>true) (S:=λ W=>W.cell? ⟨R,2,none⟩=some (.string s)) Yc ?_;refine Z309 ?_;refine Reg.ty 8 ?_;refine Reg.on 9 ?_;go_simp;refine (Oa s _ n rfl Ya Ya _).mono ?_;rw[Sv.o];rintro e w1 ⟨rfl,g1⟩;have bW:=U13 rB.2 HG.o.size;have cF:w1.cell? ⟨R,2,none⟩=some (.string s):=(g1.use.1 R 2 bW).trans hS;refine Z64 ?_;refine Z65 ?_;refine Z12 ?_;have im:Gr W w1:=(Gr.refl W).drew.trans g1;have dn:=U10 (HG.o.trans im);have iF:=U10 (HB.o.gr im);have Bv:=U10 (show w.heap.size+1+1+1<=w1.heap.size by have:=im.size;have:=HZ.o;omega);clear g1 im HB HG HZ;obtain⟨⟨p0,p1,pf,pl⟩,⟨p2,p3,fD,fE⟩,⟨p4,p5,df,cX⟩⟩:=id iF.o;have k2:w1.cell? ⟨R,2,none⟩=some (.string s):=cF;have fL:R<w1.heap.size:=U13 rB.2 dn.o.size;clear hS cF bW;by_cases bD:n1=s.size
 have aO:V1c ((bs s).drop n1)=true:=by rw[U1w (by rw[O0];omega)];rfl
 have ag:=HX.o;rw[aO,U18 rfl]at ag;have aF:s.extract n1 s.size=ByteArray.empty:=by
  apply U31;apply U32.1;rw[show (s.extract n1 s.size).data.toList=(bs s).drop n1 from O3 s n1,U1w (by rw[O0];omega)];rfl
 clear aO bD;exact J90
 obtain⟨rest,aF,r1,r2,r3,r0,r4⟩:=Ofk s n1 Ya;have jU:V1c ((bs s).drop n1)=(bs ⟨#[35,13,10]⟩).contains (rest[0]'r0):=by
  rw[Odn,r4,O9 s n1 Ya];rfl
 have ag:=HX.o;cases aO:V1c ((bs s).drop n1) with
 |true =>
  rw[aO,U18 rfl]at ag;rw[aO]at jU;have Gq:=U10 jU.symm;clear aO jU r4;exact J90
 |false =>
  rw[aO,U1b Yb]at ag;rw[aO]at jU;have Gq:=U10 jU.symm;have bV:=U10 ag;clear aO jU r4 ag
  go_upto_region 4 with (go_at_call 85;refine (Oq ⟨#[35,13,10]⟩ _ false Gq.o _).mono ?_;rintro e w3 ⟨⟨i,rfl,hi⟩,Kb⟩;subst w3;have eY:decide (i<0)=true:=by (simp at hi⊢;omega))
  have qo:bs rest=(bs s).drop n1:=by rw[<-aF,O3]
  obtain⟨m,mu⟩:=ExZ ((if Pl.pre ((bs s).drop n1) [91,91] then 2 else if Pl.pre ((bs s).drop n1) [91] then 1 else 0))
  have bY:=Oq1 (bs rest);rw[qo,mu]at bY;rw[U15,O0]at bY;have iM:rest.size=s.size-n1:=by have:=O0 rest;rw[qo,U15,O0]at this;omega
  obtain⟨AJ,yZ⟩:∃AJ:ByteArray,(⟨(Lib.trimPrefix (Lib.trimPrefix (bs rest) [91]) [91]).toArray⟩:ByteArray)=AJ:=⟨_,rfl⟩
  have ND:AJ.size+m=s.size-n1:=by
   rw[<-bY,<-yZ,qo];simp[ByteArray.size]
  have H':=U10 (λ W=>strings_TrimPrefix rest ⟨#[91]⟩ W);have Kc:Hid (∀W,Calls prog 86 #[.string ⟨(Lib.trimPrefix rest.data.toList [91]).toArray⟩,.string ⟨#[91]⟩] W λ e w'=>e=.returned (.string AJ)/\w'=W):=λ W=>by
   have h1:=strings_TrimPrefix ⟨(Lib.trimPrefix rest.data.toList [91]).toArray⟩ ⟨#[91]⟩ W;rw[<-yZ];exact h1
  have dX:=U10 ND;have nU:=U10 iM;have cP:=bV.o;rw[mu]at cP;have bV:=U10 cP;have Sw:=U10 mu;clear mu bY qo yZ cP ND iM;go_wp2_with fail;refine (H'.o _).mono ?_;rintro e w3 ⟨rfl,Kb⟩;subst w3;go_wp2_with fail;refine (Kc.o _).mono ?_;rintro e w3 ⟨rfl,Kb⟩;subst w3;obtain⟨bq,Aa⟩:=ExZ (V7 (bs s) (n1+m))
  have NE:=(V8 (bs s) (n1+m) (by rw[O0];have:=dX.o;omega)).2;rw[Aa,O0]at NE;have vr:n1+m<=s.size:=by have:=dX.o;omega
  have Sx:IntKind.i64.wrap ((s.size:Int)-(AJ.size:Int))=(n1:Int)+(m:Int):=by have:=dX.o;rw[U1i _ ⟨Ya,Ya⟩];omega
  obtain⟨Y,hY⟩:=ExZ (V23 ⟨Vu Tb,Vl⟩ (bs s) bq)
  have cP:=bV.o;rw[Aa,hY]at cP;have bH:Y≠.non:=λ e=>by rw[e]at cP;exact a8 cP.symm
  have bV:=U10 cP;have NF:=U10 Aa;have ft:=U10 (λ V (q:Gr w0 V)=>O4w Tb ⟨Vu Tb,Vl⟩ rfl s _ bq rfl NE hs Y hY bH V (ex.o.gr q).q);have zc:=U10 (ny.o.trans dn.o);have j9:w.heap.size+1+1<w1.heap.size:=by have:=Bv.o;omega
  clear Aa hY cP
  go_upto_region 5 with fail
  go_cut [9,10] (λ s9 ky W'=>Vel w.heap.size s w1 Y s9 ky W')
  case first =>
   have hS:w1.drew.cell? ⟨R,2,none⟩=some (.string s):=k2;refine Reg.begin' (W:=λ i=>i != 17&&i != 23&&i != 25) (S:=λ W=>W.cell? ⟨R,2,none⟩=some (.string s)) Yc ?_;refine Z309 ?_;refine Z46 ?_;refine Reg.tl 11 hS ?_ (hy:=by intro w ab;obtain s0:=ab;go_simp;try with_reducible rfl);refine Z47 ?_;refine Reg.ty 15 ?_;refine Z172 ?_;refine Z14 ?_;intro j hj;rcases hj with rfl|rfl
   ·skip;refine Z155 ?_;go_simp;refine (Oa s _ (n1+m) Ya Ya Ya (w1.drew)).mono ?_;rw[NF.o];rintro e wb ⟨rfl,gb⟩;have lK:wb.cell? ⟨R,2,none⟩=some (.string s):=(gb.use.1 R 2 fL).trans k2
    first|refine (And.intro (lK) ?_:_/\Reg.anyW _ _ _ _ _ _ _ _ _ _)|refine (And.intro (λ _=>lK) ?_:_/\Reg.anyW _ _ _ _ _ _ _ _ _ _)|refine (And.intro (λ _ _=>lK) ?_:_/\Reg.anyW _ _ _ _ _ _ _ _ _ _)|skip
    refine Z2 ?_;have mv:Gr w1 wb:=(Gr.refl w1).drew.trans gb;refine Reg.all (rs:=[17,22]) Yc Yb ?_;refine Z14 ?_;intro j hj;rcases hj with rfl|rfl
    ·skip;refine Reg.one (i:=17) rfl Yh ?_;go_simp;refine (ft.o (wb) (zc.o.trans mv)).mono ?_;rintro e w2 ao;obtain⟨ka,kn,kc,sa,sn,sc,em,ec,eq,rfl,g2⟩:=ao.open bH;refine Z2 ?_;refine Z234 ?_;refine Reg.on 22 ?_;go_simp;have hv:=(mv.trans g2).size;obtain⟨fK,g3,z3⟩:=bx2 w2 (.slice none 0 0) (.slice none 0 0) 42
     first|refine (And.intro (((g2.trans g3).use.1 R 2 (U13 fL mv.size)).trans lK) ?_:_/\Reg.anyW _ _ _ _ _ _ _ _ _ _)|refine (And.intro (λ _=>((g2.trans g3).use.1 R 2 (U13 fL mv.size)).trans lK) ?_:_/\Reg.anyW _ _ _ _ _ _ _ _ _ _)|refine (And.intro (λ _ _=>((g2.trans g3).use.1 R 2 (U13 fL mv.size)).trans lK) ?_:_/\Reg.anyW _ _ _ _ _ _ _ _ _ _)|skip
     refine Z2 ?_;obtain⟨W3,bM⟩:=ExZ (w2.alloc (.cells #[.slice none 0 0,.slice none 0 0] 42))
     rw[bM]at fK g3 z3⊢;clear bM;have gA:=(mv.trans g2).trans g3;refine Z311 ?_;intro xo xp xq xr rJ rK rL rM;refine Z300 ?_;go_wp2_with fail
     go_meet
     exact O9y ao mv g2 g3 hv (.inr (U12 _)) fK j9 iF.o.f
    skip;refine Z66 ?_;obtain⟨fK,g3,z3⟩:=bx2 wb (.slice none 0 0) (.slice none 0 0) 42;have sC:=(g3.use.1 R 2 (U13 fL mv.size)).trans lK
    first|refine (And.intro (sC) ?_:_/\Reg.anyW _ _ _ _ _ _ _ _ _ _)|refine (And.intro (λ _=>sC) ?_:_/\Reg.anyW _ _ _ _ _ _ _ _ _ _)|refine (And.intro (λ _ _=>sC) ?_:_/\Reg.anyW _ _ _ _ _ _ _ _ _ _)|skip
    refine Z2 ?_;obtain⟨W3,bM⟩:=ExZ (wb.alloc (.cells #[.slice none 0 0,.slice none 0 0] 42))
    rw[bM]at fK g3 z3⊢;clear bM sC;refine Reg.all (rs:=[17]) Yc Yb ?_;intro j hj;obtain rfl:=U22.1 hj;clear hj;have gV:=mv.trans g3;refine Reg.one (i:=17) rfl Yh ?_;go_simp;refine (ft.o (W3) (zc.o.trans gV)).mono ?_;rintro e w2 ao;obtain⟨ka,kn,kc,sa,sn,sc,em,ec,eq,rfl,g2⟩:=ao.open bH;refine Z2 ?_;refine Z234 ?_;have hv:=mv.size;have gA:=gV.trans g2;have fK:=fK.gr g2;refine Z311 ?_;intro xo xp xq xr rJ rK rL rM;refine Z300 ?_;go_wp2_with fail
    go_meet
    exact O9y ao gV g2 (Gr.refl _) hv (.inl (by rw[z3];omega)) fK j9 iF.o.f
   skip;refine Z66 ?_;obtain⟨fK,g3,z3⟩:=bx2 w1 (.slice none 0 0) (.slice none 0 0) 42;have sC:(w1.alloc (.cells #[.slice none 0 0,.slice none 0 0] 42)).drew.cell? ⟨R,2,none⟩=some (.string s):=((g3.drew).use.1 R 2 fL).trans k2
   first|refine (And.intro (sC) ?_:_/\Reg.anyW _ _ _ _ _ _ _ _ _ _)|refine (And.intro (λ _=>sC) ?_:_/\Reg.anyW _ _ _ _ _ _ _ _ _ _)|refine (And.intro (λ _ _=>sC) ?_:_/\Reg.anyW _ _ _ _ _ _ _ _ _ _)|skip
   refine Z2 ?_;obtain⟨W3,bM⟩:=ExZ ((w1.alloc (.cells #[.slice none 0 0,.slice none 0 0] 42)).drew)
   have fK:=fK.gr (Gr.refl _).drew;have g3:=g3.drew;have z3:W3.heap.size=w1.heap.size+1:=by rw[<-bM];exact z3
   rw[bM]at fK g3 sC⊢;clear bM;refine Reg.on 16 ?_;go_simp;refine (Oa s _ (n1+m) Ya Ya Ya (W3)).mono ?_;rw[NF.o];rintro e wb ⟨rfl,gb⟩;have lK:wb.cell? ⟨R,2,none⟩=some (.string s):=(gb.use.1 R 2 Ya).trans sC
   first|refine (And.intro (lK) ?_:_/\Reg.anyW _ _ _ _ _ _ _ _ _ _)|refine (And.intro (λ _=>lK) ?_:_/\Reg.anyW _ _ _ _ _ _ _ _ _ _)|refine (And.intro (λ _ _=>lK) ?_:_/\Reg.anyW _ _ _ _ _ _ _ _ _ _)|skip
   refine Z2 ?_;refine Reg.all (rs:=[17]) Yc Yb ?_;intro j hj;obtain rfl:=U22.1 hj;clear hj;have gV:=g3.trans gb;refine Reg.one (i:=17) rfl Yh ?_;go_simp;refine (ft.o (wb) (zc.o.trans gV)).mono ?_;rintro e w2 ao;obtain⟨ka,kn,kc,sa,sn,sc,em,ec,eq,rfl,g2⟩:=ao.open bH;refine Z2 ?_;refine Z234 ?_;have PS:=gb.size;have gA:=gV.trans g2;have fK:=(fK.gr gb).gr g2;refine Z311 ?_;intro xo xp xq xr rJ rK rL rM;refine Z300 ?_;go_wp2_with fail
   go_meet
   exact O9y ao gV g2 (Gr.refl _) (U12 _) (.inl Ya) fK j9 iF.o.f
  case rest =>
   obtain⟨bK,rfl,Fv,Sy,a9,qX⟩:=hcut;have sU:FX w (0:Int) (0:Int) wc/\FX (w.heap.size+1) (.slice none 0 0) (0:Int) wc:=⟨iF.o.i.st a9 Ya,iF.o.t.st a9 Ya⟩
   have vU:GM wc R B base s nv L own x g:=⟨(H.o.v.gr dn.o).kept (λ k hk=>a9.block k (U13 (H.o.v.lt k hk).2 dn.o.size) (λ e=>by have:=(H.o.v.lt k hk).2;omega)) a9.size,H.o.nd,H.o.sec,H.o.dep,H.o.many⟩
   have bC:Gr w wc:=a9.below dn.o (λ k e=>by omega);have kV:=U10 sU;have Kd:=U10 vU;have ja:=U10 bC;have LV:m<=2:=by have:=Sw.o;split at this <;> (try split at this) <;> omega
   have UT:IntKind.i64.wrap ((rest.size:Int)-(AJ.size:Int))=(m:Int):=by have:=dX.o;have:=nU.o;rw[U1i _ ⟨Ya,Ya⟩];omega
   have cP:=bV.o;clear p0 p1 pf pl p2 p3 fD fE p4 p5 df cX sU vU bC k2 a9;obtain⟨⟨p0,p1,pf,pl⟩,⟨p2,p3,fD,fE⟩⟩:=id kV.o;cases Y with
   |non=>exact absurd rfl bH
   |bad c p =>
    obtain⟨rfl,dF,hF⟩:=qX;simp only at cP;obtain⟨v0,v1,vf,vl⟩:=id hF;have HF:=U10 hF;go_wp2_with fail;refine Z180 ?_;intro w5 g5
    go_upto_region 8 with fail
    have cE:WB3 w (0:Int) (0:Int) (.slice none 0 0) (0:Int) c p w5:=⟨kV.o.1.gr g5,kV.o.2.gr g5,HF.o.gr g5⟩
    have aC:=cE.gr (Gr.refl w5).drew;clear p0 p1 pf pl p2 p3 fD fE v0 v1 vf vl hF;obtain⟨⟨p0,p1,pf,pl⟩,⟨p2,p3,fD,fE⟩,⟨p4,p5,df,cX⟩⟩:=id cE;refine Reg.begin' (W:=λ _=>true) (S:=WB3 w (0:Int) (0:Int) (.slice none 0 0) (0:Int) c p) Yc ?_;refine Z4 ?_;go_wp2_with fail;obtain⟨⟨q0,q1,qf,ql⟩,⟨y0,y1,yf,yl⟩,⟨mC,mD,mF,mG⟩⟩:=aC;have gE:=(ja.o.trans g5).drew;rw[<-cP];exact U11 (v:=.tuple #[.agg #[(0:Int),(0:Int)],.agg #[.slice none 0 0,(0:Int)],fv c p]) (by simp[results,results58,go_sem,q0,q1,qf,ql,y0,y1,yf,yl,mC,mD,mF,mG]) rfl ⟨⟨_,_,_,_,_,_,rfl⟩,dF,own,(St.refl (FV own) w).gr gE,(H.o.gr gE).v.cells.1.2.2.1,λ k hk => .inl hk⟩
   |ok r =>
    obtain⟨ws,em⟩:=r;obtain⟨rfl,NG,hF,h0,ed,gk,gs,ck,cs,hK,l1,l2,l3,l4,aD⟩:=qX;simp only at cP;obtain⟨v0,v1,vf,vl⟩:=id hF;have HF:=U10 hF;have HK:=U10 hK;have fX:w.heap.size<=w1.heap.size:=dn.o.size;have dp:own gk=0:=U1e λ h=>by have:=(H.o.v.lt gk h).2;omega
    have fe:own gs=0:=U1e λ h=>by have:=(H.o.v.lt gs h).2;omega
    have tx:m=2\/m=1\/m=0:=Ya;clear hK LV;rcases tx with rfl|rfl|rfl
    ·rw[U18 rfl]at cP;obtain⟨X',iy⟩:=ExZ (V3l g ws)
     have mH:Vcq X'=X:=by rw[iy]at cP;rw[<-cP];cases X' <;> rfl
     have lf:X'≠.non:=λ e=>by rw[e]at mH;exact a8 mH.symm
     clear cP;go_wp2_with fail;refine Z206 ?_;intro w5 g5
     go_upto_region 10 with fail
     refine Z110 ?_;intro cE nR aC kz;have jE:=U10 (Ood w5.drew R B base s nv L own x g (Kd.o.gr kz) hL hm gk gs ck cs ws (ws.length-1) Ya Ya (U13 l3 kz.size) (U13 l4 kz.size) dp fe (λ j t a b hj=>⟨(kz.use.1 _ _ l3).trans (aD j t a b hj).1,(kz.use.1 _ _ l4).trans (aD j t a b hj).2.1,(kz.use.1 _ _ l4).trans (aD j t a b hj).2.2⟩) X' iy lf);exact J107
    ·rw[U1b Ya,U18 rfl]at cP;obtain⟨X',iy⟩:=ExZ (V27 g ws)
     have mH:Vcq X'=X:=by rw[iy]at cP;rw[<-cP];cases X' <;> rfl
     have lf:X'≠.non:=λ e=>by rw[e]at mH;exact a8 mH.symm
     clear cP;go_wp2_with fail;refine Z206 ?_;intro w5 g5
     go_upto_region 12 with fail
     refine Z110 ?_;intro cE nR aC kz;have jE:=U10 (Olx w5.drew R B base s nv L own x g (Kd.o.gr kz) hL hm gk gs ck cs ws (ws.length-1) Ya Ya (U13 l3 kz.size) (U13 l4 kz.size) dp fe (λ j t a b hj=>⟨(kz.use.1 _ _ l3).trans (aD j t a b hj).1,(kz.use.1 _ _ l4).trans (aD j t a b hj).2.1,(kz.use.1 _ _ l4).trans (aD j t a b hj).2.2⟩) X' iy lf);exact J107
    rw[U1b Ya,U1b Ya]at cP;obtain⟨X',iy⟩:=ExZ (V2z g ws)
    rw[iy]at cP;have lf:X'≠.non:=λ e=>by rw[e]at cP;exact a8 cP.symm
    obtain⟨Fw,Fx,Fy,Fz⟩:=id HK.o;go_wp2_with fail;refine Z206 ?_;intro w5 g5;refine Z319 ?_;intro cE nR;have jE:=U10 (Ooe w5 R B base s nv L own x g (Kd.o.gr g5) jY hL hm gk gs ck cs ws (ws.length-1) Ya Ya (U13 l3 g5.size) (U13 l4 g5.size) dp fe (λ j t a b hj=>⟨(g5.use.1 _ _ l3).trans (aD j t a b hj).1,(g5.use.1 _ _ l4).trans (aD j t a b hj).2.1,(g5.use.1 _ _ l4).trans (aD j t a b hj).2.2⟩) X' iy lf);have dc:=ja.o.trans g5;clear p0 p1 pf pl p2 p3 fD fE v0 v1 vf vl hF Fw Fx Fy Fz;obtain⟨Fw,Fx,Fy,Fz⟩:=nR;obtain⟨⟨p0,p1,pf,pl⟩,⟨p2,p3,fD,fE⟩,⟨p4,p5,df,cX⟩⟩:=id cE;have fc:∀k,w.heap.size<=k->¬FV own k:=λ k hk e=>by have:=(H.o.v.lt k e).2;omega
    have tG:=U10 cE;have qO:=U10 dc;have bV:=U10 cP;have UU:=U10 iy;have vd:w.heap.size+1+1<w5.heap.size:=cX;obtain⟨e1,pW⟩:=ExZ (V7 (bs s) em)
    have jj:=(V8 (bs s) em (by rw[O0];omega)).2;rw[pW,O0]at jj;have vA:=U10 pW;clear cE dc cP iy aD pW;go_wp2_with fail;refine jE.o.mono ?_;clear jE;cases X' with
    |non=>exact absurd rfl lf
    |bad c p =>
     rintro e w6 ⟨⟨nn,dd,he⟩,dF,ac,st2,eM,ko⟩;subst he;have iD:=st2.size;have fJ:=tG.o.st st2 (λ k h1 _=>fc k h1);have dx:=(qO.o.st).trans st2;have cy:=V6q fJ.i fJ.f Ya dx (U12 _) Ya nn dd c p;obtain⟨⟨a0,a1,af,al⟩,⟨a2,a3,Ke,Kf⟩,⟨a4,a5,zd,ze⟩⟩:=id fJ;clear p0 p1 pf pl p2 p3 fD fE p4 p5 df cX Fw Fx Fy Fz;have Kg:R<w6.heap.size:=Ya
     go_wp2_with fail;obtain⟨W7,oO⟩:=ExZ (((((w6.setCell w nn).setCell ⟨w,1,none⟩ dd).setCell (w.heap.size+1+1:Nat) c).setCell ⟨w+1+1,1,none⟩ p))
     rw[oO]at cy⊢;clear oO a0 a1 af al a2 a3 Ke Kf a4 a5 zd ze;obtain⟨uy,lI,re,zf,FA⟩:=cy;have Dq:=fJ.t.of_block (zf _ Ya Ya) FA;have oe:W7.cell? ⟨R,2,none⟩=some (.string s):=(U1r (w:=w6) (a:=⟨R,2,none⟩) (zf R Ya Ya)).trans eM;refine (Oa s _ em rfl NG Ya _).mono ?_;rw[vA.o];rintro e w8 ⟨rfl,g8⟩;have Dr:WB3 w (.int .i64 nn) dd (.slice none 0 0) (0:Int) c p w8:=⟨uy.gr g8,Dq.gr g8,lI.gr g8⟩
     have aX:w8.cell? ⟨R,2,none⟩=some (.string s):=(g8.use.1 R 2 Ya).trans oe;have Kh:=U10 Dr;have iw:=U10 (re.gr g8);have C2:W7.heap.size<=w8.heap.size:=g8.size;obtain⟨⟨p0,p1,pf,pl⟩,⟨p2,p3,fD,fE⟩,⟨p4,p5,df,cX⟩⟩:=Dr;have Dj:R<w8.heap.size:=Ya;clear uy Dq lI dx fJ re;go_wp2_with fail;refine Z180 ?_;intro w9 g9
     go_upto_region 17 with fail
     have cE:=Kh.o.gr g9;have aC:=cE.gr (Gr.refl w9).drew;clear p0 p1 pf pl p2 p3 fD fE p4 p5 df cX;obtain⟨⟨p0,p1,pf,pl⟩,⟨p2,p3,fD,fE⟩,⟨p4,p5,df,cX⟩⟩:=id cE;refine Reg.begin' (W:=λ _=>true) (S:=WB3 w nn dd (.slice none 0 0) (0:Int) c p) Yc ?_;refine Z4 ?_;go_wp2_with fail;obtain⟨⟨q0,q1,qf,ql⟩,⟨y0,y1,yf,yl⟩,⟨mC,mD,mF,mG⟩⟩:=aC;have cP:=bV.o
     try simp only at cP
     rw[<-cP];exact U11 (v:=.tuple #[.agg #[nn,dd],.agg #[.slice none 0 0,(0:Int)],fv c p]) (by simp[results,results58,go_sem,q0,q1,qf,ql,y0,y1,yf,yl,mC,mD,mF,mG]) rfl ⟨⟨_,_,_,_,_,_,rfl⟩,dF,ac,(iw.o.gr g9).drew,(g9.drew.use.1 R 2 Dj).trans aX,λ k hk=>(ko k hk).imp id (λ h=>by omega)⟩
    |ok r =>
     obtain⟨into,dd,g1⟩:=r;rintro e w6 ⟨he,ic,L2,ac,cp,st2,ko⟩;subst he;have iD:=st2.size;have eM:=cp.v.cells.1.2.2.1;have fJ:=tG.o.st st2 (λ k h1 _=>fc k h1);have dx:=(qO.o.st).trans st2;have cy:=V6q fJ.i fJ.f Ya dx (U12 _) Ya into dd (0:Int) (0:Int);obtain⟨⟨a0,a1,af,al⟩,⟨a2,a3,Ke,Kf⟩,⟨a4,a5,zd,ze⟩⟩:=id fJ;clear p0 p1 pf pl p2 p3 fD fE p4 p5 df cX Fw Fx Fy Fz;have Kg:R<w6.heap.size:=Ya;go_wp2_with fail;obtain⟨W7,oO⟩:=ExZ (((((w6.setCell w into).setCell ⟨w,1,none⟩ dd).setCell (w.heap.size+1+1:Nat) (0:Int)).setCell ⟨w+1+1,1,none⟩ (0:Int)))
     rw[oO]at cy⊢;clear oO a0 a1 af al a2 a3 Ke Kf a4 a5 zd ze;obtain⟨uy,lI,re,zf,FA⟩:=cy;have Dq:=fJ.t.of_block (zf _ Ya Ya) FA;have oe:W7.cell? ⟨R,2,none⟩=some (.string s):=(U1r (w:=w6) (a:=⟨R,2,none⟩) (zf R Ya Ya)).trans eM;refine (Oa s _ em rfl NG Ya _).mono ?_;rw[vA.o];rintro e w8 ⟨rfl,g8⟩;have Dr:WB3 w (.int .i64 into) dd (.slice none 0 0) (0:Int) (0:Int) (0:Int) w8:=⟨uy.gr g8,Dq.gr g8,lI.gr g8⟩
     have aX:w8.cell? ⟨R,2,none⟩=some (.string s):=(g8.use.1 R 2 Ya).trans oe;have Kh:=U10 Dr;have iw:=U10 (re.gr g8);have C2:W7.heap.size<=w8.heap.size:=g8.size;obtain⟨⟨p0,p1,pf,pl⟩,⟨p2,p3,fD,fE⟩,⟨p4,p5,df,cX⟩⟩:=Dr;have Dj:R<w8.heap.size:=Ya;clear uy Dq lI dx fJ re;go_wp2_with fail;refine Z206 ?_;intro w9 g9;have ot:=(g9.use.1 R 2 Dj).trans aX;have NH:=U13 Dj g9.size;have UV:(0:Int)<=(e1:Int):=Ya;have UW:(e1:Int)<=(s.size:Int):=Ya;have z':=g9.size;have FB:=U10 (Kh.o.gr g9);have eO:=U10 (iw.o.gr g9);have bm:∀k,w.heap.size<=k->k<=w.heap.size+1+1->ac k=0:=λ k h1 h2=>U1e λ h=>(ko k h).elim (λ h=>by have:=(H.o.v.lt k h).2;omega) (λ h=>by omega)
     have lL:GM w9 R B base s ic L2 ac x g1:=⟨(cp.v.kept (w':=W7) (λ k hk=>zf k (λ e=>hk (bm k Ya Ya)) (λ e=>hk (bm k Ya Ya))) FA).gr (g8.trans g9),cp.nd,cp.sec,cp.dep,cp.many⟩
     have cq:=U10 lL;have cP:=bV.o
     try simp only at cP
     rw[vA.o]at cP;clear lL cp aX p0 p1 pf pl p2 p3 fD fE p4 p5 df cX zf oe g8 eM;obtain⟨⟨p0,p1,pf,pl⟩,⟨p2,p3,fD,fE⟩,⟨p4,p5,df,cX⟩⟩:=id FB.o;by_cases eN:V9 (bs s) e1=61
     ·rw[U18 eN]at cP;have HP:=U10 (O6 s ⟨#[61]⟩ e1 true (by rw[Odo];exact decide_eq_true eN));have I6:e1<s.size:=U1e λ aQ=>by rw[O13 s e1 aQ]at eN;omega
      clear eN;go_wp2_with fail;refine (HP.o _).mono ?_;rintro e ca ⟨rfl,Ki⟩;subst ca;obtain⟨e2,mP⟩:=ExZ (V7 (bs s) (e1+1))
      have ay:=(V8 (bs s) (e1+1) (by rw[O0];omega)).2;rw[mP,O0]at ay;obtain⟨Xr,Kj⟩:=ExZ (V1j ⟨Vu Tb,Vl⟩ (bs s) e2 dd)
      rw[mP,Kj]at cP;have zg:Xr≠.non:=λ e=>by rw[e]at cP;exact a8 cP.symm
      have Ba:=U10 mP;have ft:=U10 (λ V (q:Gr w0 V)=>O9v V (ex.o.gr q) s hs _ e2 rfl ay (dd:Int) (min dd 256) Ya Xr (by rw[Ojh];exact Kj) zg);have Sz:=U10 cP;have we:Gr w0 w9:=eO.o.below ny.o (λ k e=>by have:=(H.o.v.lt k e).1;omega);have Kk:=U10 we;have UX:IntKind.i64.wrap ((e1:Int)+1)=(e1:Int)+1:=U1i _ ⟨Ya,Ya⟩;clear mP Kj cP we
      go_upto_region 16 with fail
      have hS:w9.drew.cell? ⟨R,2,none⟩=some (.string s)/\FX w into dd w9.drew:=⟨ot,FB.o.i.gr (Gr.refl w9).drew⟩
      refine Reg.begin' (W:=λ i=>i != 13&&i != 18&&i != 19) (S:=λ W=>W.cell? ⟨R,2,none⟩=some (.string s)/\FX w into dd W) Yc ?_;refine Z31 ?_;refine Reg.tl 3 hS ?_ (hy:=by intro w ab;obtain⟨s0,⟨s1,s2,s3,s4⟩⟩:=ab;go_simp;try with_reducible rfl);refine Z82 ?_;refine Reg.tl 7 hS ?_ (hy:=by intro w ab;obtain⟨s0,⟨s1,s2,s3,s4⟩⟩:=ab;go_simp;try with_reducible rfl);refine Z316 ?_;refine Reg.ty 11 ?_;refine Reg.tl 12 hS ?_ (hy:=by intro w ab;obtain⟨s0,⟨s1,s2,s3,s4⟩⟩:=ab;go_simp;try with_reducible rfl);refine Reg.on 10 ?_;go_simp;refine (Oa s _ (e1+1) Ya Ya Ya _).mono ?_;rw[Ba.o];rintro e wb ⟨rfl,gb⟩;have lK:wb.cell? ⟨R,2,none⟩=some (.string s)/\FX w into dd wb:=⟨(gb.use.1 R 2 NH).trans ot,hS.2.gr gb⟩
      first|refine (And.intro (lK) ?_:_/\Reg.anyW _ _ _ _ _ _ _ _ _ _)|refine (And.intro (λ _=>lK) ?_:_/\Reg.anyW _ _ _ _ _ _ _ _ _ _)|refine (And.intro (λ _ _=>lK) ?_:_/\Reg.anyW _ _ _ _ _ _ _ _ _ _)|skip
      refine Z2 ?_;have mv:Gr w9 wb:=(Gr.refl w9).drew.trans gb;refine Reg.on 13 ?_;go_simp;refine (ft.o wb (Kk.o.trans mv)).mono ?_;rintro e vJ ao;obtain⟨ta,tn,tc,tr,tm,ec,eq,rfl,rg⟩:=ao.open zg;refine Z2 ?_;refine Z73 ?_;refine Reg.ty 17 ?_;have gA:=mv.trans rg;have uC:=FB.o.gr gA;have cy:=V6q uC.t uC.f Ya (eO.o.gr gA) Ya Ya (.slice ta tn tc) tr ec eq;have Ds:=uC.i;clear p0 p1 pf pl p2 p3 fD fE p4 p5 df cX;obtain⟨⟨p0,p1,pf,pl⟩,⟨p2,p3,fD,fE⟩,⟨p4,p5,df,cX⟩⟩:=uC;refine Reg.on 18 ?_;go_simp;refine Z2 ?_;refine Z174 ?_;refine Z2 ?_;refine Z12 ?_;obtain⟨wg,rh⟩:=ExZ (((((vJ.setCell (w.heap.size+1:Nat) (.slice ta tn tc)).setCell ⟨w+1,1,none⟩ tr).setCell (w.heap.size+1+1:Nat) ec).setCell ⟨w+1+1,1,none⟩ eq))
      rw[rh]at cy⊢;clear rh p0 p1 pf pl p2 p3 fD fE p4 p5 df cX;obtain⟨Dt,nJ,wl,uD,zh⟩:=cy;have Du:=Ds.of_block (uD _ Ya Ya) zh;have cE:WB3 w into dd (.slice ta tn tc) tr ec eq wg:=⟨Du,Dt,nJ⟩
      have aC:=cE.gr (Gr.refl wg).drew;obtain⟨⟨p0,p1,pf,pl⟩,⟨p2,p3,fD,fE⟩,⟨p4,p5,df,cX⟩⟩:=id cE;have AK:=mv.size;have UY:=rg.size;have lw:∀k,ac k≠0->k<w9.heap.size:=λ k h=>(cq.o.v.lt k h).2
      have Dv:GrV wg.drew R B base s 0 ic L2 ac g1.srt x:=((cq.o.v.gr gA).kept (w':=wg) (λ k hk=>uD k (λ e=>hk (bm k Ya Ya)) (λ e=>hk (bm k Ya Ya))) zh).drew;have wv:=U10 Dv;have cJ:=U10 wl.drew;have Kl:=U10 uD;have SA:=U10 ao;clear Du Dt nJ Ds wl uD Dv ao
      go_upto_region 17 with fail
      refine Reg.begin' (W:=λ _=>true) (S:=WB3 w into dd (.slice ta tn tc) tr ec eq) Yc ?_;refine Z4 ?_;go_wp2_with fail;obtain⟨⟨q0,q1,qf,ql⟩,⟨y0,y1,yf,yl⟩,⟨mC,mD,mF,mG⟩⟩:=aC;refine U11 (v:=.tuple #[.agg #[into,dd],.agg #[.slice ta tn tc,tr],.agg #[ec,eq]]) (by simp[results,results58,go_sem,q0,q1,qf,ql,y0,y1,yf,yl,mC,mD,mF,mG]) rfl ?_;rw[<-Sz.o];have yz:=SA.o;cases Xr with
      |non=>exact absurd rfl zg
      |bad c p =>
       obtain⟨he,dF,_⟩:=yz;have h1:ec=(c:Int)/\eq=(p:Int):=by simp[fv,and_assoc]at he;omega
       obtain⟨rfl,rfl⟩:=h1;exact⟨⟨_,_,_,_,_,_,rfl⟩,dF,ac,cJ.o,wv.o.cells.1.2.2.1,λ k hk=>(ko k hk).imp id (λ h=>by omega)⟩
      |ok r =>
       obtain⟨ri,rm,st⟩:=r;obtain⟨gT,LT,he,_,fG,bT,sD,_⟩:=yz;have h1:ta=some ⟨gT,0,none⟩/\tn=st.length/\tc=st.length/\tr=(ri:Int)/\ec=0/\eq=0:=by
        simp[f0,and_assoc]at he;obtain⟨a1,a2,a3,a4,_,a6,a7⟩:=he;exact⟨a1,a2,a3,a4,a6,a7⟩
       obtain⟨rfl,rfl,rfl,rfl,rfl,rfl⟩:=h1;have As:LT.length=st.length:=by rw[<-bT,U1n]
       refine⟨dd,_,LT,wb.heap.size,ic,L2,ac,x,rfl,rfl,rfl,⟨wv.o,cq.o.nd,cq.o.sec,cq.o.dep,cq.o.many⟩,cJ.o,λ k hk=>(ko k hk).imp id (λ h=>by omega),.inr ⟨gT,by rw[As],?_⟩,bT,Ya,λ k hk=>U1e λ h=>by have:=lw k h;omega⟩;exact (sD.keptB (λ k hk _=>Kl.o k Ya Ya) zh).gr (Gr.refl wg).drew
     rw[U1b eN]at cP;have HP:=U10 (O6 s ⟨#[61]⟩ e1 false (by rw[Odo];exact U4f eN));clear eN;go_wp2_with fail;refine (HP.o _).mono ?_;rintro e ca ⟨rfl,Ki⟩;subst ca
     go_upto_region 17 with fail
     have cE:=FB.o;have aC:=cE.gr (Gr.refl w9).drew;refine Reg.begin' (W:=λ _=>true) (S:=WB3 w into dd (.slice none 0 0) (0:Int) (0:Int) (0:Int)) Yc ?_;refine Z4 ?_;go_wp2_with fail;obtain⟨⟨q0,q1,qf,ql⟩,⟨y0,y1,yf,yl⟩,⟨mC,mD,mF,mG⟩⟩:=aC;rw[<-cP];have lw:∀k,ac k≠0->k<w9.drew.heap.size:=λ k h=>(cq.o.v.lt k h).2
     exact U11 (v:=.tuple #[.agg #[into,dd],.agg #[.slice none 0 0,(0:Int)],f0]) (by simp[results,results58,go_sem,q0,q1,qf,ql,y0,y1,yf,yl,mC,mD,mF,mG]) rfl ⟨dd,_,[],w9.drew.heap.size,ic,L2,ac,x,rfl,rfl,rfl,cq.o.gr (Gr.refl w9).drew,eO.o.drew,λ k hk=>(ko k hk).imp id (λ h=>by omega),.inl ⟨rfl,rfl⟩,rfl,(show w.heap.size<=w9.heap.size by omega),λ k hk=>U1e λ h=>by have:=lw k h;omega⟩
abbrev Up(base:Nat):World->World->Prop:=St (λ k=>base<=k) (λ k=>base<=k)
theorem St.up{F F':Nat->Prop}{a b:World}{base:Nat}(h:St F F' a b)(hF:∀k,F k->base<=k):Up base a b:=⟨h.os,h.tape,h.output,h.size,λ k hk hn=>h.block k hk (λ e=>hn (hF k e)),λ _ e => .inl e⟩
def V7k:List Value->List Pl.It->Prop
 |xs,[]=>xs=[]
 |xs,it::r=>∃k s n ys,xs=Value.int .u8 it.kind :: .int .i64 it.a :: .int .i64 it.b::k::s :: .int .i64 it.va :: .int .i64 it.vb::n :: .int .i64 it.root::ys/\V7k ys r
theorem V7k.add:∀{its:List Pl.It}{xs:List Value}(_:V7k xs its)(it:Pl.It)(k s n:Value),V7k (xs++[.int .u8 it.kind,.int .i64 it.a,.int .i64 it.b,k,s,.int .i64 it.va,.int .i64 it.vb,n,.int .i64 it.root]) (its++[it])
 | [],xs,h,it,k,s,n=>by
  unfold V7k at h;subst h;exact⟨k,s,n,[],rfl,rfl⟩
 | i0::r,xs,h,it,k,s,n=>by
  obtain⟨k0,s0,n0,ys,rfl,hy⟩:=h;exact⟨k0,s0,n0,_,rfl,hy.add it k s n⟩
structure GI(w:World)(base:Nat)(own:Nat->Nat)(iv nsv:Value)(its:List Pl.It)(ns:List Int):Prop where
 i:∃xs,w.ownsRow base 53 9 iv its.length xs/\V7k xs its
 n:w.ownsRow base 3 1 nsv its.length (ns.map λ z=>Value.int .i64 z)
 oi:∀k,iv.ownBlock=some k->own k=0
 on:∀k,nsv.ownBlock=some k->own k=0
 ne:∀k,iv.ownBlock=some k->nsv.ownBlock≠some k
theorem GI.st{w w':World}{base:Nat}{own own':Nat->Nat}{iv nsv:Value}{its:List Pl.It}{ns:List Int}(h:GI w base own iv nsv its ns)(g:St (FV own) (FV own') w w'):GI w' base own' iv nsv its ns:=by
 obtain⟨⟨xi,hi,hx⟩,hn,h3,h4,h5⟩:=h;have z:∀k,k<w.heap.size->own k=0->own' k=0:=λ k hk h0=>U1e λ h=>(g.own k h).elim (λ e=>e h0) (λ e=>by omega)
 exact⟨⟨xi,O1 hi λ k e=>g.block k (hi.lt k e).2 (λ hf=>hf (h3 k e)),hx⟩,O1 hn λ k e=>g.block k (hn.lt k e).2 (λ hf=>hf (h4 k e)),λ k e=>z k (hi.lt k e).2 (h3 k e),λ k e=>z k (hn.lt k e).2 (h4 k e),h5⟩
theorem GI.gr{w w':World}{base:Nat}{own:Nat->Nat}{iv nsv:Value}{its:List Pl.It}{ns:List Int}(h:GI w base own iv nsv its ns)(g:Gr w w'):GI w' base own iv nsv its ns:=h.st (g.st (F:=FV own))
def Oq2(w:World)(R B base:Nat)(s:ByteArray)(X:Va (Nat×Vc))(e:Ending)(w':World):Prop:=match X with
 |.non=>True
 |.bad c p=>e=.returned (.tuple #[(0:Int),fv c p])/\c≠0/\Up base w w'
 |.ok (m,g')=>∃nv' L' own' x',e=.returned (.tuple #[m,f0])/\GM w' R B base s nv' L' own' x' g'/\GI w' base own' x'.iv x'.nsv g'.its g'.ns/\Up base w w'
theorem O93.open{V w2:World}{R B base:Nat}{s:ByteArray}{own:Nat->Nat}{iv nsv:Value}{Y:Va (Nat×Nat×Ve×Vc)}{e:Ending}(h:O93 V R B base s own iv nsv Y e w2)(hn:Y≠.non):∃(v1 v2:Int)(o:Option Addr)(l k:Nat)(v4 c q:Int),e=.returned (.tuple #[.agg #[v1,v2],.agg #[.slice o l k,v4],.agg #[c,q]]):=by
 cases Y with
 |non=>exact absurd rfl hn
 |bad c p =>
  obtain⟨⟨v1,v2,o,l,k,v4,he⟩,_⟩:=h;exact⟨v1,v2,o,l,k,v4,c,p,he⟩
 |ok r =>
  obtain⟨into,root,nds,g'⟩:=r;obtain⟨dd,tv,T,b2,nv',L',own',x',he,_,_,_,_,_,hT,_⟩:=h;rcases hT with⟨rfl,_⟩|⟨g,rfl,_⟩
  exact⟨_,_,_,_,_,_,_,_,he⟩
  exact⟨_,_,_,_,_,_,_,_,he⟩
theorem Oas{w2:World}{z:Nat}{x y:Value}(h:FX z x y w2)(c q v1 v2 v3 v4:Value)(T0 T1:TypeId):FX z c q ((((w2.setCell z c).setCell ⟨z,1,none⟩ q).alloc (.cells #[v1,v2] T0)).alloc (.cells #[v3,v4] T1))/\FX w2 v1 v2 ((((w2.setCell z c).setCell ⟨z,1,none⟩ q).alloc (.cells #[v1,v2] T0)).alloc (.cells #[v3,v4] T1)) /\FX (w2.heap.size+1) v3 v4 ((((w2.setCell z c).setCell ⟨z,1,none⟩ q).alloc (.cells #[v1,v2] T0)).alloc (.cells #[v3,v4] T1)) /\(∀k,k<w2.heap.size->k≠z->((((w2.setCell z c).setCell ⟨z,1,none⟩ q).alloc (.cells #[v1,v2] T0)).alloc (.cells #[v3,v4] T1)).heap[k]?=w2.heap[k]?) /\((((w2.setCell z c).setCell ⟨z,1,none⟩ q).alloc (.cells #[v1,v2] T0)).alloc (.cells #[v3,v4] T1)).heap.size=w2.heap.size+1+1 /\(∀(F F':Nat->Prop)(w:World),St F F' w w2->w.heap.size<=z->St F F' w ((((w2.setCell z c).setCell ⟨z,1,none⟩ q).alloc (.cells #[v1,v2] T0)).alloc (.cells #[v3,v4] T1))):=by
 refine Z124 ?_;intro hF iD hs;have hb:∀k,k≠z->((w2.setCell z c).setCell ⟨z,1,none⟩ q).heap[k]?=w2.heap[k]?:=λ k hk=>by rw[U14 _ _ _ _ hk,U14 _ _ _ _ hk]
 obtain⟨W,hW⟩:=ExZ ((w2.setCell z c).setCell ⟨z,1,none⟩ q)
 rw[hW]at hF iD hs hb⊢;obtain⟨f1,g1,z1⟩:=bx2 W v1 v2 T0;obtain⟨W1,aK⟩:=ExZ (W.alloc (.cells #[v1,v2] T0))
 rw[aK]at f1 g1 z1⊢;obtain⟨f2,g2,z2⟩:=bx2 W1 v3 v4 T1;rw[iD]at f1 z1;rw[z1]at f2 z2;exact⟨(hF.gr g1).gr g2,f1.gr g2,f2,λ k hk hn=>((g1.trans g2).block Ya).trans (hb k hn),z2,λ F F' w g l=>((hs F F' w g l).gr g1).gr g2⟩
theorem GI.kept{w w':World}{base:Nat}{own:Nat->Nat}{iv nsv:Value}{its:List Pl.It}{ns:List Int}(h:GI w base own iv nsv its ns)(hb:∀k,iv.ownBlock=some k\/nsv.ownBlock=some k->w'.heap[k]?=w.heap[k]?):GI w' base own iv nsv its ns:=by
 obtain⟨⟨xi,hi,hx⟩,hn,h3,h4,h5⟩:=h;exact⟨⟨xi,O1 hi λ k e=>hb k (.inl e),hx⟩,O1 hn λ k e=>hb k (.inr e),h3,h4,h5⟩
theorem GI.lt{w:World}{base:Nat}{own:Nat->Nat}{iv nsv:Value}{its:List Pl.It}{ns:List Int}(h:GI w base own iv nsv its ns):∀k,iv.ownBlock=some k\/nsv.ownBlock=some k->base<=k/\k<w.heap.size:=λ k e=>by
 obtain⟨⟨xi,hi,_⟩,hn,_⟩:=h;rcases e with e|e
 exact hi.lt k e
 exact hn.lt k e
theorem Odp{w2:World}{z:Nat}{x y:Value}(h:FX z x y w2)(c q c0 c1 c2 c3 c4 c5 c6 c7 c8:Value)(T:TypeId):FX z c q (((w2.setCell z c).setCell ⟨z,1,none⟩ q).alloc (.cells #[c0,c1,c2,c3,c4,c5,c6,c7,c8] T)) /\(((w2.setCell z c).setCell ⟨z,1,none⟩ q).alloc (.cells #[c0,c1,c2,c3,c4,c5,c6,c7,c8] T)).heap[w2.heap.size]?=some (.cells #[c0,c1,c2,c3,c4,c5,c6,c7,c8] T (0,0)) /\(∀k,k<w2.heap.size->k≠z->(((w2.setCell z c).setCell ⟨z,1,none⟩ q).alloc (.cells #[c0,c1,c2,c3,c4,c5,c6,c7,c8] T)).heap[k]?=w2.heap[k]?) /\(((w2.setCell z c).setCell ⟨z,1,none⟩ q).alloc (.cells #[c0,c1,c2,c3,c4,c5,c6,c7,c8] T)).heap.size=w2.heap.size+1 /\(∀(F F':Nat->Prop)(w:World),St F F' w w2->w.heap.size<=z->St F F' w (((w2.setCell z c).setCell ⟨z,1,none⟩ q).alloc (.cells #[c0,c1,c2,c3,c4,c5,c6,c7,c8] T))):=by
 refine Z124 ?_;intro hF iD hs;have hb:∀k,k≠z->((w2.setCell z c).setCell ⟨z,1,none⟩ q).heap[k]?=w2.heap[k]?:=λ k hk=>by rw[U14 _ _ _ _ hk,U14 _ _ _ _ hk]
 obtain⟨W,hW⟩:=ExZ ((w2.setCell z c).setCell ⟨z,1,none⟩ q)
 rw[hW]at hF iD hs hb⊢;have g1:Gr W (W.alloc (.cells #[c0,c1,c2,c3,c4,c5,c6,c7,c8] T)):=(Gr.refl W).alloc _;have hn:=U1z W (.cells #[c0,c1,c2,c3,c4,c5,c6,c7,c8] T);rw[iD]at hn;exact⟨hF.gr g1,hn,λ k hk hn=>(g1.block Ya).trans (hb k hn),by simp[iD],λ F F' w g l=>(hs F F' w g l).gr g1⟩
theorem Olz{E:V19}{l:Pl.Bs}{n m:Nat}{g g2:Vc}(h:V2o E l n g=.ok (m,g2)):g.nds.length<=g2.nds.length:=by
 unfold V2o at h
 split at h;cases h
 cases h
 rename_i hw
 have h1:=(O44 hw).2
 split at h;cases h
 cases h
 split at h;cases h;exact h1
 split at h
 split at h;cases h
 simp only at h
 split at h;cases h;exact U1k h1 (by simp[V2s,Vj,V14])
 cases h
 cases h;exact h1
theorem Ooh:(prog.info? 53).map (λ i=>(i.zero,i.size,i.bytes))=some (some itZ,9,120):=Yc
structure V5z(w0 W:World)(base:Nat)(F:Nat->Prop)(iv nv:Value)(ni nn:Nat)(xi xn:List Value):Prop where
 st:St F (λ _=>False) w0 W
 i:W.ownsRow base 53 9 iv ni xi
 n:W.ownsRow base 3 1 nv nn xn
 fi:∀b,iv.ownBlock=some b->F b\/w0.heap.size<=b
 fn:∀b,nv.ownBlock=some b->F b\/w0.heap.size<=b
 ne:∀b,iv.ownBlock=some b->nv.ownBlock≠some b
section
variable {w0 W w1:World}{base:Nat}{F:Nat->Prop}{iv nv:Value}{ni nn:Nat}{xi xn:List Value}
theorem V5z.alloc(h:V5z w0 W base F iv nv ni nn xi xn)(o:Obj):V5z w0 (W.alloc o) base F iv nv ni nn xi xn:=⟨h.st.alloc o,h.i.alloc o,h.n.alloc o,h.fi,h.fn,h.ne⟩
theorem V5z.appI(h:V5z w0 W base F iv nv ni nn xi xn){g cap:Nat}{ys:List Value}(ho:w1.ownsRow base 53 9 (.slice g (ni+1) cap) (ni+1) ys)(hg:W.grownBy w1 iv.ownBlock)(cR:iv.ownBlock=some g\/g=W.heap.size):V5z w0 w1 base F (.slice g (ni+1) cap) nv (ni+1) nn ys xn:=by
 have er:F g\/w0.heap.size<=g:=by
  rcases cR with e|e
  exact h.fi g e
  exact .inr (by have:=h.st.size;omega)
 have hs:nv.ownBlock≠some g:=by
  rcases cR with e|e
  exact h.ne g e
  intro e2;have:=(h.n.lt g e2).2;omega
 exact⟨h.st.grown hg h.fi,ho,O1r h.n hg h.ne,λ b e=>by simp[Value.ownBlock]at e;subst e;exact er,h.fn,λ b e=>by simp[Value.ownBlock]at e;subst e;exact hs⟩
theorem V5z.appN(h:V5z w0 W base F iv nv ni nn xi xn){g cap:Nat}{ys:List Value}(ho:w1.ownsRow base 3 1 (.slice g (nn+1) cap) (nn+1) ys)(hg:W.grownBy w1 nv.ownBlock)(cR:nv.ownBlock=some g\/g=W.heap.size):V5z w0 w1 base F iv (.slice g (nn+1) cap) ni (nn+1) xi ys:=by
 have er:F g\/w0.heap.size<=g:=by
  rcases cR with e|e
  exact h.fn g e
  exact .inr (by have:=h.st.size;omega)
 have hs:iv.ownBlock≠some g:=by
  rcases cR with e|e
  exact λ e2=>h.ne g e2 e
  intro e2;have:=(h.i.lt g e2).2;omega
 exact⟨h.st.grown hg h.fn,O1r h.i hg (λ b e e2=>h.ne b e2 e),ho,h.fi,λ b e=>by simp[Value.ownBlock]at e;subst e;exact er,λ b e e2=>by simp[Value.ownBlock]at e2;subst e2;exact hs e⟩
end
structure IS(R I:Nat)(iv nsv c0 c1 c2 c3 c4 c5 c6 c7 c8:Value)(w:World):Prop where
 i:w.cell? ⟨R,7,none⟩=some iv
 n:w.cell? ⟨R,8,none⟩=some nsv
 b0:w.cell? I=some c0
 b1:w.cell? ⟨I,1,none⟩=some c1
 b2:w.cell? ⟨I,2,none⟩=some c2
 b3:w.cell? ⟨I,3,none⟩=some c3
 b4:w.cell? ⟨I,4,none⟩=some c4
 b5:w.cell? ⟨I,5,none⟩=some c5
 b6:w.cell? ⟨I,6,none⟩=some c6
 b7:w.cell? ⟨I,7,none⟩=some c7
 b8:w.cell? ⟨I,8,none⟩=some c8
def Vem(V:World)(R B base:Nat)(s:ByteArray)(nv:Value)(L:List NdR)(own:Nat->Nat)(x:GrX)(g:Vc)(its:List Pl.It)(ns:List Int)(W':World):Prop :=
 ∃kN eA,GM W' R B base s nv L own { x with iv:=kN,nsv:=eA } g/\GI W' base own kN eA its ns/\Up base V W'/\(∀k,k<V.heap.size->own k=0->(∀v,v=x.iv\/v=x.nsv->v.ownBlock≠some k)->W'.heap[k]?=V.heap[k]?)
theorem Ooi{V V2:World}{R B base:Nat}{s:ByteArray}{nv:Value}{L:List NdR}{own:Nat->Nat}{x:GrX}{g:Vc}{n:Nat}(h:GM V R B base s nv L own x g){Km its:List Pl.It}{SB ns:List Int}(hI:GI V base own x.iv x.nsv Km SB){kN eA:Value}{xi xn:List Value}(H:V5z V V2 base (λ k=>x.iv.ownBlock=some k\/x.nsv.ownBlock=some k) kN eA n n xi xn)(hn:n=its.length)(FC:V7k xi its)(Dx:xn=ns.map λ z=>Value.int .i64 z):Vem V R B base s nv L own x g its ns ((V2.setCell ⟨R,7,none⟩ kN).setCell ⟨R,8,none⟩ eA):=by
 have hF:∀k,own k≠0->¬(x.iv.ownBlock=some k\/x.nsv.ownBlock=some k):=λ k h0 e=>e.elim (λ e=>h0 (hI.oi k e)) (λ e=>h0 (hI.on k e))
 have pG:=h.v.R_lt;have iG:V2.heap[R]?=V.heap[R]?:=H.st.block R pG.2 (hF R (by rw[h.v.oR];omega));have xj:(V2.setCell ⟨R,7,none⟩ kN).heap[R]?=some (.cells #[nv,(0:Int),.string s,.map (some B),x.sec,x.dep,x.many,kN,x.nsv] 69 (0,0)):=by rw[block_setCell (iG.trans h.v.blk)];rfl
 have SC:((V2.setCell ⟨R,7,none⟩ kN).setCell ⟨R,8,none⟩ eA).heap[R]?=some (.cells #[nv,(0:Int),.string s,.map (some B),x.sec,x.dep,x.many,kN,eA] 69 (0,0)):=by rw[block_setCell xj];rfl
 have uk:∀k,k≠R->((V2.setCell ⟨R,7,none⟩ kN).setCell ⟨R,8,none⟩ eA).heap[k]?=V2.heap[k]?:=λ k hk=>by rw[U14 _ _ _ _ hk,U14 _ _ _ _ hk]
 have iD:((V2.setCell ⟨R,7,none⟩ kN).setCell ⟨R,8,none⟩ eA).heap.size=V2.heap.size:=by simp[World.setCell]
 have aL:=H.st.size;have Az:B≠R:=λ e=>by have h1:=h.v.oR;rw[<-e,h.v.oB]at h1;omega
 have bU:∀(v:Value),(∀b,v.ownBlock=some b->(x.iv.ownBlock=some b\/x.nsv.ownBlock=some b)\/V.heap.size<=b)->∀k,v.ownBlock=some k->own k=0/\k≠R:=λ v hv k e=>by
  have h0:own k=0:=by
   rcases hv k e with e|e
   exact e.elim (hI.oi k) (hI.on k)
   exact U1e λ h0=>by have:=(h.v.lt k h0).2;omega
  exact⟨h0,λ e=>by subst e;rw[h.v.oR]at h0;omega⟩
 obtain⟨D,h1,h2⟩:=h.v.map;refine⟨kN,eA,⟨h.v.turn rfl SC ⟨D,Oe h1 ((uk B Az).trans (H.st.block B h.v.B_lt.2 (hF B (by rw[h.v.oB];omega)))),h2⟩ (λ k hk hR _=>(uk k hR).trans (H.st.block k (h.v.lt k hk).2 (hF k hk))) Ya (λ i r hr hg => .inl hg),h.nd,h.sec,h.dep,h.many⟩,?_,?_,λ k hk h0 hv=>?_⟩;subst Dx hn;exact⟨⟨xi,O1 H.i λ k e=>uk k (bU kN H.fi k e).2,FC⟩,O1 H.n λ k e=>uk k (bU eA H.fn k e).2,λ k e=>(bU kN H.fi k e).1,λ k e=>(bU eA H.fn k e).1,H.ne⟩;exact ((H.st.up λ k e=>(hI.lt k e).1).setCell (p:=⟨R,7,none⟩) (.inl pG.1) _).setCell (p:=⟨R,8,none⟩) (.inl pG.1) _
 have B4:k≠R:=λ e=>by subst e;rw[h.v.oR]at h0;omega
 exact (uk k B4).trans (H.st.block k hk (λ e=>e.elim (hv x.iv (.inl rfl)) (hv x.nsv (.inr rfl))))
theorem O6k(g1:Vc)(L1 T:List NdR)(nds:Ve)(h1:L1.map (·.nd)=g1.nds)(h2:T.map (·.nd)=nds):(L1++T.map (O11 L1.length)).map (·.nd)=(V14 g1 nds).nds:=by
 have e:L1.length=g1.nds.length:=by rw[<-h1,U1n]
 rw[U2o,h1,e,<-h2];unfold V14;simp only[U47];rfl
theorem Oat(g1:Vc)(T:List NdR)(nds:Ve)(h2:T.map (·.nd)=nds):g1.srt++List.replicate T.length (0,0)=(V14 g1 nds).srt:=by
 rw[<-h2];show _=g1.srt++(T.map (·.nd)).map (λ _=>(0,0));congr 1;clear h2
 induction T with
 |nil=>rfl
 |cons r T ih=>rw[U17,List.replicate_succ,ih];rfl
def Oq3(w:World)(I:Nat)(cs:Array Value)(R B base:Nat)(s:ByteArray)(x1:GrX)(its:List Pl.It)(ns:List Int)(it:Pl.It)(e:Nat)(X:Va (Nat×Vc))(s9:Value)(W':World):Prop :=
 ∃(nI:Int)(vY:Value)(LE:List NdR)(ey:Nat->Nat)(gE gF:Vc),s9=.int .i64 nI/\GM W' R B base s vY LE ey x1 gE/\GI W' base ey x1.iv x1.nsv its ns/\W'.heap[I]?=some (.cells cs 53 (0,0))/\FX w (0:Int) (0:Int) W'/\Up base w W'/\ey I=0/\ey w.heap.size=0 /\
  X=.ok (e,gF)/\gF.nds=gE.nds/\gF.srt=gE.srt/\gF.sec=gE.sec/\gF.dep=gE.dep/\gF.many=gE.many/\gF.its=its++[it]/\gF.ns=ns++[nI]
theorem Ooj(Tb:Nat->UInt8×UInt8)(w0 w:World)(ei:Gr w0 w)(bW:RW Tb w0)(R B base:Nat)(iG:w0.heap.size<=base)(s:ByteArray)(hs:s.size<=20000000)(nv:Value)(L:List NdR)(own:Nat->Nat)(x:GrX)(g:Vc)(h:GM w R B base s nv L own x g)(lC:V78 g=true)(NI:GI w base own x.iv x.nsv g.its g.ns)(n:Nat)(hn:n<s.size)(X:Va (Nat×Vc))(hX:V2o ⟨Vu Tb,Vl⟩ (bs s) n g=X)(a8:X≠.non):Calls prog 37 #[.pointer (some ⟨R,0,none⟩),n] w (Oq2 w R B base s X):=by
 unfold V78 at lC;simp only[U1g,U1x]at lC;obtain⟨⟨⟨Kn,SD⟩,NJ⟩,UZ⟩:=lC;have hL:L.length<=20000001:=by rw[<-h.nd,U1n]at Kn;exact Kn
 have hm:x.many<=30000000:=by rw[h.many];omega
 unfold V2o at hX;obtain⟨Y,hY⟩:=ExZ (V2d ⟨Vu Tb,Vl⟩ (bs s) n g)
 rw[hY]at hX;have bH:Y≠.non:=λ e=>by rw[e]at hX;exact a8 hX.symm
 have NK:=U10 hY;have SE:=U10 (λ V (q:Gr w V)=>Oly Tb w0 V (ei.trans q) bW R B base iG s hs nv L own x g (h.gr q) hL hm NJ n hn Y hY bH);have HX:=U10 hX;have H:=U10 h;have ny:=U10 ei;have ex:=U10 bW;have kM:=U10 NI;have rB:=h.v.R_lt;clear h hX hY ei bW NI Kn SD NJ;go_enter func37,ntmps37;go_wp2_with fail;obtain⟨d9,gA,zA⟩:=bx2 w (0:Int) (0:Int) 29;obtain⟨W1,aK⟩:=ExZ (w.alloc (.cells #[(0:Int),(0:Int)] 29))
 rw[aK]at d9 gA zA⊢;clear aK;refine (SE.o W1 gA).mono ?_;rintro e w2 ao;obtain⟨v1,v2,tz,tl,tk,v4,ec,eq,rfl⟩:=ao.open bH;cases Y with
 |non=>exact absurd rfl bH
 |bad c p =>
  obtain⟨⟨_,_,_,_,_,_,he⟩,dF,ac,st2,eM,ko⟩:=ao;have h1:ec=(c:Int)/\eq=(p:Int):=by simp[fv,and_assoc]at he;omega
  obtain⟨rfl,rfl⟩:=h1;have dV:=d9.st st2 (λ e=>by have:=(H.o.v.lt _ e).2;omega);have FD:Up base w w2:=(gA.st).trans (st2.up λ k e=>(H.o.v.lt k e).1);obtain⟨p0,p1,pf,pl⟩:=id dV;go_wp2_with fail;obtain⟨gJ,_,_,_,AK,nL⟩:=Oas dV c p v1 v2 (.slice tz tl tk) v4 67 26;obtain⟨W5,jz⟩:=ExZ ((((w2.setCell w c).setCell ⟨w,1,none⟩ p).alloc (.cells #[v1,v2] 67)).alloc (.cells #[.slice tz tl tk,v4] 26))
  rw[jz]at gJ AK nL⊢;clear jz p0 p1 pf pl;have FE:=nL _ _ w FD (U12 _);obtain⟨p0,p1,pf,pl⟩:=id gJ;refine Z180 ?_;intro w6 g6;clear p0 p1 pf pl
  go_upto_region 3 with fail
  have ie:=gJ.gr g6;have lS:=ie.gr (Gr.refl w6).drew;obtain⟨p0,p1,pf,pl⟩:=id ie;refine Z148 ?_;refine Z12 ?_;go_wp2_with fail;obtain⟨q0,q1,qf,ql⟩:=lS;refine U11 (v:=.tuple #[(0:Int),fv c p]) (by simp[results,results37,go_sem,q0,q1,qf,ql]) rfl ?_;have ag:=HX.o
  try simp only at ag
  rw[<-ag];exact⟨rfl,dF,(FE.gr g6).drew⟩
 |ok r =>
  obtain⟨into,root,nds,g1⟩:=r;obtain⟨dd,tv,T,base2,ki,L1,aA,x1,he,EW,Dy,cA,st2,ko,AL,lX,ay,jR⟩:=ao;have h1:v1=(into:Int)/\v2=dd/\tv=.slice tz tl tk/\v4=(root:Int)/\ec=0/\eq=0:=by
   simp[f0,and_assoc]at he;obtain⟨a1,a2,a3,a4,a5,a6⟩:=he;exact⟨a1,a2,a3.symm,a4,a5,a6⟩
  obtain⟨rfl,rfl,rfl,rfl,rfl,rfl⟩:=h1;have dV:=d9.st st2 (λ e=>by have:=(H.o.v.lt _ e).2;omega);have FD:Up base w w2:=(gA.st).trans (st2.up λ k e=>(H.o.v.lt k e).1);have uu:=(kM.o.gr gA).st st2;have zi:=U10 EW;have zj:=U10 Dy;clear EW Dy;have SF:=st2.size;obtain⟨p0,p1,pf,pl⟩:=id dV;go_wp2_with fail;obtain⟨gJ,xY,oh,cn,AK,nL⟩:=Oas dV (0:Int) (0:Int) into v2 (.slice tz tl tk) root 67 26;obtain⟨W5,jz⟩:=ExZ ((((w2.setCell w (0:Int)).setCell ⟨w,1,none⟩ (0:Int)).alloc (.cells #[into,v2] 67)).alloc (.cells #[.slice tz tl tk,root] 26))
  rw[jz]at gJ xY oh cn AK nL⊢;clear jz p0 p1 pf pl;have FE:=nL _ _ w FD (U12 _);have oz:aA w.heap.size=0:=U1e λ h=>(ko _ h).elim (λ h=>by have:=(H.o.v.lt _ h).2;omega) (λ h=>by omega)
  have Dz:GM W5 R B base s ki L1 aA x1 g1:=⟨cA.v.kept (λ k hk=>cn k (cA.v.lt k hk).2 (λ e=>hk (by rw[e];exact oz))) Ya,cA.nd,cA.sec,cA.dep,cA.many⟩
  have DA:GI W5 base aA x.iv x.nsv g.its g.ns:=uu.kept λ k e=>by
   have:=(kM.o.lt k e).2;exact cn k Ya Ya
  have rD:Hid (∀k,TB T T.length k->base2<=k/\k<w2.heap.size):=λ k ⟨i,r,_,hr,hb⟩=>by
   rcases AL with⟨_,rfl⟩|⟨g0,_,hT⟩
   simp at hr
   exact hb.lt hT hr
  have DB:=AL.keptB (λ k h1 h2=>cn k h2 Ya) Ya;obtain⟨Z,hZ⟩:=ExZ (V41 ⟨Vu Tb,Vl⟩ (bs s) n)
  have ag:=HX.o
  try simp only at ag
  rw[hZ]at ag;have NL:Z≠.non:=λ e=>by rw[e]at ag;exact a8 ag.symm
  have ft:=U10 (λ V (q:Gr w0 V)=>Oog Tb s hs n _ rfl hn V (ex.o.gr q) Z hZ NL);have bV:=U10 ag;obtain⟨p0,p1,pf,pl⟩:=id gJ;refine Z206 ?_;intro w6 g6;have Ko:=U10 (gJ.gr g6);have SG:=U10 (xY.gr g6);have Kp:=U10 (oh.gr g6);have Kr:=U10 (FE.gr g6);have jp:=U10 (Dz.gr g6);have Ks:=U10 (DA.gr g6);have Kt:=U10 (DB.keptB (λ k _ h2=>g6.block h2) g6.size);have yG:=U10 ko;have NM:=U10 jR;have SH:Hid (∀k,aA k≠0->k<w2.heap.size):=λ k hk=>(cA.v.lt k hk).2
  have Ku:Gr w0 w6:=Kr.o.below ny.o (λ k e=>by omega);have U':=jp.o.v.cells.1.2.2.1;have VB:=jp.o.v.R_lt.2;have sQ:w2.heap.size+1+1<=w6.heap.size:=by have:=g6.size;omega
  have aL:w.heap.size+1<=w2.heap.size:=Ya;clear gJ xY oh cn nL FE Dz DA DB AL uu cA dV FD p0 p1 pf pl ag hZ g6 ko jR st2 he;go_wp2_with fail;refine (ft.o w6 Ku).mono ?_;clear ft;obtain⟨p0,p1,pf,pl⟩:=id Ko.o;cases Z with
  |non=>exact absurd rfl NL
  |bad c p =>
   rintro e w7 ⟨he,dF,g7⟩;subst he;have lI:=Ko.o.gr g7;clear p0 p1 pf pl;obtain⟨p0,p1,pf,pl⟩:=id lI;go_wp2_with fail;obtain⟨gJ,_,_,_,nL⟩:=Odp lI c p (.int .u8 0) (0:Int) (0:Int) (.slice none 0 0) (.slice none 0 0) (0:Int) (0:Int) (.slice none 0 0) (0:Int) 53;obtain⟨W8,mr⟩:=ExZ (((w7.setCell w c).setCell ⟨w,1,none⟩ p).alloc (.cells #[.int .u8 0,(0:Int),(0:Int),.slice none 0 0,.slice none 0 0,(0:Int),(0:Int),.slice none 0 0,(0:Int)] 53))
   rw[mr]at gJ nL⊢;have FF:=nL _ _ w (Kr.o.gr g7) (U12 _);clear mr p0 p1 pf pl;obtain⟨p0,p1,pf,pl⟩:=id gJ;refine Z180 ?_;intro w9 g9;clear p0 p1 pf pl
   go_upto_region 6 with fail
   have ie:=gJ.gr g9;have lS:=ie.gr (Gr.refl w9).drew;obtain⟨p0,p1,pf,pl⟩:=id ie;refine Z148 ?_;refine Z12 ?_;go_wp2_with fail;obtain⟨q0,q1,qf,ql⟩:=lS;refine U11 (v:=.tuple #[(0:Int),fv c p]) (by simp[results,results37,go_sem,q0,q1,qf,ql]) rfl ?_;have ag:=bV.o
   try simp only at ag
   rw[<-ag];exact⟨rfl,dF,(FF.gr g9).drew⟩
  |ok it =>
   rintro e w7 ⟨kv,sv,tv,he,hM,g7⟩;subst he;obtain⟨⟨ka,kn,kc,rfl⟩,⟨sa,sn,sc,rfl⟩,⟨ta,tn,tc,rfl⟩⟩:=hM.forms;have lI:=Ko.o.gr g7;clear p0 p1 pf pl;obtain⟨p0,p1,pf,pl⟩:=id lI;go_wp2_with fail;obtain⟨gJ,Kv,cn,AK,nL⟩:=Odp lI (0:Int) (0:Int) (.int .u8 it.kind) it.a it.b (.slice ka kn kc) (.slice sa sn sc) it.va it.vb (.slice ta tn tc) it.root 53;obtain⟨W8,mr⟩:=ExZ (((w7.setCell w (0:Int)).setCell ⟨w,1,none⟩ (0:Int)).alloc (.cells #[.int .u8 it.kind,it.a,it.b,.slice ka kn kc,.slice sa sn sc,it.va,it.vb,.slice ta tn tc,it.root] 53))
   rw[mr]at gJ Kv cn AK nL⊢;have FF:=nL _ _ w (Kr.o.gr g7) (U12 _);clear mr p0 p1 pf pl;obtain⟨p0,p1,pf,pl⟩:=id gJ;have fY:=g7.size;refine Z206 ?_;intro w9 g9;have ot:∀k,k<w7.heap.size->k≠w.heap.size->w9.heap[k]?=w7.heap[k]?:=λ k h1 h2=>(g9.block Ya).trans (cn k h1 h2)
   have VC:=g9.size;have Kw:=(g9.block Ya).trans Kv;have NN:=(SG.o.gr g7).of_block (ot _ Ya Ya) Ya;have rG:=(Kp.o.gr g7).of_block (ot _ Ya Ya) Ya;have Kx:∀k,w.heap.size<=k->k<W1.heap.size->aA k=0:=λ k h1 h2=>U1e λ h=>(yG.o _ h).elim (λ h=>by have:=(H.o.v.lt _ h).2;omega) (λ h=>by omega)
   have lL:GM w9 R B base s ki L1 aA x1 g1:=⟨(jp.o.v.gr g7).kept (λ k hk=>ot k (U13 (jp.o.v.lt k hk).2 g7.size) (λ e=>hk (Kx k Ya Ya))) Ya,jp.o.nd,jp.o.sec,jp.o.dep,jp.o.many⟩
   have DC:GI w9 base aA x1.iv x1.nsv g.its g.ns:=by
    rw[zi.o,zj.o];exact (Ks.o.gr g7).kept λ k e=>by
     have:=(kM.o.lt k e).2;exact ot k Ya Ya
   have DD:=(Kt.o.keptB (λ k _ h2=>g7.block h2) g7.size).keptB (λ k h1 h2=>ot k h2 Ya) Ya;have NO:ItM w9 w6.heap.size it (.slice ka kn kc) (.slice sa sn sc) (.slice ta tn tc):=⟨hM.k.of_block λ k e=>ot k (hM.k.lt k e).2 (by have:=(hM.k.lt k e).1;omega),hM.s.of_block λ k e=>ot k (hM.s.lt k e).2 (by have:=(hM.s.lt k e).1;omega),hM.n.imp id λ ⟨g0,LL,a,b,c⟩=>⟨g0,LL,a,b,c.keptB (λ k h1 h2=>ot k h2 Ya) Ya⟩⟩
   have Ky:=U10 (gJ.gr g9);have Kz:=U10 Kw;have SI:=U10 NN;have SJ:=U10 rG;have cq:=U10 lL;have lM:=U10 DC;have KA:=U10 DD;have KB:=U10 NO;have KC:=U10 (FF.gr g9);have NP:=U10 (show w.heap.size+1<=w7.heap.size by omega);obtain⟨⟨c0,c1,c2,c3,c4,c5,c6⟩,c7,c8,fz⟩:=lL.v.cells;obtain⟨⟨b0,b1,b2,b3,b4,b5,b6,b7,b8⟩,bf,bl⟩:=O50 Kw;have ag:=bV.o
   try simp only at ag
   have KD:=U10 Kx;have NH:=lL.v.R_lt;have F1:w7.heap.size<w9.heap.size:=bl;clear gJ Kv cn nL FF Kw NN rG lL DC DD NO hM ot p0 p1 pf pl g9 g7 lI Kx c0 c1 c2 c3 c5 c6 c7 c8 fz;have zk:g1.its=g.its:=(O44 NK.o).1.1;have Ae:g1.ns=g.ns:=(O44 NK.o).1.2
   go_upto_block 0 with fail
   go_cut [9] (λ s9 W'=>Oq3 w w7.heap.size #[.int .u8 it.kind,it.a,it.b,.slice ka kn kc,.slice sa sn sc,it.va,it.vb,.slice ta tn tc,it.root] R B base s x1 g.its g.ns it it.b X s9 W')
   case first =>
    have FG:aA w7.heap.size=0:=U1e λ h=>by have:=(jp.o.v.lt _ h).2;omega
    have FH:aA w.heap.size=0:=KD.o _ (U12 _) Ya;by_cases h0:it.kind=0
    ·have s0:((it.kind:Int)==0)=true:=by simp;omega
     rw[U18 h0]at ag;clear h0;go_wp2_with fail
     go_meet
     exact⟨-1,ki,L1,aA,g1,_,rfl,cq.o,lM.o,Kz.o,Ky.o,KC.o,FG,FH,ag.symm,rfl,rfl,rfl,rfl,rfl,by simp[zk],by simp[Ae]⟩
    have s0:((it.kind:Int)==0)=false:=Ye;rw[U1b h0]at ag;clear h0;by_cases h1:it.kind=1
    ·have s1:((it.kind:Int)==1)=true:=by simp;omega
     rw[U18 h1]at ag;clear h1;cases aZ:it.ws.getLast? with
     |none=>rw[aZ]at ag;exact absurd ag.symm a8
     |some kw =>
      obtain⟨wt,a,b⟩:=kw;rw[aZ]at ag;simp only at ag;by_cases cS:(V4x nds root&&V2v (V14 g1 nds) into&&Pl.room (V14 g1 nds).nds)=true
      ·rw[U18 cS]at ag;simp only[U1g]at cS;obtain⟨⟨dI,kL⟩,aB⟩:=cS;unfold V4x at dI;simp only[U1g,U1x,U2h]at dI;obtain⟨qR,ww⟩:=dI;unfold Pl.room at aB;rw[U1x,<-O6k g1 L1 T nds cq.o.nd lX,U1n,U1c,U1n]at aB;have rn:=U10 (Olt w9 R B base s ki L1 aA g1.srt x1 cq.o.v (.slice tz tl tk) root base2 T KA.o Ya NM.o Ya qR (λ i r hr=>by
        have hm:r.nd∈nds:=by rw[<-lX];exact List.mem_map_of_mem (U2g hr)
        have h1:=ww _ hm;exact⟨h1.1,h1.2⟩))
       obtain⟨p0,p1,pf,pl⟩:=id SJ.o;go_wp2_with fail;refine rn.o.mono ?_;rintro e ca ⟨he,ic,ac,iX,dP,sm⟩;obtain⟨nd,bT⟩:=ExZ (root+L1.length)
       rw[bT]at he;subst he;have NQ:w2.heap.size+1+1<=w6.heap.size:=sQ;have NR:w7.heap.size<w9.heap.size:=F1;have zm:∀k,aA k=0->(k<base2\/w2.heap.size<=k)->¬(FV aA k\/TB T T.length k):=λ k h0 h1 e=>e.elim (λ e=>e h0) (λ e=>by have:=rD.o k e;omega)
       have fg:∀k,aA k≠0->k<w2.heap.size:=λ k h=>U1e λ h2=>by
        have h3:=NM.o k;have h4:=SH.o k h;omega
       have DE:∀k,w2.heap.size<=k->aA k=0:=λ k h=>U1e λ h2=>by have:=fg k h2;omega
       have SK:W1.heap.size<=base2:=ay;have DF:=Ky.o.st dP (zm _ FH (.inl Ya));have DG:=SI.o.st dP (zm _ (DE _ (U12 _)) (.inr (U12 _)));have DH:=(dP.block w7.heap.size NR (zm _ FG (.inr Ya))).trans Kz.o;have DI:Up base w ca:=KC.o.trans (dP.up λ k e=>e.elim (λ e=>(cq.o.v.lt k e).1) (λ e=>by have:=rD.o k e;omega));have dj:∀k,k<w9.heap.size->aA k=0->(k<base2\/w2.heap.size<=k)->ac k=0:=λ k h1 h2 h3=>U1e λ h=>by
        rcases sm k h with e|e|e
        exact e h2;have:=rD.o k e;omega
        omega
       have wB:GI ca base ac x1.iv x1.nsv g.its g.ns:=by
        obtain⟨q1,q2,q3,q4,q5⟩:=lM.o;have az:∀k,x1.iv.ownBlock=some k\/x1.nsv.ownBlock=some k->k<base2:=λ k e=>by
         rw[zi.o,zj.o]at e;have:=(kM.o.lt k e).2;omega
        have hk:∀k,x1.iv.ownBlock=some k\/x1.nsv.ownBlock=some k->aA k=0:=λ k e=>e.elim (q3 k) (q4 k)
        have hh:=lM.o.kept (w':=ca) λ k e=>dP.block k (lM.o.lt k e).2 (zm k (hk k e) (.inl (az k e)))
        exact⟨hh.i,hh.n,λ k e=>dj k (lM.o.lt k (.inl e)).2 (q3 k e) (.inl (az k (.inl e))),λ k e=>dj k (lM.o.lt k (.inr e)).2 (q4 k e) (.inl (az k (.inr e))),q5⟩
       have ed:0<it.ws.length:=by
        cases hw:it.ws with
        |nil=>rw[hw]at aZ;cases aZ
        |cons=>simp
       obtain⟨gk,gs,ck,cs,sO,kT,SM,SO,KE,KF,Ao⟩:=O9o KB.o.k KB.o.s ed;simp only[U3v]at sO kT;obtain⟨rfl,rfl,rfl⟩:=sO;obtain⟨rfl,rfl,rfl⟩:=kT;obtain⟨la,eu⟩:∃la,it.ws.length=la+1:=⟨it.ws.length-1,Ya⟩
       have DJ:it.ws[la]?=some (wt,a,b):=by rw[U3m,eu]at aZ;exact aZ
       obtain⟨r1,r2,r3⟩:=Ao la wt a b DJ;have DK:∀o,ca.cell? ⟨gk,o,none⟩=w9.cell? ⟨gk,o,none⟩:=λ o=>((dP.use gk KE (zm _ (DE _ Ya) (.inr Ya))).1 o)
       have zn:∀o,ca.cell? ⟨gs,o,none⟩=w9.cell? ⟨gs,o,none⟩:=λ o=>((dP.use gs KF (zm _ (DE _ Ya) (.inr Ya))).1 o)
       obtain⟨_,_,_,eF⟩:=(show ∃g c,(Value.slice gk it.ws.length kc)=.slice (some ⟨g,0,none⟩) it.ws.length c/\it.ws.length<=maxLen from by
        obtain⟨g,c,e,h1,h2⟩:=KB.o.k.form ed;exact⟨g,c,e,Ya⟩)
       have KG:la<=9223372036854775806:=by unfold maxLen at eF;omega
       have cI:=Ofi ca gk gs la kc sc ⟨wt.toArray⟩ a b KG (U13 KE dP.size) (U13 KF dP.size) ((DK _).trans r1) ((zn _).trans r2) ((zn _).trans r3);rw[<-eu]at cI;have wC:=U10 cI;have DL:=U10 DH;have KH:=U10 DF;have KI:=U10 DG;have KJ:=U10 DI;have DM:=U10 wB;have jl:=U10 iX;have de:=dP.size;have KK:w7.heap.size<ca.heap.size:=Ya;have NS:=dj _ NR FG (.inr Ya);have NT:=dj _ Ya FH (.inl Ya);have VD:=dj w2.heap.size Ya (DE _ (U12 _)) (.inr (U12 _));clear DF DG DI wB cI iX dP sm dj DK zn r1 r2 r3 Ao zm fg DE p0 p1 pf pl b0 b1 b2 b3 b4 b5 b6 b7 b8 bf bl rn ed aZ DJ c4 SM SO KE KF eu ww DH;obtain⟨⟨b0,b1,b2,b3,b4,b5,b6,b7,b8⟩,bf,bl⟩:=O50 DL.o;go_wp2_with fail;refine wC.o.mono ?_;rintro e vJ ⟨rfl,rg⟩;obtain⟨dm,fQ,SP⟩:=bx2 vJ (.int .i64 a) b 38;obtain⟨wg,rh⟩:=ExZ (vJ.alloc (.cells #[a,b] 38))
       rw[rh]at dm fQ SP;have uE:=rg.trans fQ;unfold V2v at kL;rw[U1g]at kL;obtain⟨aX,eT⟩:=kL;unfold Pl.kind8 at aX;rw[U1g,U1x,<-O6k g1 L1 T nds cq.o.nd lX]at aX;obtain⟨_,cT⟩:=aX;obtain⟨L2,u'⟩:=ExZ (L1++T.map (O11 L1.length))
       rw[u']at cT jl;obtain⟨r,hr⟩:∃r,L2[into]?=some r:=by
        cases hr:L2[into]? with
        |some r=>exact⟨r,rfl⟩
        |none=>rw[U1m,hr]at cT;cases cT
       rw[U1m,hr]at cT;simp only[U29,U1g,U1x]at cT;obtain⟨⟨⟨_,ah⟩,aE⟩,kC⟩:=cT;have cx:Oh (g1.srt++List.replicate T.length (0,0)) into:=by
        unfold Oh;intro h2;unfold Vf at eT;rw[<-Oat g1 T nds lX,h2]at eT;cases eT
       have KL:L2.length<=30000000:=by rw[<-u',U1c,U1n];omega
       have nG:=U10 (Odi wg R B base s 0 ic L2 ac (g1.srt++List.replicate T.length (0,0)) x1 (jl.o.gr uE) KL into r hr cx ah aE kC ⟨wt.toArray⟩ a b nd);obtain⟨p0,p1,pf,pl⟩:=KI.o.gr uE;obtain⟨y0,y1,yf,yl⟩:=dm;have kt:=U10 uE;clear cx eT ah aE kC rg fQ uE b0 b1 b2 b3 b4 b5 b6 b7 b8 bf bl wC;go_wp2_with fail
       try rw[rh]
       refine nG.o.mono ?_;rintro e SQ ⟨he,yK,qP,qQ,Jw,FJ,FK,ST⟩;subst he;go_wp2_with fail
       go_meet
       have A2:∀k,k<wg.heap.size->ac k=0->yK k=0:=λ k h1 h2=>U1e λ h=>(ST k h).elim (λ h=>h h2) (λ h=>by omega)
       have dh:=kt.o.size;have DN:=(DM.o.gr kt.o).st FK;refine⟨(nd:Int),ic,L2.set into ⟨V12 r.nd (bs ⟨wt.toArray⟩) (a,b) nd,qP,qQ,Jw⟩,yK,V2s (V14 g1 nds) into wt (a,b) nd,_,rfl,⟨?_,?_,cq.o.sec,cq.o.dep,cq.o.many⟩,DN,(FK.block w7.heap.size Ya (λ e=>e NS)).trans ((kt.o.block KK).trans DL.o),(KH.o.gr kt.o).st FK (λ e=>e NT),(KJ.o.gr kt.o).trans (FK.up λ k e=>((jl.o.gr kt.o).lt k e).1),A2 _ Ya NS,A2 _ Ya NT,ag.symm,?_,rfl,rfl,rfl,rfl,by simp[V14,zk],by simp[V14,Ae,<-bT,show L1.length=g1.nds.length from by rw[<-cq.o.nd,U1n]]⟩;have:(V2s (V14 g1 nds) into wt (a,b) nd).srt=g1.srt++List.replicate T.length (0,0):=(Oat g1 T nds lX).symm;rw[this];exact FJ;rw[O9w L2 into r hr,show bs (⟨wt.toArray⟩:ByteArray)=wt by simp[bs],<-u',O6k g1 L1 T nds cq.o.nd lX];rfl
       rw[<-bT,show L1.length=g1.nds.length from by rw[<-cq.o.nd,U1n]]
      exact J79
    have s1:((it.kind:Int)==1)=false:=Ye;rw[U1b h1]at ag;clear h1;go_wp2_with fail
    go_meet
    exact⟨x1.sec,ki,L1,aA,g1,_,rfl,cq.o,lM.o,Kz.o,Ky.o,KC.o,FG,FH,ag.symm,rfl,rfl,rfl,rfl,rfl,by simp[zk],by simp[Ae,cq.o.sec]⟩
   case rest =>
    obtain⟨nI,vY,LE,ey,gE,gF,rfl,DO,DP,NU,NV,NW,SU,SV,A6,q1,q2,q3,q4,q5,q6,q7⟩:=hcut;have pk:=U10 DO;have xB:=U10 DP;have KM:=U10 NU;have NY:=U10 NV;have SW:=U10 NW;have SX:=U10 A6;obtain⟨V,hV⟩:∃V,V=wc:=⟨_,rfl⟩
    subst hV;clear DO DP NU NV NW A6 b0 b1 b2 b3 b4 b5 b6 b7 b8 bf c4;have SZ:=pk.o.v.R_lt
    go_upto_region 15 with fail
    obtain⟨⟨xi,hi,FC⟩,A3,NZ,lV,zo⟩:=xB.o;obtain⟨xn,Dx⟩:=ExZ ((g.ns.map λ z=>Value.int .i64 z))
    rw[Dx]at A3;have Pp:=U10 FC;have Pq:=U10 Dx;clear FC Dx;have dM:V5z V V.drew base (λ k=>x1.iv.ownBlock=some k\/x1.nsv.ownBlock=some k) x1.iv x1.nsv g.its.length g.its.length xi xn:=⟨⟨rfl,rfl,rfl,U12 _,λ _ _ _=>rfl,λ _ e=>e.elim⟩,hi,A3,λ k e => .inl (.inl e),λ k e => .inl (.inr e),zo⟩
    have bO:∀k,ey k≠0\/w.heap.size<=k->¬(x1.iv.ownBlock=some k\/x1.nsv.ownBlock=some k):=λ k h0 e=>by
     rcases h0 with h0|h0
     exact e.elim (λ e=>h0 (NZ k e)) (λ e=>h0 (lV k e))
     rw[zi.o,zj.o]at e;have:=(kM.o.lt k e).2;omega
    have A4:=pk.o.v.R_lt;have rN:Hid (∀V',St (λ k=>x1.iv.ownBlock=some k\/x1.nsv.ownBlock=some k) (λ _=>False) V V'->V'.cell? ⟨R,7,none⟩=some x1.iv/\V'.cell? ⟨R,8,none⟩=some x1.nsv/\(∀o,V'.frozen? ⟨R,o,none⟩=false)):=λ V' ji=>by
     have hu:=ji.use R A4.2 (bO R (.inl (by rw[pk.o.v.oR];omega)));obtain⟨_,c7,c8,fz⟩:=pk.o.v.cells;exact⟨(hu.1 7).trans c7,(hu.1 8).trans c8,λ o=>(hu.2 o).trans (fz o)⟩
    have dX:Hid (∀V',St (λ k=>x1.iv.ownBlock=some k\/x1.nsv.ownBlock=some k) (λ _=>False) V V'->IS R w7.heap.size x1.iv x1.nsv (.int .u8 it.kind) it.a it.b (.slice ka kn kc) (.slice sa sn sc) it.va it.vb (.slice ta tn tc) it.root V'):=λ V' ji=>by
     obtain⟨⟨b0,b1,b2,b3,b4,b5,b6,b7,b8⟩,_,bl⟩:=O50 KM.o;have hu:=ji.use w7.heap.size bl (bO w7.heap.size (.inr (by have:=NP.o;omega)));obtain⟨k7,k8,_⟩:=rN.o V' ji;exact⟨k7,k8,(hu.1 0).trans b0,(hu.1 1).trans b1,(hu.1 2).trans b2,(hu.1 3).trans b3,(hu.1 4).trans b4,(hu.1 5).trans b5,(hu.1 6).trans b6,(hu.1 7).trans b7,(hu.1 8).trans b8⟩
    obtain⟨iI,i1,i2,i3,i4⟩:=U3u Ooh;have uR:=U10 (And.intro i1 (And.intro i2 (And.intro i3 i4)));obtain⟨iU,u1,u2,u3,u4⟩:=U3u O6y;have cQ:=U10 (And.intro u1 (And.intro u2 (And.intro u3 u4)));have bA:base<=V.heap.size:=Ya;have S':Hid (∀k,x1.iv.ownBlock=some k->k<V.heap.size):=λ k e=>(xB.o.lt k (.inl e)).2
    clear i1 i2 i3 i4 u1 u2 u3 u4 hi A3 NZ lV zo
    go_cut [9] (λ s9 W'=>Vem V R B base s vY LE ey x1 gE (g.its++[it]) (g.ns++[nI]) W')
    case first =>
     have bh:=dX.o V.drew dM.st;refine Reg.begin' (W:=λ i=>i != 15&&i != 18&&i != 21) (S:=IS R w7.heap.size x1.iv x1.nsv (.int .u8 it.kind) it.a it.b (.slice ka kn kc) (.slice sa sn sc) it.va it.vb (.slice ta tn tc) it.root) Yc ?_;obtain⟨V0,hV⟩:=ExZ (V.drew)
     have T7:=U10 (show V0.heap.size=V.heap.size by rw[<-hV];rfl);rw[hV]at bh dM⊢;clear hV;have DQ:Hid (∀k,V0.heap.size<=k->x1.iv.ownBlock=some k->False):=λ k h1 h2=>by
      have:=S'.o k h2;have:=T7.o;omega
     have KN:V0.heap.size<=V0.heap.size:=U12 _;have gH:=U10 dM;clear dM;refine Z31 ?_;refine Z40 ?_;refine Reg.tl 5 bh ?_ (hy:=by intro w ab;obtain⟨Bg,Bh,FL,FM,FN,N',OA,OB,OC,OD,DR⟩:=ab;go_simp;try with_reducible rfl);refine Reg.tl 6 bh ?_ (hy:=by intro w ab;obtain⟨Bg,Bh,FL,FM,FN,N',OA,OB,OC,OD,DR⟩:=ab;go_simp;try with_reducible rfl);refine Reg.ty 9 ?_;refine Z65 ?_;refine Reg.tl 12 bh ?_ (hy:=by intro w ab;obtain⟨Bg,Bh,FL,FM,FN,N',OA,OB,OC,OD,DR⟩:=ab;go_simp;try with_reducible rfl);refine Reg.ty 13 ?_;refine Reg.all (rs:=[7,14]) Yc Yb ?_;refine Z14 ?_;intro j hj;rcases hj with rfl|rfl
     ·skip;refine Reg.one (i:=7) rfl Yh ?_;go_simp;have kW:=gH.o.alloc (.cells #[.int .u8 it.kind,it.a,it.b,.slice ka kn kc,.slice sa sn sc,it.va,it.vb,.slice ta tn tc,it.root] 53);have kX:=U1z V0 (.cells #[.int .u8 it.kind,it.a,it.b,.slice ka kn kc,.slice sa sn sc,it.va,it.vb,.slice ta tn tc,it.root] 53);have kZ:(V0.alloc (.cells #[.int .u8 it.kind,it.a,it.b,.slice ka kn kc,.slice sa sn sc,it.va,it.vb,.slice ta tn tc,it.root] 53)).heap.size=V0.heap.size+1:=by simp
      have kY:Gr V0 (V0.alloc (.cells #[.int .u8 it.kind,it.a,it.b,.slice ka kn kc,.slice sa sn sc,it.va,it.vb,.slice ta tn tc,it.root] 53)):=(Gr.refl _).alloc _;obtain⟨V1,hV⟩:=ExZ (V0.alloc (.cells #[.int .u8 it.kind,it.a,it.b,.slice ka kn kc,.slice sa sn sc,it.va,it.vb,.slice ta tn tc,it.root] 53))
      rw[hV]at kW kX kY kZ⊢;clear hV;refine Z210 ?_;intro aN x8 B7 Gi;clear kW kX kY kZ;have DS:=U1k KN B7.o.size;have cF:=dX.o V1 aN.o.st
      first|refine (And.intro (cF) ?_:_/\Reg.anyW _ _ _ _ _ _ _ _ _ _)|refine (And.intro (λ _=>cF) ?_:_/\Reg.anyW _ _ _ _ _ _ _ _ _ _)|refine (And.intro (λ _ _=>cF) ?_:_/\Reg.anyW _ _ _ _ _ _ _ _ _ _)|skip
      refine Z2 ?_;refine Reg.all (rs:=[8,14]) Yc Yb ?_;refine Z14 ?_;intro j hj;rcases hj with rfl|rfl
      ·skip;refine Reg.one (i:=8) rfl Yh ?_;refine U2z _ (.tmp 68) (.tmp 70) 48 Yh base 53 iI _ 9 120 underlying48 uR.o.1 uR.o.2.1 uR.o.2.2.1 uR.o.2.2.2 Yh Yd x1.iv g.its.length xi Yh aN.o.i _ 1 1 [.int .u8 it.kind,.int .i64 it.a,.int .i64 it.b,.slice ka kn kc,.slice sa sn sc,.int .i64 it.va,.int .i64 it.vb,.slice ta tn tc,.int .i64 it.root] Yh Yh (U2f x8.o) Yj Yd Yl Ya (U1k bA aN.o.st.size) _ rfl ?_;intro gI sL V2 ho hg ha hz;have aP:=U10 (aN.o.appI ho hg ha);have Ef:=U1k DS hg.size;skip;clear ho hg ha hz;have bi:=dX.o V2 aP.o.st;refine⟨λ _ _=>bi,?_⟩;refine Reg.pt ?_;refine Reg.on 14 ?_;go_simp;have kW:=aP.o.alloc (.cells #[.int .i64 (nI)] 3);have kX:=U1z V2 (.cells #[.int .i64 (nI)] 3);have kZ:(V2.alloc (.cells #[.int .i64 (nI)] 3)).heap.size=V2.heap.size+1:=by simp
       have kY:Gr V2 (V2.alloc (.cells #[.int .i64 (nI)] 3)):=(Gr.refl _).alloc _;obtain⟨V3,hV⟩:=ExZ (V2.alloc (.cells #[.int .i64 (nI)] 3))
       rw[hV]at kW kX kY kZ⊢;clear hV;refine Z210 ?_;intro aW oD T8 VG;clear kW kX kY kZ;have Ee:=U1k Ef T8.o.size;have aC:=dX.o V3 aW.o.st
       first|refine (And.intro (aC) ?_:_/\Reg.anyW _ _ _ _ _ _ _ _ _ _)|refine (And.intro (λ _=>aC) ?_:_/\Reg.anyW _ _ _ _ _ _ _ _ _ _)|refine (And.intro (λ _ _=>aC) ?_:_/\Reg.anyW _ _ _ _ _ _ _ _ _ _)|skip
       refine Z2 ?_;exact J113
      skip;refine Reg.one (i:=14) rfl Yh ?_;go_simp;have kW:=aN.o.alloc (.cells #[.int .i64 (nI)] 3);have kX:=U1z V1 (.cells #[.int .i64 (nI)] 3);have kZ:(V1.alloc (.cells #[.int .i64 (nI)] 3)).heap.size=V1.heap.size+1:=Yb
      have kY:Gr V1 (V1.alloc (.cells #[.int .i64 (nI)] 3)):=(Gr.refl _).alloc _;obtain⟨V2,hV⟩:=ExZ (V1.alloc (.cells #[.int .i64 (nI)] 3))
      rw[hV]at kW kX kY kZ⊢;clear hV;refine Z210 ?_;intro aP oD DT T9;clear kW kX kY kZ;have Ef:=U1k DS DT.o.size;have bi:=dX.o V2 aP.o.st
      first|refine (And.intro (bi) ?_:_/\Reg.anyW _ _ _ _ _ _ _ _ _ _)|refine (And.intro (λ _=>bi) ?_:_/\Reg.anyW _ _ _ _ _ _ _ _ _ _)|refine (And.intro (λ _ _=>bi) ?_:_/\Reg.anyW _ _ _ _ _ _ _ _ _ _)|skip
      refine Z2 ?_;refine Reg.all (rs:=[8]) Yc Yb ?_;intro j hj;obtain rfl:=U22.1 hj;clear hj;have KO:=U10 ((DT.o.block (U1a.1 x8.o).1).trans x8.o);clear x8;have x8:=KO;refine Z86 ?_;intro gI sL V3 ho hg ha hz aW Ee;have Br:=U10 ((hg.block _ (U1a.1 oD.o).1 (λ e=>DQ.o _ DS e.symm)).trans oD.o);exact J207
     skip;refine Reg.one (i:=14) rfl Yh ?_;go_simp;have kW:=gH.o.alloc (.cells #[.int .i64 (nI)] 3);have kX:=U1z V0 (.cells #[.int .i64 (nI)] 3);have kZ:(V0.alloc (.cells #[.int .i64 (nI)] 3)).heap.size=V0.heap.size+1:=Yb
     have kY:Gr V0 (V0.alloc (.cells #[.int .i64 (nI)] 3)):=(Gr.refl _).alloc _;obtain⟨V1,hV⟩:=ExZ (V0.alloc (.cells #[.int .i64 (nI)] 3))
     rw[hV]at kW kX kY kZ⊢;clear hV;refine Z210 ?_;intro aN oD B7 Gi;clear kW kX kY kZ;have DS:=U1k KN B7.o.size;have cF:=dX.o V1 aN.o.st
     first|refine (And.intro (cF) ?_:_/\Reg.anyW _ _ _ _ _ _ _ _ _ _)|refine (And.intro (λ _=>cF) ?_:_/\Reg.anyW _ _ _ _ _ _ _ _ _ _)|refine (And.intro (λ _ _=>cF) ?_:_/\Reg.anyW _ _ _ _ _ _ _ _ _ _)|skip
     refine Z2 ?_;refine Reg.on 7 ?_;go_simp;have kW:=aN.o.alloc (.cells #[.int .u8 it.kind,it.a,it.b,.slice ka kn kc,.slice sa sn sc,it.va,it.vb,.slice ta tn tc,it.root] 53);have kX:=U1z V1 (.cells #[.int .u8 it.kind,it.a,it.b,.slice ka kn kc,.slice sa sn sc,it.va,it.vb,.slice ta tn tc,it.root] 53);have kZ:(V1.alloc (.cells #[.int .u8 it.kind,it.a,it.b,.slice ka kn kc,.slice sa sn sc,it.va,it.vb,.slice ta tn tc,it.root] 53)).heap.size=V1.heap.size+1:=Yb;have kY:Gr V1 (V1.alloc (.cells #[.int .u8 it.kind,it.a,it.b,.slice ka kn kc,.slice sa sn sc,it.va,it.vb,.slice ta tn tc,it.root] 53)):=(Gr.refl _).alloc _;obtain⟨V2,hV⟩:=ExZ (V1.alloc (.cells #[.int .u8 it.kind,it.a,it.b,.slice ka kn kc,.slice sa sn sc,it.va,it.vb,.slice ta tn tc,it.root] 53))
     rw[hV]at kW kX kY kZ⊢;clear hV;refine Z210 ?_;intro aP x8 DT T9;clear kW kX kY kZ;have Ef:=U1k DS DT.o.size;have bi:=dX.o V2 aP.o.st
     first|refine (And.intro (bi) ?_:_/\Reg.anyW _ _ _ _ _ _ _ _ _ _)|refine (And.intro (λ _=>bi) ?_:_/\Reg.anyW _ _ _ _ _ _ _ _ _ _)|refine (And.intro (λ _ _=>bi) ?_:_/\Reg.anyW _ _ _ _ _ _ _ _ _ _)|skip
     refine Z2 ?_;refine Reg.all (rs:=[8]) Yc Yb ?_;intro j hj;obtain rfl:=U22.1 hj;clear hj;have DU:=U10 ((DT.o.block (U1a.1 oD.o).1).trans oD.o);refine Z86 ?_;intro gI sL V3 ho hg ha hz aW Ee;have Br:=U10 ((hg.block _ (U1a.1 DU.o).1 (λ e=>DQ.o _ KN e.symm)).trans DU.o);exact J207
    case rest =>
     obtain⟨kN,eA,ro,KP,OE,OF⟩:=hcut;have DV:∀k,w.heap.size<=k->∀v,v=x1.iv\/v=x1.nsv->v.ownBlock≠some k:=λ k hk v hv e=>bO k (.inr hk) (by
      rcases hv with rfl|rfl
      exact .inl e
      exact .inr e)
     have IQ:=(OF w7.heap.size (U1a.1 KM.o).1 SU (DV _ (by have:=NP.o;omega))).trans KM.o;have wX:=NY.o.of_block (OF w.heap.size NY.o.2.2.2 SV (DV _ (U12 _))) OE.size;obtain⟨⟨b0,b1,b2,b3,b4,b5,b6,b7,b8⟩,bf,bl⟩:=O50 IQ
     go_upto_region 16 with fail
     have zp:FX w (0:Int) (0:Int) wc.drew/\wc.drew.cell? ⟨w7,2,none⟩=some (.int .i64 it.b):=⟨wX.gr (Gr.refl wc).drew,b2⟩
     obtain⟨p0,p1,pf,pl⟩:=id wX;refine Reg.begin' (W:=λ i=>i != 5) (S:=λ W=>FX w (0:Int) (0:Int) W/\W.cell? ⟨w7,2,none⟩=some (.int .i64 it.b)) Yc ?_;refine Z55 ?_;refine Reg.tl 2 zp ?_ (hy:=by intro w ab;obtain⟨⟨Bg,Bh,FL,FM⟩,FN⟩:=ab;go_simp;try with_reducible rfl);refine Reg.tl 3 zp ?_ (hy:=by intro w ab;obtain⟨⟨Bg,Bh,FL,FM⟩,FN⟩:=ab;go_simp;try with_reducible rfl);refine Reg.ty 4 ?_;refine Reg.on 5 ?_;go_simp;rw[O5 wX.1,O5 wX.2.1];refine Z12 ?_;go_wp2_with fail;obtain⟨KQ,KT,KU,KV⟩:=zp.1;refine U11 (v:=.tuple #[it.b,f0]) (by simp[results,results37,go_sem,KQ,KT,KU,KV]) rfl ?_;rw[SX.o];exact⟨vY,LE,ey,{ x1 with iv:=kN,nsv:=eA },rfl,⟨by rw[q2];exact ro.v.drew,by rw[q1];exact ro.nd,by rw[q3];exact ro.sec,by rw[q4];exact ro.dep,by rw[q5];exact ro.many⟩,by rw[q6,q7];exact KP.gr (Gr.refl wc).drew,(SW.o.trans OE).drew⟩
theorem O9z{w:World}{base n:Nat}{v:Value}{xs:List Value}(h:V2f w base 9 1 v n xs)(W:World):Calls prog 21 #[v] W λ e w'=>e=.returned (O7 v)/\W=w':=by
 rcases Ou h with⟨rfl,_⟩|⟨g,cap,rfl,h1,h2⟩
 exact O8t W
 exact O46 g n cap h1 h2 W
theorem O95{w:World}{base n:Nat}{v:Value}{xs:List Value}(h:V2f w base 38 2 v n xs)(W:World):Calls prog 22 #[v] W λ e w'=>e=.returned (O7 v)/\W=w':=by
 rcases Ou h with⟨rfl,_⟩|⟨g,cap,rfl,h1,h2⟩
 exact O7f W
 exact O5k g n cap h1 h2 W
theorem GrV.start(w:World)(base:Nat)(s:ByteArray)(hb:base<=w.heap.size):GrV ((w.alloc (.map #[] 0)).alloc (.cells #[Vp,(0:Int),.string s,.map (some w.heap.size),(0:Int),(0:Int),(0:Int),Vp,Vp] 69)) (w.heap.size+1) w.heap.size base s 0 Vp [] (λ k=>if k=w.heap.size+1 then 1 else if k=w.heap.size then 2 else 0) [] ⟨0,0,0,Vp,Vp⟩:=by
 refine⟨?_,Yb,?_,Or _ _ _ _,O6x _ _,?_,λ i r hr=>by simp at hr,?_,rfl⟩;have:=U1z (w.alloc (.map #[] 0)) (.cells #[Vp,(0:Int),.string s,.map (some w.heap.size),(0:Int),(0:Int),(0:Int),Vp,Vp] 69);exact J4;rw[U1b Ya,U18 rfl];refine⟨.map [],?_,⟨[],rfl⟩,λ i=>rfl⟩;have h1:(w.alloc (.map #[] 0)).ownsMap prog 3 sortR w.heap.size 0 (.map []):=World.ownsMap_made _ _ _ _;exact Oe h1 (((Gr.refl _).alloc _).block Yb)
 exact J154
theorem V6d.treeG{w7 wr wF:World}{R B base g cap:Nat}{s:ByteArray}{root:Int}{L:List NdR}{own:Nat->Nat}{so:List (Nat×Nat)}{x:GrX}(h:V6d w7 R base g cap L L.length wr)(hr:GrV w7 R B base s root (.slice g L.length cap) L own so x)(hb:∀k,own k≠0->own k≠1->wF.heap[k]?=wr.heap[k]?)(hz:wr.heap.size<=wF.heap.size):V2q wF base g (L.map O1d):=by
 have dI:own g=3:=hr.oN g rfl;have aZ:=hr.lt g Ya;have e:(L.take L.length).map O1d++L.drop L.length=L.map O1d:=Yb;have h1:=h.1;rw[e]at h1;refine⟨⟨aZ.1,U13 aZ.2 (U1k h.2.2.1 hz)⟩,λ i r hi j v hv=>?_,λ i r hi=>?_,own,dI,λ i r hi=>?_⟩;exact J75
 ·rw[U1m]at hi;cases hx:L[i]? with
  |none=>rw[hx]at hi;cases hi
  |some x =>
  rw[hx]at hi;cases hi;have hR:=hr.rows i x hx;have hb:∀k t,own k=t->4<=t->wF.heap[k]?=w7.heap[k]?:=λ k t e h4=>(hb k Ya Ya).trans (h.2.1 k (hr.lt k Ya).2 (λ e2=>by subst e2;omega))
  exact⟨O3o (hR.k.of_block λ k e=>hb k _ (hR.tk k e) Ya),O3o (hR.s.of_block λ k e=>hb k _ (hR.ts k e) Ya),O3o (hR.u.of_block λ k e=>hb k _ (hR.tu k e) Ya)⟩
 exact J139
def Ome(w:World)(base R:Nat)(its:List Pl.It)(ns:List Int):Prop :=
 ∃(iv nsv:Value)(xs:List Value),w.cell? ⟨R,7,none⟩=some iv/\w.cell? ⟨R,8,none⟩=some nsv/\w.ownsRow base 53 9 iv its.length xs/\V7k xs its/\w.ownsRow base 3 1 nsv its.length (ns.map λ z=>Value.int .i64 z)
def Opk(w:World)(X:Va Vc)(e:Ending)(w':World):Prop:=match X with
 |.non=>True
 |.bad c p=>e=.returned (.tuple #[.pointer none,fv c p])/\c≠0/\Gr w w'
 |.ok g=>∃(R gn:Nat)(L:List NdR),e=.returned (.tuple #[.pointer (some ⟨R,0,none⟩),f0])/\R<w'.heap.size/\w.heap.size<=R/\w'.cell? R=some (.slice gn L.length L.length)/\w'.cell? ⟨R,1,none⟩=some (.int .i64 0)/\L.map (·.nd)=g.nds/\V2q w' w.heap.size gn L/\Gr w w'/\Ome w' (w.heap.size+1) R g.its g.ns
def Opl(E:V19)(s:ByteArray)(w:World)(R B:Nat)(X:Va Vc)(k:Nat)(v:Value)(wr:World):Prop :=
 ∃(m:Nat)(g:Vc)(nv:Value)(L:List NdR)(own:Nat->Nat)(x:GrX),v=.int .i64 m/\Pl.grownF E (bs s) k m g=X/\GM wr R B (w.heap.size+1) s nv L own x g/\GI wr (w.heap.size+1) own x.iv x.nsv g.its g.ns/\FX w (0:Int) (0:Int) wr/\Gr w wr/\0<g.nds.length
theorem Odq(Tb:Nat->UInt8×UInt8)(w:World)(bW:RW Tb w)(s:ByteArray)(hs:s.size<=20000000)(ba:Option Addr)(bn bc:Nat)(dE:∀W,Gr w W->(convert 22 9 (.slice ba bn bc)).run prog W=.ok (.string s) W)(X:Va Vc)(hX:V1f ⟨Vu Tb,Vl⟩ (bs s)=X)(a8:X≠.non):Calls prog 17 #[.slice ba bn bc] w (Opk w X):=by
 have HX:=U10 hX;have ex:=U10 bW;have mS:=U10 a8;have R5 := @run_makeMap prog;obtain⟨kb,g0,z0⟩:=bx2 w (0:Int) (0:Int) 29;obtain⟨W0,aI⟩:=ExZ (w.alloc (.cells #[(0:Int),(0:Int)] 29))
 rw[aI]at kb g0 z0;have KX:=dE W0 g0;have bL:=GrV.start W0 (w.heap.size+1) s Ya;have AM:=U10 aI;clear hX bW a8;go_enter func17,ntmps17
 go_upto_region 1 with fail
 try rw[show w.alloc (.cells #[(0:Int),(0:Int)] 29)=W0 from AM.o]
 clear aI;go_wp2_with fail;rw[z0]at bL;obtain⟨W1,aK⟩:=ExZ ((W0.alloc (.map #[] 0)).alloc (.cells #[Vp,(0:Int),.string s,.map (some (w.heap.size+1)),(0:Int),(0:Int),(0:Int),Vp,Vp] 69))
 have g1:Gr W0 W1:=by rw[<-aK];exact ((Gr.refl W0).alloc _).alloc _
 have z1:W1.heap.size=w.heap.size+1+1+1:=by rw[<-aK];simp[z0]
 rw[aK]at bL⊢;clear aK KX;refine (O74 W1 (w.heap.size+1+1) (w.heap.size+1) (w.heap.size+1) s 0 Vp [] _ [] _ bL Yb Yb 8 (1,0)).mono ?_;rintro e w1 ⟨he,ki,aA,gY,ix,mp⟩;subst he;obtain⟨⟨c0,c1,c2,c3,c4,c5,c6⟩,c7,c8,fz⟩:=gY.cells;have fL:=gY.R_lt.2;have Ta:=ix.size;have OG:FX w (0:Int) (0:Int) w1:=(kb.gr g1).st ix (λ e=>by
  replace e:(if w.heap.size=w.heap.size+1+1 then (1:Nat) else if w.heap.size=w.heap.size+1 then 2 else 0)≠0:=e
  rw[U1b Ya,U1b Ya]at e;exact e rfl)
 have cx:Gr w w1:=ix.below (g0.trans g1) (λ k e=>by
  replace e:(if k=w.heap.size+1+1 then (1:Nat) else if k=w.heap.size+1 then 2 else 0)≠0:=e
  by_cases h1:k=w.heap.size+1+1;omega
  rw[U1b h1]at e;by_cases h2:k=w.heap.size+1;omega
  rw[U1b h2]at e;exact absurd rfl e)
 have iX:=gY.setSec 0 1 0 (U12 _);have OH:((w1.setCell ⟨w+1+1,4,none⟩ (.int .i64 ((0:Nat):Int))).setCell ⟨w+1+1,5,none⟩ (.int .i64 ((1:Nat):Int))).cell? ⟨w+1+1,6,none⟩=some (.int .i64 ((0:Nat):Int)):=by
  rw[U1p _ _ _ _ Yb,U1p _ _ _ _ Yb];exact c6
 rw[O5 OH]at iX;have KY:St (FV aA) (FV aA) w1 ((w1.setCell ⟨w+1+1,4,none⟩ (.int .i64 ((0:Nat):Int))).setCell ⟨w+1+1,5,none⟩ (.int .i64 ((1:Nat):Int))):=by
  have dM:FV aA (w.heap.size+1+1):=by unfold FV;rw[gY.oR];omega
  exact ((St.refl (FV aA) w1).setCell (p:=⟨w+1+1,4,none⟩) (.inl dM) _).setCell (p:=⟨w+1+1,5,none⟩) (.inl dM) _
 have o0:aA w.heap.size=0:=U1e λ h=>by have:=(gY.lt _ h).1;omega
 have dV:=OG.st KY (λ e=>e o0);have bC:Gr w ((w1.setCell ⟨w+1+1,4,none⟩ (.int .i64 ((0:Nat):Int))).setCell ⟨w+1+1,5,none⟩ (.int .i64 ((1:Nat):Int))):=KY.below cx (λ k e=>by have:=(gY.lt k e).1;omega);have Fc:=U10 c1;go_wp2_with fail;rw[O5 Fc.o];obtain⟨W2,dQ⟩:=ExZ ((w1.setCell ⟨w+1+1,4,none⟩ (0:Int)).setCell ⟨w+1+1,5,none⟩ (1:Int))
 have FJ:GrV W2 (w.heap.size+1+1) (w.heap.size+1) (w.heap.size+1) s 0 ki [Of 8] aA [(1,0)] ⟨0,1,0,Vp,Vp⟩:=by rw[<-dQ];exact iX
 have d5:FX w (0:Int) (0:Int) W2:=by rw[<-dQ];exact dV
 have d7:Gr w W2:=by rw[<-dQ];exact bC
 rw[dQ];have KZ:=U10 FJ;have Fi:=U10 d5;have Eh:=U10 d7;clear dQ iX FJ dV d5 bC d7 KY OH OG cx c0 c1 c2 c3 c4 c5 c6 c7 c8 fz gY ix mp bL g1 kb g0
 go_loopg [5] ((bs s).length+1) (λ k v wr=>Opl ⟨Vu Tb,Vl⟩ s w (w.heap.size+1+1) (w.heap.size+1) X k v wr)
 case atStart =>
  exact⟨0,V3n,ki,[Of 8],aA,⟨0,1,0,Vp,Vp⟩,rfl,HX.o,⟨KZ.o,rfl,rfl,rfl,rfl⟩,⟨⟨[],Or _ _ _ _,rfl⟩,Or _ _ _ _,λ k e=>by simp[Value.ownBlock]at e,λ k e=>by simp[Value.ownBlock]at e,λ k e=>by simp[Value.ownBlock]at e⟩,Fi.o,Eh.o,Yd⟩
 case round =>
  obtain⟨m,g,nv,L,own,x,rfl,er,cA,uo,kK,cS,eQ⟩:=hrel;obtain⟨gk,rfl⟩:∃f,gk=f+1:=by
   cases gk with
   |zero=>exact absurd er.symm mS.o
   |succ f=>exact⟨f,rfl⟩
  rw[Pl.grownF,O0]at er;obtain⟨⟨c0,c1,c2,c3,c4,c5,c6⟩,c7,c8,fz⟩:=cA.v.cells;have hR:=cA.v.R_lt.2;have bG:=U10 cA;have kM:=U10 uo;have e9:=U10 kK;have oT:=U10 cS;by_cases K':m<s.size
  ·rw[U18 K']at er;have d1:decide ((m:Int)<(s.size:Int))=true:=by simp;omega
   have d2:decide (m<s.size)=true:=Ye
   cases lC:V78 g with
   |false=>rw[lC,U1b Yb]at er;exact absurd er.symm mS.o
   |true =>
    rw[lC,U18 rfl]at er;obtain⟨Y,hY⟩:=ExZ (V2o ⟨Vu Tb,Vl⟩ (bs s) m g)
    rw[hY]at er;have bH:Y≠.non:=λ e=>by rw[e]at er;exact mS.o er.symm
    have DW:=U10 (Ooj Tb w wr cS ex.o (w.heap.size+1+1) (w.heap.size+1) (w.heap.size+1) Ya s hs nv L own x g cA lC uo m K' Y hY bH);have Av:=U10 er;have HY:=U10 hY;clear er cA uo kK cS c0 c1 c3 c4 c5 c6 c7 c8 fz hY lC;go_wp2_with fail;refine DW.o.mono ?_;cases Y with
    |non=>exact absurd rfl bH
    |bad c p =>
     rintro e w2 ⟨he,dF,hU⟩;subst he;have dV:=e9.o.st hU Ya;have bC:Gr w w2:=hU.below oT.o (λ k e=>by omega);refine Z157 ?_;intro W3 bM oP hT g3 z3;clear bM c2;go_wp2_with fail
     try rw[show w2.alloc (.cells #[c,p] 29)=W3 from oP.o]
     refine Z180 ?_;intro w4 g4;have AN:=hT.gr g4;have cV:=(dV.gr g3).gr g4;have dk:=(bC.trans g3).trans g4;have zo:w.heap.size≠w2.heap.size:=by have:=dV.2.2.2;omega
     obtain⟨p0,p1,pf,pl⟩:=id cV
     go_upto_region 8 with fail
     have hS:=AN.gr (Gr.refl w4).drew;refine Reg.begin' (W:=λ i=>i != 2) (S:=FX w2 c p) Yc ?_;refine Reg.tl 0 hS ?_ (hy:=by intro w ab;obtain⟨s0,s1,s2,s3⟩:=ab;go_simp;try with_reducible rfl);refine Reg.on 1 ?_;go_simp;refine Z2 ?_;refine Reg.on 2 ?_;refine Z300 ?_;go_wp2_with fail;have vZ:=cV.set c p;have nK:=(dk.setCell (p:=w) (U12 _) c).setCell (p:=⟨w,1,none⟩) (U12 _) p;obtain⟨WF,am⟩:=ExZ ((w4.setCell w c).setCell ⟨w,1,none⟩ p)
     rw[am]at vZ nK;rw[am];obtain⟨q0,q1,qf,ql⟩:=vZ.gr (Gr.refl WF).drew;have er:=Av.o
     try simp only at er
     rw[<-er];exact U11 (v:=.tuple #[.pointer none,fv c p]) (by simp[results,results17,go_sem,q0,q1,qf,ql]) rfl ⟨rfl,dF,nK.drew⟩
    |ok r =>
     obtain⟨e1,g2⟩:=r;rintro e w2 ⟨ic,L2,ac,x2,he,cp,L0,hU⟩;subst he;have dV:=e9.o.st hU Ya;have bC:Gr w w2:=hU.below oT.o (λ k e=>by omega);refine Z313 ?_;intro hT g3 z3;clear c2;go_wp2_with fail;refine Z206 ?_;intro w4 g4;have sE:=g3.trans g4;go_wp2_with fail
     go_roundg gk
     case rel =>
      have er:=Av.o
      try simp only at er
      exact⟨e1,g2,ic,L2,ac,x2,rfl,er,cp.gr sE,L0.gr sE,dV.gr sE,bC.trans sE,U13 eQ (Olz HY.o)⟩
     case measure=>first|omega|(simp;done)|(simp;omega)
  rw[U1b K']at er;have d1:decide ((m:Int)<(s.size:Int))=false:=Ye
  have d2:decide (m<s.size)=false:=Ye;subst er;obtain⟨gn,cap,cur,yF,px,aZ,dI,nY,ti,lj,dh,Fj,zq,EE⟩:=bG.o.v.form (by rw[<-bG.o.nd,U1n]at eQ;exact eQ);subst yF;have kj:V6d wr (w.heap.size+1+1) (w.heap.size+1) gn cap L 0 wr:=by
   refine⟨?_,λ _ _ _=>rfl,U12 _,rfl,rfl,rfl⟩
   simpa using bG.o.v.nodes
  have qJ:=U10 kj;have R7:L.length<=9223372036854775807:=by unfold maxLen at zq;omega
  have qK:=U10 (show L.length<=cap/\cap<=9223372036854775807 from ⟨Fj,by unfold maxLen at zq;omega⟩);have Tc:=c1;clear lj dh EE kj zq cA uo kK cS c1 c3 c4 c5 c6 c7 c8;obtain⟨wo,Jz⟩:∃wo,wo=wr:=⟨_,rfl⟩
  subst Jz;go_wp2_with fail
  go_loopw [55] (λ v W=>∃j:Nat,v=.int .i64 j/\j<=L.length/\V6d wo (w.heap.size+1+1) (w.heap.size+1) gn cap L j W) (λ v _=>L.length-(intOf v).toNat)
  case atStart=>exact⟨0,rfl,U2y _,qJ.o⟩
  case round =>
   obtain⟨j,rfl,hj,hcut⟩:=hrel;have di:=U10 hcut;have Fk:w.heap.size+1+1≠gn:=U3p nY;have xG:=bG.o.v.R_lt.2;have nD:=hcut.2.1 (w.heap.size+1+1) xG Fk;have q0:wr.cell? (w.heap.size+1+1:Nat)=some (.slice gn L.length cap):=(U1r (w:=wo) (a:=⟨w+1+1,0,none⟩) nD).trans c0;have q1:wr.cell? ⟨w+1+1,1,none⟩=some (.int .i64 0):=(U1r (w:=wo) (a:=⟨w+1+1,1,none⟩) nD).trans Tc;have qz:∀o,wr.frozen? ⟨w+1+1,o,none⟩=false:=λ o=>(U33 (w:=wo) (a:=⟨w+1+1,o,none⟩) nD).trans (fz o)
   clear hcut nD;by_cases vP:j<L.length
   ·have e1:decide ((j:Int)<(L.length:Int))=true:=by simp;omega
    have e2:decide (j<L.length)=true:=Ye;refine Z252 ?_;intro i1;have i2:(j:Int)<(L.length:Int):=Ya;refine Z194 ?_;intro wj;obtain⟨rj,qL⟩:∃rj,L[j]?=some rj:=⟨_,U1h vP⟩
    have R8:=U10 qL;have nM:=U10 (bG.o.v.rows j rj qL);have hS:O5q gn j rj wr.drew:=di.o.cells rj qL;have ce:=di.o.step rj qL;obtain⟨ka,kn,CK⟩:=O4a nM.o.k;obtain⟨sa,sn,CM⟩:=O4a nM.o.s;obtain⟨ua,un,CN⟩:=O4a nM.o.u;have kI:=O9z nM.o.k;have yC:=O95 nM.o.s;have yD:=O4y nM.o.u;rw[CK]at kI ce;rw[CM]at yC ce;rw[CN]at yD ce;have iC:=U10 kI;have LJ:=U10 yC;have LK:=U10 yD;have jO:=U10 ce;clear qL ce CK CM CN kI yC yD
    go_upto_region 14 with fail
    refine Reg.begin' (W:=λ i=>i != 20&&i != 23&&i != 26) (S:=O5q gn j rj) Yc ?_;refine Z302 ?_;obtain⟨p1,p2,p3,pf⟩:=(show O5q gn j rj wr from hS)
    exact J167
   have e1:decide ((j:Int)<(L.length:Int))=false:=Ye;have e2:decide (j<L.length)=false:=Ye;have Jf:j=L.length:=Ya;subst Jf;have eB:FX w (0:Int) (0:Int) wr:=e9.o.of_block (di.o.2.1 _ e9.o.2.2.2 Ya) di.o.2.2.1;have dc:Gr w wr:=di.o.gr oT.o Ya;have VH:w.heap.size+1+1<wr.heap.size:=U13 xG di.o.2.2.1;obtain⟨p0,p1,pf,pl⟩:=id eB;go_wp2_with fail;refine (O8v gn L.length cap qK.o.1 qK.o.2 _).mono ?_;rintro e w3 ⟨rfl,Kb⟩;subst w3;go_wp2_with fail;obtain⟨wS,fA⟩:=ExZ (wr.setCell (w.heap.size+1+1:Nat) (.slice gn L.length L.length))
   have dF:wS.cell? (w.heap.size+1+1:Nat)=some (.slice gn L.length L.length):=by rw[<-fA,U2v _ _ _ (by rw[q0];rfl)]
   have ah:wS.cell? ⟨w+1+1,1,none⟩=some (.int .i64 0):=by rw[<-fA,U1p _ _ _ _ Yb];exact q1
   have lS:FX w (0:Int) (0:Int) wS:=by rw[<-fA];exact eB.other Ya _
   have Te:Gr w wS:=by rw[<-fA];exact dc.setCell (p:=⟨w+1+1,0,none⟩) (by show w.heap.size<=w.heap.size+1+1;omega) _
   have Tf:∀k,own k≠0->own k≠1->wS.heap[k]?=wr.heap[k]?:=by
    rw[<-fA];intro k h0 h1;exact U14 _ _ _ _ (λ e=>by rw[show k=w.heap.size+1+1 from e]at h1;exact h1 bG.o.v.oR)
   have Tg:wr.heap.size=wS.heap.size:=by rw[<-fA];simp[World.setCell]
   have sD:=di.o.treeG bG.o.v Tf (U4e Tg);have Es:Ome wS (w.heap.size+1) (w.heap.size+1+1) g.its g.ns:=by
    obtain⟨⟨xs,i1,i2⟩,i3,i4,i5,_⟩:=kM.o;obtain⟨_,c7,c8,_⟩:=bG.o.v.cells;have hk:∀k,k<wo.heap.size->own k=0->wS.heap[k]?=wo.heap[k]?:=λ k h1 h0=>by
     have h2:k≠w.heap.size+1+1:=λ e=>by rw[e,bG.o.v.oR]at h0;cases h0
     rw[<-fA,U14 _ _ _ _ h2];exact di.o.2.1 k h1 (λ e=>by rw[e,dI]at h0;cases h0)
    have OI:∀o,o≠0->wS.cell? ⟨w+1+1,o,none⟩=wo.cell? ⟨w+1+1,o,none⟩:=λ o ho=>by
     rw[<-fA,U1p _ _ _ _ Yf];exact U1r (w:=wo) (a:=⟨w+1+1,o,none⟩) (di.o.2.1 _ xG Fk)
    exact⟨x.iv,x.nsv,xs,(OI 7 Yd).trans c7,(OI 8 Yd).trans c8,O1 i1 λ k e=>hk k (i1.lt k e).2 (i4 k e),i2,O1 i3 λ k e=>hk k (i3.lt k e).2 (i5 k e)⟩
   rw[fA];rw[O5 lS.1,O5 lS.2.1];obtain⟨KQ,KT,KU,KV⟩:=id lS;refine U11 (v:=.tuple #[.pointer (some ⟨w+1+1,0,none⟩),f0]) (by simp[results,results17,go_sem,KQ,KT,KU,KV]) rfl ?_;refine⟨w.heap.size+1+1,gn,L.map O1d,rfl,Ya,Ya,by rw[U1n];exact dF,ah,?_,?_,Te,Es⟩;rw[<-bG.o.nd,U47];rfl
   exact sD.low Ya
def Opm(w:World)(X:Va Vc)(e:Ending)(w':World):Prop:=match X with
 |.non=>True
 |.bad c p=>e=.returned (.tuple #[.agg #[Vp,(0:Int)],fv c p])/\c≠0/\Gr w w'
 |.ok g=>∃(gn:Nat)(L:List NdR),e=.returned (.tuple #[.agg #[.slice gn L.length L.length,(0:Int)],f0])/\L.map (·.nd)=g.nds/\V2q w' w.heap.size gn L/\Gr w w'
structure Vcr(R z:Nat)(v0 v1 x y:Value)(w:World):Prop where
 c0:w.cell? R=some v0
 c1:w.cell? ⟨R,1,none⟩=some v1
 f:FX z x y w
theorem O7z(Tb:Nat->UInt8×UInt8)(w:World)(bW:RW Tb w)(s:ByteArray)(hs:s.size<=20000000)(ba:Option Addr)(bn bc:Nat)(dE:∀W,Gr w W->(convert 22 9 (.slice ba bn bc)).run prog W=.ok (.string s) W)(X:Va Vc)(hX:V1f ⟨Vu Tb,Vl⟩ (bs s)=X)(a8:X≠.non):Calls prog 7 #[.slice ba bn bc] w (Opm w X):=by
 obtain⟨hA,gA,zA⟩:=bx2 w Vp (0:Int) 26;obtain⟨W0,aI⟩:=ExZ (w.alloc (.cells #[Vp,(0:Int)] 26))
 rw[aI]at hA gA zA;refine Z101 ?_;intro W1 aK gB hB zB;have FO:=gA.trans gB;have rW:=hA.gr gB;have jq:=U10 (Odq Tb W1 (bW.gr FO) s hs ba bn bc (λ W q=>dE W (FO.trans q)) X hX a8);have AM:=U10 aI;have lY:=U10 aK;clear aI aK hX bW dE hA;go_enter func7,ntmps7;go_wp2_with fail;rw[show (w.alloc (.cells #[.slice none 0 0,(0:Int)] 26)).alloc (.cells #[(0:Int),(0:Int)] 29)=W1 from by rw[show w.alloc (.cells #[.slice none 0 0,(0:Int)] 26)=W0 from AM.o];exact lY.o];refine jq.o.mono ?_;clear jq AM lY;cases X with
 |non=>exact absurd rfl a8
 |bad c p =>
  rintro e w2 ⟨he,dF,g2⟩;subst he;refine Z157 ?_;intro W3 bM oP hT g3 z3;clear bM;go_wp2_with fail;rw[show w2.alloc (.cells #[c,p] 29)=W3 from oP.o];refine Z180 ?_;intro w4 g4;have aL:=g2.size;have gE:=(g2.trans g3).trans g4;have AN:=hT.gr g4;have zr:=rW.gr gE;have qN:=hB.gr gE;obtain⟨p0,p1,pf,pl⟩:=id zr;obtain⟨p2,p3,fD,fE⟩:=id qN
  go_upto_region 3 with fail
  have hS:=AN.gr (Gr.refl w4).drew;refine Reg.begin' (W:=λ i=>i != 3) (S:=FX w2 c p) Yc ?_;refine Reg.ty 0 ?_;refine Reg.tl 1 hS ?_ (hy:=by intro w ab;obtain⟨s0,s1,s2,s3⟩:=ab;go_simp;try with_reducible rfl);refine Reg.on 2 ?_;go_simp;rw[O5 zr.1,O5 zr.2.1];refine Z57 ?_;refine Z189 ?_;refine Z2 ?_;refine Z12 ?_;go_wp2_with fail;have vh:=qN.set c p;have FP:=(zr.other (b2:=w.heap.size+1) (o:=0) Ya c).other (b2:=w.heap.size+1) (o:=1) Ya p;have nK:=((FO.trans gE).setCell (p:=⟨w+1,0,none⟩) (U2x _) c).setCell (p:=⟨w+1,1,none⟩) (U2x _) p;obtain⟨WF,am⟩:=ExZ ((w4.setCell (w.heap.size+1:Nat) c).setCell ⟨w+1,1,none⟩ p)
  rw[am]at vh FP nK;rw[am];obtain⟨q0,q1,qf,ql⟩:=FP.gr (Gr.refl WF).drew;obtain⟨y0,y1,yf,yl⟩:=vh.gr (Gr.refl WF).drew;exact U11 (v:=.tuple #[.agg #[Vp,(0:Int)],fv c p]) (by simp[results,results7,go_sem,q0,q1,qf,ql,y0,y1,yf,yl]) rfl ⟨rfl,dF,nK.drew⟩
 |ok g =>
  rintro e w2 ⟨R,gn,L,he,pG,rB,dF,ah,bT,sD,g2,_⟩;subst he;refine Z313 ?_;intro hT g3 z3;obtain⟨W3,bM⟩:=ExZ (w2.alloc (.cells #[(0:Int),(0:Int)] 29))
  rw[bM]at hT g3 z3;have oP:=U10 bM;clear bM;go_wp2_with fail;rw[show w2.alloc (.cells #[(0:Int),(0:Int)] 29)=W3 from oP.o];refine Z206 ?_;intro w4 g4;have aL:=g2.size;have sE:=g3.trans g4;have gE:=g2.trans sE;have AN:=hT.gr g4;have zr:=rW.gr gE;have qN:=hB.gr gE;have k0:=(sE.use.1 R 0 pG).trans dF;have k1:=(sE.use.1 R 1 pG).trans ah;have Th:=U13 pG sE.size;obtain⟨p0,p1,pf,pl⟩:=id zr;obtain⟨p2,p3,fD,fE⟩:=id qN;have uq:=U10 sD;clear sD dF ah
  go_upto_region 4 with fail
  have hS:Vcr R w2.heap.size (.slice gn L.length L.length) (0:Int) (0:Int) (0:Int) w4.drew:=⟨k0,k1,AN.gr (Gr.refl w4).drew⟩
  refine Reg.begin' (W:=λ i=>i != 6) (S:=Vcr R w2.heap.size (.slice gn L.length L.length) (0:Int) (0:Int) (0:Int)) Yc ?_;refine Z31 ?_;refine Reg.tl 3 hS ?_ (hy:=by intro w ab;obtain⟨s0,s1,⟨s2,s3,s4,s5⟩⟩:=ab;go_simp;try with_reducible rfl);refine Reg.tl 4 hS ?_ (hy:=by intro w ab;obtain⟨s0,s1,⟨s2,s3,s4,s5⟩⟩:=ab;go_simp;try with_reducible rfl);refine Reg.on 5 ?_;go_simp;have eH:Vcr R w2.heap.size (.slice gn L.length L.length) (0:Int) (0:Int) (0:Int) ((w4.setCell w (.slice gn L.length L.length)).setCell ⟨w,1,none⟩ (0:Int)).drew:=by
   refine⟨?_,?_,((AN.other Ya _).other Ya _).gr (Gr.refl _).drew⟩;show ((w4.setCell _ _).setCell _ _).cell? _=_;refine Z87 ?_;exact k0
   show ((w4.setCell _ _).setCell _ _).cell? _=_;refine Z87 ?_;exact k1
  refine⟨by first|exact eH|exact λ _=>eH|exact λ _ _=>eH,?_⟩;refine Reg.pt ?_;refine Reg.on 6 ?_;refine Z300 ?_;go_wp2_with fail;have cy:=fx2 zr qN Ya (FO.trans gE) (U12 _) (U2x _) (.slice gn L.length L.length) (0:Int) (0:Int) (0:Int);have cn:∀k,k≠w.heap.size->k≠w.heap.size+1->((((w4.setCell w (.slice gn L.length L.length)).setCell ⟨w,1,none⟩ (0:Int)).setCell (w.heap.size+1:Nat) (0:Int)).setCell ⟨w+1,1,none⟩ (0:Int)).heap[k]?=w4.heap[k]?:=λ k h1 h2=>by
   rw[U14 _ _ _ _ h2,U14 _ _ _ _ h2,U14 _ _ _ _ h1,U14 _ _ _ _ h1]
  have iD:((((w4.setCell w (.slice gn L.length L.length)).setCell ⟨w,1,none⟩ (0:Int)).setCell (w.heap.size+1:Nat) (0:Int)).setCell ⟨w+1,1,none⟩ (0:Int)).heap.size=w4.heap.size:=by simp[World.setCell]
  obtain⟨WF,am⟩:=ExZ ((((w4.setCell w (.slice gn L.length L.length)).setCell ⟨w,1,none⟩ (0:Int)).setCell (w.heap.size+1:Nat) (0:Int)).setCell ⟨w+1,1,none⟩ (0:Int))
  rw[am]at cy cn iD;rw[am];obtain⟨FP,vh,nK⟩:=cy;obtain⟨q0,q1,qf,ql⟩:=FP.gr (Gr.refl WF).drew;obtain⟨y0,y1,yf,yl⟩:=vh.gr (Gr.refl WF).drew;refine U11 (v:=.tuple #[.agg #[.slice gn L.length L.length,(0:Int)],f0]) (by simp[results,results7,go_sem,q0,q1,qf,ql,y0,y1,yf,yl]) rfl ⟨gn,L,rfl,bT,?_,nK.drew⟩;exact (((uq.o.gr sE).keptB (λ k h1 _=>cn k Ya Ya) (U4e iD.symm)).gr (Gr.refl WF).drew).low Ya
theorem Odr(Tb:Nat->UInt8×UInt8)(w:World)(bW:RW Tb w)(s:ByteArray)(hs:s.size<=20000000)(ba:Option Addr)(bn bc:Nat)(dE:∀W,Gr w W->(convert 22 9 (.slice ba bn bc)).run prog W=.ok (.string s) W)(c p:Nat)(hX:V1f ⟨Vu Tb,Vl⟩ (bs s)=.bad c p):Calls prog 12 #[.slice ba bn bc] w λ e w'=>e=.returned (.tuple #[Vp,Vp])/\Gr w w':=by
 have jq:=U10 (Odq Tb w bW s hs ba bn bc dE _ hX Yb);clear hX bW dE;go_enter func12,ntmps12;go_wp2_with fail;refine jq.o.mono ?_;rintro e w2 ⟨he,dF,g2⟩;subst he;refine Z157 ?_;intro W3 bM oP hT g3 z3;clear bM;go_wp2_with fail;rw[show w2.alloc (.cells #[c,p] 29)=W3 from oP.o];refine Z180 ?_;intro w4 g4;go_wp2_with fail;exact U11 (v:=.tuple #[Vp,Vp]) (by simp[results,results12,go_sem]) rfl ⟨rfl,(g2.trans g3).trans g4⟩
