/-
  TtreesBlanks answers true at every text and every list of gaps; proved for every start at which the listed package variables hold what the program's text lays in them (the tied card).
-/
import Derived.Test.YtnkgknbdaiakgaaGreatDoorP31
import Derived.Test.YtnkgknbdaiakgaaGreatDoorP45
import Derived.Test.YtnkgknbdaiakgaaGreatDoorCards
import Derived.Test.YtnkgknbdaiakgaaGreatDoorTie
import Derived.Lib.LaidPrint
import Derived.Lib.LaidU8T
import Derived.Lay
import Derived.Deep.DeepHandedRow
set_option maxHeartbeats 16000000
set_option linter.all false
set_option maxRecDepth 100000
namespace Go.Proofs.YtnkgknbdaiakgaaGreatDoor
open Pl Go.Proofs.Tryz Go.RowKit Go.Shelf Go.Joins
attribute [local go_sem] Uy
theorem Odm(v:Value){w:World}{base e size n:Nat}{xs:List Value}(h:w.ownsRow base e size v n xs)(W:World):Calls prog 30 #[v] W λ e w'=>e = .returned (O4 v)/\W=w':=by
 rcases O15 h with⟨rfl,_⟩|⟨g,cap,rfl,h1,h2⟩
 ·go_enter func30,ntmps30;exact J26
 have e1:(0:Int)<=(n:Int):=by omega
 go_enter func30,ntmps30;exact J26
structure Vdi(R:Nat)(iv nsv:Value)(w:World):Prop where
 c7:w.cell? ⟨R,7,none⟩=some iv
 c8:w.cell? ⟨R,8,none⟩=some nsv
theorem Ok5(Tb:Nat->UInt8×UInt8)(w:World)(bO:RW Tb w)(s:ByteArray)(hs:s.size<=20000000)(ba:Option Addr)(bn bc:Nat)(dK:∀W,Gr w W->(convert 22 9 (.slice ba bn bc)).run prog W = .ok (.string s) W)(g:Vb)(hX:V11 ⟨Vj Tb,Vd⟩ (bs s) = .ok g) :
    Calls prog 12 #[.slice ba bn bc] w λ e w'=>∃iv nsv xs,e = .returned (.tuple #[O4 iv,O4 nsv])/\w'.ownsRow (w.heap.size+1) 53 9 iv g.its.length xs/\V6n xs g.its/\w'.ownsRow (w.heap.size+1) 3 1 nsv g.its.length (g.ns.map λ z=>Value.int .i64 z)/\Gr w w':=by
 have eX:=U0 (O7l Tb w bO s hs ba bn bc dK _ hX (by simp));clear hX bO dK;go_enter func12,ntmps12;go_wp2_with fail;refine eX.o.mono ?_;rintro e w2 ⟨R,gn,L,he,m7,oE,_,_,_,_,g2,iv,nsv,xs,h7,h8,hi,hx,hn⟩;subst he;refine Z127 ?_;intro hT g3 z3;obtain⟨W3,bQ⟩:=ExZ (w2.alloc (.cells #[(0:Int),(0:Int)] 29))
 rw[bQ]at hT g3 z3;have kO:=U0 bQ;clear bQ;go_wp2_with fail;rw[show w2.alloc (.cells #[(0:Int),(0:Int)] 29)=W3 from kO.o];refine Z187 ?_;intro w4 g4;have kI:=g3.trans g4;have k7:=(kI.use.1 R 7 m7).trans h7;have k8:=(kI.use.1 R 8 m7).trans h8;have Ki:=O1 hi λ k e=>kI.block (hi.lt k e).2
 have Kj:=O1 hn λ k e=>kI.block (hn.lt k e).2
 have HI:=U0 (λ W=>Odm iv Ki W);have HN:=U0 (λ W=>O5k Kj W);have gE:=g2.trans kI;clear h7 h8 hi hn hT
 go_upto_region 4 with fail
 have hS:Vdi R iv nsv w4.drew:=⟨k7,k8⟩
 refine Reg.begin' (W:=λ i=>true) (S:=Vdi R iv nsv) (by kernel_rfl) ?_;refine Z32 ?_;refine Reg.ty 5 ?_;refine Reg.ty 6 ?_;refine Reg.ty 7 ?_;refine Reg.tl 3 hS ?_ (hy:=by intro w ab;obtain⟨s0,s1⟩:=ab;go_simp;try with_reducible rfl);refine Reg.tl 8 hS ?_ (hy:=by intro w ab;obtain⟨s0,s1⟩:=ab;go_simp;try with_reducible rfl);refine Reg.on 4 ?_;go_simp;refine (HI.o _).mono ?_;refine Z27 ?_;refine Reg.on 9 ?_;go_simp;refine (HN.o _).mono ?_;refine Z27 ?_;refine Z61 ?_;refine Z12 ?_;go_wp2_with fail;exact U1 (v := .tuple #[O4 iv,O4 nsv]) (by simp[results,results12,go_sem]) rfl ⟨iv,nsv,xs,rfl,O1 Ki λ k e=>(Gr.refl w4).drew.block (Ki.lt k e).2,hx,O1 Kj λ k e=>(Gr.refl w4).drew.block (Kj.lt k e).2,gE.drew⟩
end Go.Proofs.YtnkgknbdaiakgaaGreatDoor
namespace Go.Proofs.YtnkgknbdaiakgaaGreatDoor
open Pl Go.Proofs.Tryz Go.RowKit Go.Shelf Go.Joins
theorem Onn(w:World)(g o n:Nat)(l:Pl.Bs)(hl:l.length=n)(hc:∀i (h:i<l.length),w.cell? ⟨g,o+i,none⟩=some (.int .u8 l[i].toNat))(k c:Nat)(hk:k<=n)(W:World)(q:Gr w W) :
    (convert 22 9 (.slice (some ⟨g,o,none⟩) k c)).run prog W = .ok (.string ⟨(l.take k).toArray⟩) W:=by
 refine Z71 ?_;intro e0;have aV:∀i,i<k->W.cell? ⟨g,o+i,none⟩=some (.int .u8 (((l.take k).map λ x=>(x.toNat:Int)).getD i 0)):=by
  intro i hi;have eK:i<l.length:=by omega
  have h:=hc i eK;have:=(q.use.1 _ _ (Lib.lt_of_cell h)).trans h;rw[this];simp[List.getD,hi,Uh eK]
 rw[U3e W 22 5 underlying22 underlying5 g o k c ((l.take k).map λ x=>(x.toNat:Int)) (by rw[Ul,U17];omega) aV 9 underlying9,e0]
theorem Ol7(PT:Lib.PrintTabs)(l:Pl.Bs)(h:l.length<=100060):(V5d PT l).length<=1000602:=by
 unfold V5d;rw[Ul];have h1:=Lib.quoteZ_length_le PT ⟨l.toArray⟩;have h2:(⟨l.toArray⟩:ByteArray).size=l.length:=rfl;omega
theorem Oe0(T:Nat->UInt8×UInt8)(PT:Lib.PrintTabs){s:Pl.Bs}(hs:s.length<=1000) :
    V11 ⟨Vj T,Vd⟩ s ≠ .non/\∀G,V11 ⟨Vj T,Vd⟩ s = .ok G ->
     (∀it∈G.its,it.b<=s.length/\it.a<=it.b/\∃g',V11 ⟨Vj T,Vd⟩ (s.take it.b) = .ok g')/\G.its.length<=1000/\V59 G.nds=true/\G.nds.length<=1000000 /\
     ∀gs,(∀i,gs i∈V4r)->(V3l s gs 0 G.its).length<=12000/\∃G2,V11 ⟨Vj T,Vd⟩ (V3l s gs 0 G.its) = .ok G2/\V59 G2.nds=true/\G2.nds.length<=1000000 /\
      ∃f t,V25 (V5d PT) G.nds f 0=some t/\V25 (V5d PT) G2.nds f 0=some t/\t.length<=1000000000000000000:=by
 obtain⟨h1,h2⟩:=V7r (E:=⟨Vj T,Vd⟩) (V9a T) (V8o T) (V8q T) hs;refine⟨h1,λ G hG=>?_⟩;obtain⟨a,b,c,d,e⟩:=h2 G hG;refine⟨a,b,c,d,λ gs bZ=>?_⟩;obtain⟨e1,G2,e2,e3,e4,e5⟩:=e gs bZ;obtain⟨f,t,t1,t2,t3⟩:=e5 (V5d PT) 1000602 (λ l hl=>Ol7 PT l hl);exact⟨e1,G2,e2,e3,e4,f,t,t1,t2,by omega⟩
theorem V6n.at:∀{its:List Pl.It}{xs:List Value}(_:V6n xs its)(i:Nat)(it:Pl.It)(_:its[i]?=some it),xs[9*i]?=some (.int .u8 it.kind)/\xs[9*i+1]?=some (.int .i64 it.a)/\xs[9*i+2]?=some (.int .i64 it.b)/\xs[9*i+5]?=some (.int .i64 it.va)/\xs[9*i+6]?=some (.int .i64 it.vb)
 |[],xs,_,i,it,hi=>by simp at hi
 | i0::r,xs,h,i,it,hi=>by
  obtain⟨k,s,n,ys,rfl,hy⟩:=h;cases i with
  |zero =>
   simp only[U1h,Uc]at hi;subst hi;exact⟨rfl,rfl,rfl,rfl,rfl⟩
  |succ i =>
   simp only[List.getElem?_cons_succ]at hi;exact hy.at i it hi
end Go.Proofs.YtnkgknbdaiakgaaGreatDoor
namespace Go.Proofs.YtnkgknbdaiakgaaGreatDoor
open Pl Go.Proofs.Tryz Go.RowKit Go.Shelf Go.Joins
attribute [local go_sem] Uy
structure V8g(w:World)(a:Option Addr)(l:Pl.Bs):Prop where
 cell:∀(j:Nat) z,l[j]?=some z->∃b off,a=some ⟨b,off,none⟩/\b<w.heap.size/\w.cell? ⟨b,off+j,none⟩=some (.int .u8 z.toNat)
theorem V8g.gr{w w':World}{a:Option Addr}{l:Pl.Bs}(h:V8g w a l)(g:Gr w w'):V8g w' a l :=
 ⟨λ j z hz=>by
  obtain⟨b,off,h1,h2,h3⟩:=h.cell j z hz;exact⟨b,off,h1,U4 h2 g.size,(g.use.1 _ _ h2).trans h3⟩⟩
theorem Oix(a:Option Addr)(c:Nat)(W:World):(convert 22 9 (.slice a 0 c)).run prog W = .ok (.string ⟨#[]⟩) W:=by
 rw[run_convert_bytes_string W 22 9 5 _ 0 c underlying22 underlying5 underlying9];cases a <;> simp[Conv.bytesToString,loadCells]
 all_goals rfl
theorem Oaf{w:World}{a:Option Addr}{l:Pl.Bs}(h:V8g w a l)(k c:Nat)(hk:k<=l.length)(W:World)(q:Gr w W):(convert 22 9 (.slice a k c)).run prog W = .ok (.string ⟨(l.take k).toArray⟩) W:=by
 by_cases h0:k=0;subst h0;exact Oix a c W
 obtain⟨z,hz⟩:∃z,l[0]?=some z:=⟨_,Uh (by omega)⟩
 obtain⟨b,off,rfl,_,_⟩:=h.cell 0 z hz;refine Onn w b off l.length l rfl (λ i hi=>?_) k c hk W q;obtain⟨b',o',h1,_,h3⟩:=h.cell i l[i] (Uh hi);cases h1;exact h3
theorem Ono(s:ByteArray)(a b:Nat):bs (s.extract a b)=((bs s).drop a).take (b-a):=by
 simp only[bs,U27]
abbrev Og9:List ByteArray:=[⟨#[]⟩,⟨#[10]⟩,⟨#[35,32,91,120,93,13,10]⟩,⟨#[32,9]⟩,⟨#[32,32,35,32,97,32,61,32,49,10,10]⟩]
theorem Ol8(k:Nat)(hk:k<5):∃z,Og9[k]?=some z/\bs z=V4r.getD k []/\z.size<=11:=by
 match k,hk with
 |0,_=>exact⟨_,rfl,rfl,by decide⟩
 |1,_=>exact⟨_,rfl,rfl,by decide⟩
 |2,_=>exact⟨_,rfl,rfl,by decide⟩
 |3,_=>exact⟨_,rfl,rfl,by decide⟩
 |4,_=>exact⟨_,rfl,rfl,by decide⟩
def O6s(gl:Pl.Bs)(i:Nat):Nat:=match gl[i]? with|some c=>c.toNat|none=>i % 256
theorem Ol9(gl:Pl.Bs)(i:Nat):V5f gl i=V4r.getD (O6s gl i % 5) []:=rfl
theorem Ola(gl:Pl.Bs)(i:Nat):O6s gl i<256:=by
 unfold O6s
 split;rename_i c _;exact c.toNat_lt
 exact Nat.mod_lt _ (by decide)
theorem Oga{w:World}{base e size n:Nat}{v:Value}{xs:List Value}(h:w.ownsRow base e size v n xs):∃(a:Option Addr)(c:Nat),O4 v = .slice a n c/\∀(j:Nat) u,xs[j]?=some u->∃g,a=some ⟨g,0,none⟩/\g<w.heap.size/\w.cell? ⟨g,j,none⟩=some u:=by
 rcases O15 h with⟨rfl,rfl⟩|⟨g,cap,rfl,h1,h2⟩
 refine⟨none,0,rfl,λ j u hu=>?_⟩;have:=h.1;rw[Nat.zero_mul,List.length_eq_zero_iff]at this;rw[this]at hu;simp at hu
 refine⟨some ⟨g,0,none⟩,n,rfl,λ j u hu=>⟨g,rfl,(h.lt g rfl).2,by have:=h.cells (g:=g) rfl j u hu;by_cases hj:j=0 <;> simpa [Addr.add,hj]using this⟩⟩
theorem Ogb(Tb:Nat->UInt8×UInt8)(PT:Lib.PrintTabs)(w:World)(bO:RW Tb w)(rP:TxW PT w)(a ag:Option Addr)(l gl:Pl.Bs)(c cg:Nat)(hb:V8g w a l)(lW:V8g w ag gl)(lZ:l.length<=c) :
    Calls prog 4 #[.slice a l.length c,.slice ag gl.length cg] w λ e w'=>e = .returned (.bool true)/\Gr w w':=by
 have is:=U0 bO;have rO:=U0 rP;have HB:=U0 hb;have rL:=U0 lW;have HL:=U0 (λ W (g:Gr w W)=>Ok7 Tb PT W (is.o.gr g) (rO.o.gr g));obtain⟨n,hn⟩:=ExZ (l.length)
 obtain⟨ng,nU⟩:=ExZ (gl.length)
 rw[hn]at lZ⊢;rw[nU];have HN:=U0 hn;have No:=U0 nU;clear bO rP hb lW hn nU;by_cases mP:1000<n\/100<ng
 ·have d:(decide ((1000:Int)<(n:Int))=true)\/(decide ((1000:Int)<(n:Int))=false/\decide ((100:Int)<(ng:Int))=true):=by simp;omega
  have H:=U0 (HL.o w (Gr.refl w));clear mP;rcases d with d1|⟨d1,d2⟩
  all_goals
   go_enter func4,ntmps4;go_wp2_with fail;refine H.o.mono ?_;rintro e w1 ⟨rfl,g1⟩;go_wp2_with fail;exact U1 (v := .bool true) (by simp[results,results4,go_sem]) rfl ⟨rfl,g1⟩
 have d1:decide ((1000:Int)<(n:Int))=false:=by simp;omega
 have d2:decide ((100:Int)<(ng:Int))=false:=by simp;omega
 have yU:n<=1000:=by omega
 have Np:ng<=100:=by omega
 clear mP;obtain⟨s,hs⟩:∃s:ByteArray,(⟨l.toArray⟩:ByteArray)=s:=⟨_,rfl⟩
 have uV:bs s=l:=by rw[<-hs]
 have d5:s.size=n:=by rw[<-O0,uV];exact HN.o
 have yV:∀W,Gr w W->(convert 22 9 (.slice a n c)).run prog W = .ok (.string s) W:=λ W q=>by
  have:=Oaf HB.o l.length c (U2 _) W q;rw[List.take_length,hs,HN.o]at this;exact this
 have rY:=U0 yV;obtain⟨X,hX⟩:=ExZ (V11 ⟨Vj Tb,Vd⟩ l)
 have qX:=Oe0 Tb PT (s:=l) (by rw[HN.o];exact yU);rw[hX]at qX;have HT:=U0 qX;have gG:V11 ⟨Vj Tb,Vd⟩ (bs s)=X:=by rw[uV];exact hX
 have HP:=U0 (O56 Tb w is.o s (by omega) a n c rY.o X gG HT.o.1);have HX:=U0 gG;have Il:=U0 uV;have dK:=yV w (Gr.refl w);clear qX hX gG hs uV yV;go_enter func4,ntmps4;go_wp2_with fail;clear dK;refine HP.o.mono ?_;cases X with
 |non=>exact absurd rfl HT.o.1
 |bad c' p =>
  rintro e w1 ⟨he,hc,g1⟩;subst he;have kL:¬(c':Int)=0:=by omega
  have HG:=U0 ((g1.alloc (.cells #[Vn,(0:Int)] 26)).alloc (.cells #[c',p] 29));clear g1 HP;go_wp2_with fail;refine (HL.o _ HG.o).mono ?_;rintro e w2 ⟨rfl,g2⟩;have cP:=HG.o.trans g2;clear g2;go_wp2_with fail;exact U1 (v := .bool true) (by simp[results,results4,go_sem]) rfl ⟨rfl,cP⟩
 |ok G =>
  obtain⟨nD,Kk,vP,Dp,li⟩:=HT.o.2 G rfl;rintro e w1 ⟨gn,L,he,rW,qU,g1⟩;subst he;obtain⟨hA,gA,zA⟩:=bx2 w1 (.slice (some ⟨gn,0,none⟩) L.length L.length) (0:Int) 26;obtain⟨W0,aM⟩:=ExZ (w1.alloc (.cells #[.slice (some ⟨gn,0,none⟩) L.length L.length,(0:Int)] 26))
  rw[aM]at hA gA zA;refine Z102 ?_;intro W1 aQ gB hB zB;have vO:=gA.trans gB;have lI:=U0 (g1.trans vO);have HA:=U0 (hA.gr gB);have qJ:=U0 (qU.gr vO);have Kl:=U0 rW;have F7:=U0 (Ok5 Tb W1 (is.o.gr lI.o) s (by omega) a n c (λ W q=>rY.o W (lI.o.trans q)) G HX.o);have Km:=U0 nD;have Kn:=U0 li;have RX:=U0 vP;have RY:=U0 Dp;have lS:=U0 (show (w1.alloc (.cells #[.slice (some ⟨gn,0,none⟩) L.length L.length,(0:Int)] 26)).alloc (.cells #[(0:Int),(0:Int)] 29)=W1 by rw[aM,aQ]);obtain⟨p0,p1,pf,pl⟩:=hB;clear HP hA gA zA gB vO aM aQ g1 rW qU nD li vP Dp zB
  go_upto_region 5 with fail
  rw[show (w1.alloc (.cells #[.slice (some ⟨gn,0,none⟩) L.length L.length,(0:Int)] 26)).alloc (.cells #[(0:Int),(0:Int)] 29)=W1 from lS.o];go_wp2_with fail;refine F7.o.mono ?_;rintro e w2 ⟨iv,nsv,xs,he,hi,hx,uU,g2⟩;subst he;obtain⟨ai,ci,xW,aV⟩:=Oga hi;rw[xW];have Dq:=U0 (lI.o.trans g2);have pa:=U0 g2;have vQ:=U0 aV;have FF:=U0 hx;obtain⟨N,Ko⟩:=ExZ (G.its.length)
  rw[Ko]at Kk⊢;have Nq:=U0 Ko;clear hi xW aV uU g2 hx F7 p0 p1 pf pl Ko;go_wp2_with fail
  go_loopw [10,11] (λ RZ Kp wr=>∃(i:Nat)(t:ByteArray),RZ = .string t/\Kp = .int .i64 i/\i<=N/\Hid (bs t=V3l l (V5f gl) 0 (G.its.take i))/\t.size<=i*2000/\Gr w2 wr) (λ _ Kp _=>N-(intOf Kp).toNat)
  case atStart=>exact⟨0,⟨#[]⟩,rfl,rfl,by omega,U0 rfl,by decide,Gr.refl _⟩
  case round =>
   obtain⟨i,t,rfl,rfl,hi,F8,xO,hg⟩:=hrel;by_cases TP:i<N
   ·have e1:decide ((i:Int)<(N:Int))=true:=by simp;omega
    have R':decide (i<N)=true:=by simp;omega
    have i1:(0:Int)<=(i:Int):=by omega
    have i2:(i:Int)<(N:Int):=by omega
    have wi:IntKind.i64.wrap ((i:Int)+1)=(i:Int)+1:=Uk _ ⟨by omega,by omega⟩;have wu:IntKind.u8.wrap (i:Int)=((i % 256:Nat):Int):=by simp[IntKind.wrap,IntKind.signed,IntKind.bits]
    obtain⟨it,hit⟩:∃it,G.its[i]?=some it:=⟨_,Uh (by have:=Nq.o;omega)⟩
    obtain⟨bA,aA,g',cH⟩:=Km.o it (U1r hit);have Ge:it.b<=n:=by have:=HN.o;omega
    obtain⟨x0,x1,x2,_,_⟩:=FF.o.at i it hit;obtain⟨g,rfl,aY,ah⟩:=vQ.o _ _ x1;obtain⟨g3,dQ,_,aE⟩:=vQ.o _ _ x2;cases dQ;have hu:=hg.use.1;have c1:wr.cell? ⟨g,i*9+1,none⟩=some (.int .i64 it.a):=by rw[Nat.mul_comm];exact (hu g _ aY).trans ah
    have c2:wr.cell? ⟨g,i*9+2,none⟩=some (.int .i64 it.b):=by rw[Nat.mul_comm];exact (hu g _ aY).trans aE
    have lp:g<wr.heap.size:=U4 aY hg.size;obtain⟨s',kB⟩:∃s':ByteArray,(⟨(l.take it.b).toArray⟩:ByteArray)=s':=⟨_,rfl⟩
    have yW:bs s'=l.take it.b:=by rw[<-kB]
    have Dr:V11 ⟨Vj Tb,Vd⟩ (bs s') = .ok g':=by rw[yW];exact cH
    have Kr:s'.size<=1000:=by rw[<-O0,yW,U17];omega
    have E0:=U0 (λ W (q:Gr w W)=>O56 Tb W (is.o.gr q) s' (by omega) a it.b c (λ V q'=>by
     have:=Oaf HB.o it.b c (by rw[HN.o];exact Ge) V (q.trans q');rw[kB]at this;exact this) _ Dr (by simp))
    have km:=U0 (Dq.o.trans hg);have kM:=U0 hg;have Ks:=F8;have F7:=U0 hit;have L3:it.b<=c:=by omega
    clear hit cH Dr x0 x1 x2 ah aE hu kB yW Kr F8 hg
    go_upto_if 57 with fail
    obtain⟨Ap,yX⟩:=ExZ (O6s gl i)
    have Nr:Ap<256:=by rw[<-yX];exact Ola _ _
    have Kt:=U0 yX;clear yX;obtain⟨W3,bQ⟩:=ExZ (wr.alloc (.cells #[it.a,it.b] 38))
    have hF:=FX.new wr it.a it.b 38;have Ku:Gr wr W3:=by rw[<-bQ];exact (Gr.refl _).alloc _
    rw[bQ]at hF⊢;have wI:=U0 (km.o.trans Ku);have kO:=U0 (kM.o.trans Ku);clear bQ Ku c1 c2
    go_cut [13] (λ Dx W=>Dx = .int .u8 Ap/\W3=W)
    case first =>
     by_cases S0:i<ng
     ·have d4:decide ((i:Int)<(ng:Int))=true:=by simp;omega
      have S6:decide (i<ng)=true:=by simp;omega
      obtain⟨cz,Ec⟩:∃c,gl[i]?=some c:=⟨_,Uh (by have:=No.o;omega)⟩
      obtain⟨bg,og,rfl,S7,S8⟩:=(rL.o.gr wI.o).cell i cz Ec;have i5:(i:Int)<(ng:Int):=by omega
      have tN:Ap=cz.toNat:=by rw[<-Kt.o];unfold O6s;rw[Ec]
      rw[<-tN]at S8;clear Ec tN;go_wp2_with fail
      go_meet
      exact J9
     have d4:decide ((i:Int)<(ng:Int))=false:=by simp;omega
     have S6:decide (i<ng)=false:=by simp;omega
     have tN:i % 256=Ap:=by
      rw[<-Kt.o];unfold O6s;rw[U1m (by have:=No.o;omega)]
     go_wp2_with fail
     go_meet
     exact⟨by rw[<-tN];simp,rfl⟩
    case rest =>
     obtain⟨rfl,rfl⟩:=hcut;obtain⟨k5,uO⟩:=ExZ (Ap % 5)
     have Kv:k5<5:=by omega
     obtain⟨zt,Kw,fR,zZ⟩:=Ol8 k5 Kv;have tm:(Ap:Int).tmod 5=(k5:Int):=by rw[U2t (by omega)];omega
     have m1:(0:Int)<=(k5:Int):=by omega
     have m2:(k5:Int)<5:=by omega
     have n3:(#[.string ⟨#[]⟩,.string ⟨#[10]⟩,.string ⟨#[35,32,91,120,93,13,10]⟩,.string ⟨#[32,9]⟩,.string ⟨#[32,32,35,32,97,32,61,32,49,10,10]⟩]:Array Value)[k5]?=some (.string zt):=by
      have:(Og9.map Value.string)[k5]?=some (.string zt):=by rw[Uq,Kw];rfl
      exact J15
     have n4:∀h,([.string ⟨#[]⟩,.string ⟨#[10]⟩,.string ⟨#[35,32,91,120,93,13,10]⟩,.string ⟨#[32,9]⟩,.string ⟨#[32,32,35,32,97,32,61,32,49,10,10]⟩]:List Value)[k5]'h = .string zt:=λ h=>by
      have h2:(Og9.map Value.string)[k5]?=some (.string zt):=by rw[Uq,Kw];rfl
      exact (U7.1 h2).2
     have z1:¬ 9223372036854775807<t.size+zt.size:=by omega
     have z2:¬ 9223372036854775807<t.size+zt.size+(min it.b s.size-it.a):=by omega
     have z3:¬ 9223372036854775807<(t++zt).size+(s.extract it.a it.b).size:=by simp;omega
     have z5:¬ 9223372036854775807<t.size+zt.size+(it.b-it.a):=by omega
     have z4:¬ 9223372036854775807<t.size+zt.size+(s.extract it.a it.b).size:=by simp;omega
     have Ar:=U0 uO;clear uO;have r1:(0:Int)<=(it.a:Int):=by omega
     have r2:(it.a:Int)<=(it.b:Int):=by omega
     have r3:(it.b:Int)<=(s.size:Int):=by omega
     have Gs:=U0 fR;have TQ:=U0 d5;clear Kw fR
     go_upto_region 16 with fail
     have hS:FX wr.heap.size it.a it.b W3.drew:=hF.gr (Gr.refl W3).drew;have cm:FX wr.heap.size it.a it.b (W3.alloc (.cells #[.string ⟨#[]⟩,.string ⟨#[10]⟩,.string ⟨#[35,32,91,120,93,13,10]⟩,.string ⟨#[32,9]⟩,.string ⟨#[32,32,35,32,97,32,61,32,49,10,10]⟩] 9)).drew:=hF.gr ((Gr.refl W3).alloc _).drew;refine Reg.begin' (W:=λ i=>true) (S:=FX wr.heap.size it.a it.b) (by kernel_rfl) ?_;refine Reg.ty 0 ?_;refine Reg.ty 2 ?_;refine Reg.ty 3 ?_;refine Reg.ty 7 ?_;refine Reg.ty 8 ?_;refine Reg.ty 10 ?_;refine Reg.tl 9 hS ?_ (hy:=by intro w ab;obtain⟨s0,s1,s2,s3⟩:=ab;go_simp;try with_reducible rfl);refine Reg.tl 11 hS ?_ (hy:=by intro w ab;obtain⟨s0,s1,s2,s3⟩:=ab;go_simp;try with_reducible rfl);refine Reg.ty 12 ?_;refine Reg.on 1 ?_;go_simp;refine Z2 ?_;refine Reg.ty 4 ?_;refine Reg.on 5 ?_;go_simp;refine Reg.ty 6 ?_;refine Reg.ty 13 ?_;refine Reg.on 14 ?_;refine Z293 ?_;obtain⟨W4,fm⟩:=ExZ ((W3.alloc (.cells #[.string ⟨#[]⟩,.string ⟨#[10]⟩,.string ⟨#[35,32,91,120,93,13,10]⟩,.string ⟨#[32,9]⟩,.string ⟨#[32,32,35,32,97,32,61,32,49,10,10]⟩] 9)).drew)
     rw[fm];rw[fm]at cm;have Gw:=U0 (wI.o.trans (show Gr W3 W4 by rw[<-fm];exact ((Gr.refl W3).alloc _).drew));have S9:=U0 (kO.o.trans (show Gr W3 W4 by rw[<-fm];exact ((Gr.refl W3).alloc _).drew));have Ns:=U0 (E0.o W4 Gw.o);obtain⟨f0,f1,ff,fl⟩:=cm;have Sa:(it.b:Int)<=(c:Int):=by omega
     have jo:(0:Int)<=(it.b:Int):=by omega
     clear fm m1 m2 n3 n4 tm E0;obtain⟨T1,rI⟩:=ExZ (t++zt++s.extract it.a it.b)
     have Ds:T1.size<=(i+1)*2000:=by rw[<-rI];simp;omega
     have Dt:bs T1=V3l l (V5f gl) 0 (G.its.take (i+1)):=by
      rw[<-rI,O3l,O3l,Ks.o,Ono,Il.o,Gs.o,V87 l _ _ i it F7.o,Ol9,Kt.o,Ar.o,U2p]
     rw[rI];have sN:=U0 Dt;clear rI Dt z1 z2 z3 z4 z5;go_wp2_with fail;refine Ns.o.mono ?_;rintro e w5 ⟨Sb,L5,he,_,_,g5⟩;subst he;have lC:=U0 ((S9.o.trans g5).alloc (.cells #[.slice (some ⟨Sb,0,none⟩) L5.length L5.length,(0:Int)] 26) |>.alloc (.cells #[(0:Int),(0:Int)] 29));clear g5 Ns;go_wp2_with fail
     go_roundw
     case rel=>first|exact⟨i+1,T1,rfl,by go_num,by omega,sN,Ds,lC.o⟩|((repeat apply Exists.intro);exact⟨⟨i+1,T1,rfl,by go_num,by omega,sN,Ds,lC.o⟩,rfl⟩)
     case measure=>simp[intOf];omega
   have e1:decide ((i:Int)<(N:Int))=false:=by simp;omega
   have R':decide (i<N)=false:=by simp;omega
   have Kx:i=N:=by omega
   subst Kx;have Ks:=F8;have km:=U0 (Dq.o.trans hg);have Sc:=U0 (HA.o.gr (pa.o.trans hg));have Ky:=U0 (qJ.o.gr (pa.o.trans hg));clear F8 hg;obtain⟨rB,G2,il,Bz,Nt,F,tt,Nu,Nv,Kz⟩:=Kn.o (V5f gl) (λ i=>V8r gl i);have Du:bs t=V3l l (V5f gl) 0 G.its:=by rw[Ks.o,U24 (by have:=Nq.o;omega)]
   rw[<-Du]at rB il;rw[O0]at rB;have uX:L.length<=1000000:=by have:=RY.o;rw[<-Kl.o,Ul]at this;exact this
   have KA:=U0 (Oem PT F 0 tt wr (rO.o.gr km.o) w.heap.size gn L Ky.o (by rw[Kl.o];exact RX.o) uX (by omega) (by rw[Kl.o];exact Nu) Kz 0);have If:=U0 (λ W (g:Gr w W) (q:ByteArray) (hq:bs q=tt)=>Ocj Tb PT W (is.o.gr g) (rO.o.gr g) t q (by omega) G2 il Bz Nt F (by rw[hq];exact Nv) (by rw[<-O0,hq];exact Kz));obtain⟨q0,q1,qf,ql⟩:=id Sc.o;clear rB il Bz Nt Nu Nv Kz Du uX;go_wp2_with fail;refine KA.o.mono ?_;rintro e w5 ⟨q,rfl,hq,g5⟩;have lC:=U0 (km.o.trans g5);have HQ:=U0 hq;clear hq g5;go_wp2_with fail;refine (If.o _ lC.o q HQ.o).mono ?_;rintro e w6 ⟨rfl,g6⟩;have xt:=U0 (lC.o.trans g6);clear g6;go_wp2_with fail;refine (HL.o _ xt.o).mono ?_;rintro e w7 ⟨rfl,g7⟩;have mZ:=xt.o.trans g7;clear g7;go_wp2_with fail;exact U1 (v := .bool true) (by simp[results,results4,go_sem]) rfl ⟨rfl,mZ⟩
end Go.Proofs.YtnkgknbdaiakgaaGreatDoor
namespace Go.Proofs.YtnkgknbdaiakgaaGreatDoor
open Pl Go.Proofs.Tryz Go.ChangeShapes Go.WideShapes Go.ChangeAt Go.RowKit Go.Shelf Go.Lib
set_option maxRecDepth 100000
theorem Olc:ownKnob prog.godebug=none:=by kernel_rfl
theorem Oag:laidOutB prog=true:=by kernel_rfl
theorem Oon{W:World}(hL:laidMet prog Rows.ttreesBlanksRow.laid W)(hS:W.ShapedOpen prog):∃T,RW T W:=by
 have e4:=Od7 hL.tail.tail.tail.tail (show prog.globalNamed "strconv.ErrRange" = some 1 by kernel_rfl) (by kernel_rfl);obtain⟨p,e5⟩:=Od7 hL.tail.tail.tail.tail.tail (show prog.globalNamed "strconv.ErrSyntax" = some 14 by kernel_rfl) (by kernel_rfl);obtain⟨T,hT⟩:=Oom hS;exact⟨T,⟨Ook hL (by simp[Rows.ttreesBlanksRow]),
     Go.Proofs.cell_of_shapedOpen_int (zero:=#[(0:Int)]) (t:=3) hS (by decide +kernel) (by kernel_rfl) rfl (by kernel_rfl) (by kernel_rfl) underlying3,e4,
     Ool hL (by simp[Rows.ttreesBlanksRow])⟩,
  ⟨⟨_,e5,.inr ⟨_,_,rfl⟩⟩,hT⟩⟩
theorem Ooo{W:World}(hL:laidMet prog Rows.ttreesBlanksRow.laid W):Lib.PrintTabsAt 7 8 9 10 goPrintTabs W:=by
 have Nx:=Lib.laidMet.reads hL (show ("strconv.isPrint16",Rows.laid_strconv_isPrint16)∈Rows.ttreesBlanksRow.laid by simp[Rows.ttreesBlanksRow]);have Ny:=Lib.laidMet.reads hL (show ("strconv.isNotPrint16",Rows.laid_strconv_isNotPrint16)∈Rows.ttreesBlanksRow.laid by simp[Rows.ttreesBlanksRow]);have Nz:=Lib.laidMet.reads hL (show ("strconv.isPrint32",Rows.laid_strconv_isPrint32)∈Rows.ttreesBlanksRow.laid by simp[Rows.ttreesBlanksRow]);have NA:=Lib.laidMet.reads hL (show ("strconv.isNotPrint32",Rows.laid_strconv_isNotPrint32)∈Rows.ttreesBlanksRow.laid by simp[Rows.ttreesBlanksRow]);rw[show Rows.laid_strconv_isPrint16=sliceData .u16 goPrintTabs.p16 by kernel_rfl]at Nx;rw[show Rows.laid_strconv_isNotPrint16=sliceData .u16 goPrintTabs.n16 by kernel_rfl]at Ny;rw[show Rows.laid_strconv_isPrint32=sliceData .u32 goPrintTabs.p32 by kernel_rfl]at Nz;rw[show Rows.laid_strconv_isNotPrint32=sliceData .u16 goPrintTabs.n32 by kernel_rfl]at NA;exact⟨tabSlice_of_reads (by kernel_rfl) (show _=some 249 by kernel_rfl) underlying249 underlying248 (by kernel_rfl) (by decide +kernel) Nx,
  tabSlice_of_reads (by kernel_rfl) (show _=some 249 by kernel_rfl) underlying249 underlying248 (by kernel_rfl) (by decide +kernel) Ny,
  tabSlice_of_reads (by kernel_rfl) (show _=some 251 by kernel_rfl) underlying251 underlying158 (by kernel_rfl) (by decide +kernel) Nz,
  tabSlice_of_reads (by kernel_rfl) (show _=some 249 by kernel_rfl) underlying249 underlying248 (by kernel_rfl) (by decide +kernel) NA,
  by decide +kernel,by decide +kernel,by decide +kernel⟩
def Oop:Go.Shelf.Ren:=⟨λ x=>x,λ|5=>5|119=>223|138=>225|139=>226|n=>n,λ|3=>4|4=>5|n=>n⟩
theorem Ooq{W:World}(hL:laidMet prog Rows.ttreesBlanksRow.laid W):Lib.Utf8Tabs 4 5 W:=by
 have h3:=Lib.laidMet.reads hL (show ("unicode/utf8.first",Rows.laid_unicode_utf8_first)∈Rows.ttreesBlanksRow.laid by simp[Rows.ttreesBlanksRow]);have h4:=Lib.laidMet.reads hL (show ("unicode/utf8.acceptRanges",Rows.laid_unicode_utf8_acceptRanges)∈Rows.ttreesBlanksRow.laid by simp[Rows.ttreesBlanksRow]);rw[show Rows.laid_unicode_utf8_first=Lib.firstData by kernel_rfl]at h3;rw[show Rows.laid_unicode_utf8_acceptRanges=Lib.acceptData by kernel_rfl]at h4;exact utf8Tabs_of_readsT (P:=prog) (ρ := Oop) ⟨underlying5,by kernel_rfl,by kernel_rfl,by kernel_rfl⟩ ⟨by kernel_rfl,by kernel_rfl,by kernel_rfl,by kernel_rfl,by kernel_rfl,by kernel_rfl,by kernel_rfl⟩ h3 h4
theorem Old{w:World}{a:Addr}{v:Value}(h:w.cell? a=some v):a.block<w.heap.size:=by
 rcases Nat.lt_or_ge a.block w.heap.size with h'|h'
 exact h'
 simp[World.cell?,U37 h']at h
theorem O8t{H:Type}{mt:TypeId×Value->H}{W:World}{b0:Nat}{v:Value}{d:DataW H}{ps:List MemPlace}(db:Value.okWide prog W .any b0 22 v)(h:DataW.Trod mt prog W 0 (λ _=>true) true 22 v d ps) :
    ∃(a:Option Addr)(gs:List UInt8)(c:Nat),v = .slice a gs.length c/\V8g W a gs/\gs.length<=c:=by
 obtain⟨a0,len,cap,rfl⟩:=okWide_slice underlying22 db;obtain⟨ik,hf⟩:=h;rcases open_ints underlying22 underlying5 (by kernel_rfl) hf with⟨iY,hx⟩|⟨a,KB,pd,zs,iY,_,hl,hm,hz,hx,aV,H8⟩
 have hv:Value.slice a0 len cap = .slice none 0 0:=by simpa [Value.cells]using iY
 exact⟨none,[],0,hv,⟨λ j z h=>by simp at h⟩,U2 _⟩
 have hv:Value.slice a0 len cap = .slice (some a) KB pd:=by simpa [Value.cells]using iY
 simp only[U33]at hv;obtain⟨rfl,rfl,rfl⟩:=hv;simp only[U1j]at hz;obtain⟨b,off,KC⟩:=a;have ao:((zs.take len).map λ n=>UInt8.ofNat n.toNat).length=len:=by rw[Ul,U17,Nat.min_eq_left (by omega)]
 refine⟨_,(zs.take len).map λ n=>UInt8.ofNat n.toNat,cap,by rw[ao],⟨λ j X hX=>?_⟩,by rw[ao];exact hl⟩;have hj:j<len:=by
  have:=(U7.1 hX).1;simp at this;omega
 have Dv:KC=none:=by simpa [Addr.add]using World.cell?_spot (aV 0 (by omega))
 subst Dv;obtain⟨n,hn⟩:∃n,zs[j]?=some n:=⟨_,Uh (by omega)⟩
 rw[Uq,List.getElem?_take_of_lt hj,hn]at hX;simp only[U18,Uc]at hX;have hd:zs.getD j 0=n:=by simp[List.getD,hn]
 have hw:=H8 n (U1r hn);have hr:0<=n/\n<=255:=by simpa [Lit.wf,IntKind.min,IntKind.max,IntKind.signed,IntKind.bits]using hw
 refine⟨b,off,rfl,Old (aV 0 (by omega)),?_⟩;have hc:=aV j (by omega);rw[show ((⟨b,off,none⟩:Addr).add j)=⟨b,off+j,none⟩ by by_cases zS:j=0 <;> simp[Addr.add,zS],hd]at hc;rw[hc,<-hX];have:(UInt8.ofNat n.toNat).toNat=n.toNat:=by
  rw[UInt8.toNat_ofNat'];exact Nat.mod_eq_of_lt (by omega)
 simp only[this];congr 2;omega
theorem O9j(H:Type)(mt:TypeId×Value->H)(W:World)(base:Nat)(args:Array Value)(ds gs:List (DataW H))(lJ:List MemPlace)
    (db:∀(j:Nat) t v,Tryz.f4.params[j]?=some t->args[j]?=some v->Value.okWide prog W .any base t v)
    (hW:DataW.Whole mt prog Tryz.f4.params.toList Rows.ttreesBlanksSpec.vars false W args.toList ds gs lJ)(hL:laidMetH prog Rows.ttreesBlanksRow.laid W)(hS:W.ShapedOpen prog) :
    Calls prog 4 args W λ e W'=>∃v,e = .returned v/\Rows.ttreesBlanksSpec.post mt prog Tryz.f4 false true false false W args v W':=by
 have KD:=hW;rw[MakeChecks.laidMetH_plain _ _ _ (by kernel_rfl)]at hL;obtain⟨p,q,CP,hV,rfl,FP,bP⟩:=hW;have hA:DataW.TrodAll mt prog W 0 (λ _=>true) true Tryz.f4.params.toList args.toList ds p:=CP;rw[params4]at hA db;obtain⟨v0,v1,d0,d1,p0,p1,rfl,rfl,rfl,h0,h1⟩:=trodAll_two hA;obtain⟨rfl,rfl⟩:=trodVars_none hV;have Sd:=h0;have Se:=h1;obtain⟨a0,l,c0,rfl,hl,lZ⟩:=O8t (db 0 22 v0 (by simp) (by simp)) h0;obtain⟨a1,gl,c1,rfl,hg,_⟩:=O8t (db 1 22 v1 (by simp) (by simp)) h1;clear CP h0 h1;simp only[U2g]at KD;have aa:∀x∈p0++p1,x.block<W.heap.size:=λ x hx=>by simpa using KD.lt x (by simpa using hx)
 obtain⟨T,hT⟩:=Oon hL hS;refine (Ogb T goPrintTabs W hT ⟨hT.int,Ooo hL,Ooq hL⟩ a0 a1 l gl c0 c1 hl hg lZ).mono λ e W' ⟨he,hg⟩=>?_
 subst he;have KE:Below W.heap.size W W':=hg;refine⟨_,rfl,_,_,_,[],p0++p1,[],KD,trodAll_mk1 (shut_bool underlying4 _),trodAll_mk2 (Below.trod Oag (by kernel_rfl) (of_decide_eq_true (by kernel_rfl)) Sd KE (λ x hx=>aa x (by simp[hx]))) (Below.trod Oag (by kernel_rfl) (of_decide_eq_true (by kernel_rfl)) Se KE (λ x hx=>aa x (by simp[hx]))),rfl,KE.frame _,λ h=>by cases h⟩
theorem Oe1(os:Os){H:Type}(mt:TypeId×Value->H):∃qY,DataW.whole mt prog ((World.laidAll prog os Rows.ttreesBlanksRow.laid).forCall (λ _ _=>0) ⟨#[],#[.slice none 0 0,.slice none 0 0],[]⟩).memory Tryz.f4.params.toList Rows.ttreesBlanksSpec.vars false #[Value.slice none 0 0,.slice none 0 0].toList 8=some ([.nil,.nil],[],qY) :=
 ⟨[],by kernel_rfl⟩
theorem Ogd(os:Os):laidMetH prog Rows.ttreesBlanksRow.laid ((World.laidAll prog os Rows.ttreesBlanksRow.laid).forCall (λ _ _=>0) ⟨#[],#[.slice none 0 0,.slice none 0 0],[]⟩).memory:=by
 rw[MakeChecks.laidMetH_plain _ _ _ (by kernel_rfl)];exact laidMet_laidAll _ (by kernel_rfl) (by kernel_rfl)
theorem Od8(os:Os)(jk:os.Started)(H:Type)(mt:TypeId×Value->H)(F:Stop.Interp) :
    ReturnsInHanded {} Tryz.checked os 4 .any ((OpenSpec.ofChange Rows.ttreesBlanksSpec).preRow mt prog Tryz.f4 Rows.ttreesBlanksRow.domain false Rows.ttreesBlanksRow.laid) (((OpenSpec.ofChange Rows.ttreesBlanksSpec).at F).post mt prog Tryz.f4 false true false false):=by
 obtain⟨qY,hx⟩:=Oe1 os mt;have cJ:Input.okWideB Tryz.checked.prog ((World.laidAll prog os Rows.ttreesBlanksRow.laid).forCall (λ _ _=>0) ⟨#[],#[.slice none 0 0,.slice none 0 0],[]⟩) 4 ⟨#[],#[.slice none 0 0,.slice none 0 0],[]⟩=true:=by kernel_rfl
 refine returnsInHanded_of_row (C:=Tryz.checked) (s:=OpenSpec.ofChange Rows.ttreesBlanksSpec) Olc jk (by kernel_rfl) func4
  ⟨World.laidAll prog os Rows.ttreesBlanksRow.laid,λ _ _=>0,⟨#[],#[.slice none 0 0,.slice none 0 0],[]⟩,World.laidAll_os _ _ _,World.shaped_of_ZipB (by kernel_rfl) (by kernel_rfl),(Input.okWide_of_okWideB (base:=0) cJ).1,(Input.okWide_of_okWideB cJ).2,
   OpenSpec.preRow_of_cond 8 hx (by kernel_rfl) (λ k hk=>by cases hk) (by kernel_rfl) (Ogd os),by
    simp only[Assume.holds];exact⟨by simp,by simp,λ _=>Modest.zero,by simp,by simp⟩⟩ ?_
 intro W base args ds gs lJ db hW _ _ _ hL hS _;exact O9j H mt W base args ds gs lJ db hW hL hS
theorem Oge:Rows.TtreesBlanksSaid :=
 OpenClaim.holds_of_cond 4 Tryz.f4 rfl rfl rfl rfl rfl rfl rfl ⟨rfl,rfl,rfl,rfl,rfl⟩ rfl rfl rfl rfl rfl (by kernel_rfl) func4 (by kernel_rfl)
  (of_decide_eq_true (by kernel_rfl)) (by unfold Func.isWrapper;first|(rw[Ua (by decide +kernel)];kernel_rfl)|(rw[Ud (by decide +kernel)];exact⟨rfl,rfl⟩))
  (λ os jk H mt _ F=>by rw[OpenClaim.pre_eq_preRow];exact Od8 os jk H mt F)
theorem Oe2(f:FuncId)(fn:Func)(hf:Tryz.pinned.checked.prog.funcNamed "inarch/inarchlaw13.TtreesBlanks" = some f)(FU:Tryz.pinned.checked.prog.funcs[f]?=some fn) :
    true=Tryz.pinned.checked.prog.looks []/\∀(j:Nat) t,fn.params[j]?=some t->Tryz.pinned.checked.prog.wantsStandIn t=false:=by
 obtain rfl:f=4:=U1x ((show prog.funcNamed "inarch/inarchlaw13.TtreesBlanks" = some 4 by kernel_rfl).symm.trans hf) |>.symm;obtain rfl:fn=Tryz.f4:=(U1x (func4.symm.trans FU)).symm;refine⟨by kernel_rfl,λ j t ht=>?_⟩;rw[params4]at ht;have hm:t∈[22,22]:=by simpa using Array.mem_of_getElem? ht
 have bz:([22,22].all λ u => !prog.wantsStandIn u)=true:=by kernel_rfl
 have:=U1g.1 bz t hm;show prog.wantsStandIn t=false;exact J15
theorem blanksCard:Rows.TtreesBlanksCardSaid :=
 Claim7.holds_tied_plain_at .later [] _ _ _ _ Oge (λ _ h=>by cases h) (by kernel_rfl) (λ _ h=>by cases h) ttreesBlanks_row_tie rfl ⟨rfl,rfl⟩ (by kernel_rfl) rfl Oe2 (by kernel_rfl)
