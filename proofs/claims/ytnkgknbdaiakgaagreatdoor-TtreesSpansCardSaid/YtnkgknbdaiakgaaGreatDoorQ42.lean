/- The proof's part 42. -/
import Derived.Test.YtnkgknbdaiakgaaGreatDoorQ41
set_option maxHeartbeats 16000000
set_option linter.all false
set_option maxRecDepth 100000
namespace Go.Proofs.YtnkgknbdaiakgaaGreatDoor
open Pl Go.Proofs.Tryz Go.RowKit Go.Shelf Go.Joins
attribute [local go_sem] U22
theorem Odq(v:Value){w:World}{base e size n:Nat}{xs:List Value}(h:w.ownsRow base e size v n xs)(W:World):Calls prog 30 #[v] W λ e w'=>e=.returned (O3 v)/\W=w':=by
 rcases O17 h with⟨rfl,_⟩|⟨g,cap,rfl,h1,h2⟩
 ·go_enter func30,ntmps30;exact J8
 have e1:(0:Int)<=(n:Int):=Ya
 go_enter func30,ntmps30;exact J8
structure Vdr(R:Nat)(iv nsv:Value)(w:World):Prop where
 c7:w.cell? ⟨R,7,none⟩=some iv
 c8:w.cell? ⟨R,8,none⟩=some nsv
theorem Ol9(Tb:Nat->UInt8×UInt8)(w:World)(bU:RW Tb w)(s:ByteArray)(hs:s.size<=20000000)(ba:Option Addr)(bn bc:Nat)(dO:∀W,Gr w W->(convert 22 9 (.slice ba bn bc)).run prog W=.ok (.string s) W)(g:Vb)(hX:V1e ⟨Vi Tb,Ve⟩ (bs s)=.ok g):Calls prog 12 #[.slice ba bn bc] w λ e w'=>∃iv nsv xs,e=.returned (.tuple #[O3 iv,O3 nsv])/\w'.ownsRow (w.heap.size+1) 53 9 iv g.its.length xs/\V6m xs g.its/\w'.ownsRow (w.heap.size+1) 3 1 nsv g.its.length (g.ns.map λ z=>Value.int .i64 z)/\Gr w w':=by
 have f9:=U10 (O7i Tb w bU s hs ba bn bc dO _ hX Yb);clear hX bU dO;go_enter func12,ntmps12;go_wp2_with fail;refine f9.o.mono ?_;rintro e w2 ⟨R,gn,L,he,my,pF,_,_,_,_,g2,⟨iv,nsv,xs,h7,h8,hi,hx,hn⟩,_⟩;subst he;refine Z127 ?_;intro hT g3 z3;obtain⟨W3,bH⟩:=ExZ (w2.alloc (.cells #[(0:Int),(0:Int)] 29))
 rw[bH]at hT g3 z3;have nA:=U10 bH;clear bH;go_wp2_with fail;rw[show w2.alloc (.cells #[(0:Int),(0:Int)] 29)=W3 from nA.o];refine Z190 ?_;intro w4 g4;have li:=g3.trans g4;have k7:=(li.use.1 R 7 my).trans h7;have k8:=(li.use.1 R 8 my).trans h8;have LF:=O1 hi λ k e=>li.block (hi.lt k e).2
 have LG:=O1 hn λ k e=>li.block (hn.lt k e).2
 have HI:=U10 (λ W=>Odq iv LF W);have HN:=U10 (λ W=>O5e LG W);have gE:=g2.trans li;clear h7 h8 hi hn hT
 go_upto_region 4 with fail
 have hS:Vdr R iv nsv w4.drew:=⟨k7,k8⟩
 refine Reg.begin' (W:=λ i=>true) (S:=Vdr R iv nsv) Yc ?_;refine Z32 ?_;refine Reg.ty 5 ?_;refine Reg.ty 6 ?_;refine Reg.ty 7 ?_;refine Reg.tl 3 hS ?_ (hy:=by intro w ab;obtain⟨s0,s1⟩:=ab;go_simp;try with_reducible rfl);refine Reg.tl 8 hS ?_ (hy:=by intro w ab;obtain⟨s0,s1⟩:=ab;go_simp;try with_reducible rfl);refine Reg.on 4 ?_;go_simp;refine (HI.o _).mono ?_;refine Z27 ?_;refine Reg.on 9 ?_;go_simp;refine (HN.o _).mono ?_;refine Z27 ?_;refine Z61 ?_;refine Z12 ?_;go_wp2_with fail;exact U11 (v:=.tuple #[O3 iv,O3 nsv]) (by simp[results,results12,go_sem]) rfl ⟨iv,nsv,xs,rfl,O1 LF λ k e=>(Gr.refl w4).drew.block (LF.lt k e).2,hx,O1 LG λ k e=>(Gr.refl w4).drew.block (LG.lt k e).2,gE.drew⟩
