/- The proof's part 22. -/
import Derived.Test.YtnkgknbdaiakgaaGreatDoorQ20
set_option maxHeartbeats 16000000
set_option linter.all false
set_option maxRecDepth 100000
namespace Go.Proofs.YtnkgknbdaiakgaaGreatDoor
open Pl Go.Proofs.Tryz Go.RowKit Go.Shelf Go.Joins
attribute [local go_sem] U22
namespace Pl
theorem V6q(p:UInt8->Bool)(cs:Bs)(hp:cs.contains=p):∀(l:Bs),(Lib.indexAny l cs = -1/\V5b p l=(l,[],false))\/(∃k:Nat,k<l.length/\Lib.indexAny l cs=(k:Int)/\V5b p l=(l.take k,l.drop (k+1),true)):=by
 intro l
 induction l with
 |nil=>left;exact⟨rfl,rfl⟩
 |cons b l ih =>
  cases hb:p b with
  |true =>
   right;refine⟨0,Yb,?_,?_⟩;unfold Lib.indexAny;rw[hp,hb];rfl
   unfold V5b;have h1:(b::l).dropWhile (λ c => !p c)=b::l:=by rw[U3c,U1c (by rw[hb];simp)]
   have h2:(b::l).takeWhile (λ c => !p c)=[]:=by rw[U1p,U1c (by rw[hb];simp)]
   rw[h1,h2];rfl
  |false =>
   have h1:(b::l).dropWhile (λ c => !p c)=l.dropWhile (λ c => !p c):=by rw[U3c,U1a (by rw[hb];simp)]
   have h2:(b::l).takeWhile (λ c => !p c)=b::l.takeWhile (λ c => !p c):=by rw[U1p,U1a (by rw[hb];simp)]
   have hi:Lib.indexAny (b::l) cs=if Lib.indexAny l cs == -1 then -1 else Lib.indexAny l cs+1:=by
    show (if cs.contains b then (0:Int) else _)=_;rw[hp,hb];rfl
   have hc:V5b p (b::l)=((if (V5b p l).2.2 then b::(V5b p l).1 else b::l),(V5b p l).2.1,(V5b p l).2.2):=by
    unfold V5b;rw[h1,h2];cases l.dropWhile (λ c => !p c) <;> rfl
   rcases ih with⟨h3,h4⟩|⟨k,h3,h4,h5⟩
   left;rw[hi,h3,hc,h4];exact J7
   right;refine⟨k+1,Ye,?_,?_⟩
   ·rw[hi,h4,U1c (by (simp;try omega))];simp
   rw[hc,h5];rfl
end Pl
theorem Oeg(s cs:ByteArray)(hs:s.size<=20000000)(hc:cs.size<=20)(ha:∀(j:Nat) b,s.data.toList[j]?=some b->b.toNat<128)(hb:∀(j:Nat) b,cs.data.toList[j]?=some b->b.toNat<128)(p:UInt8->Bool)(hp:(bs cs).contains=p)(w:World):Calls prog 139 #[.string s,.string cs] w λ e w'=>(∃(a b:ByteArray)(c:Bool),e=.returned (.tuple #[.string a,.string b,.bool c])/\V5b p (bs s)=(bs a,bs b,c)/\a.size<=s.size/\b.size<=s.size)/\Gr w w':=by
 have HI:=U10 (Any.strings_IndexAny_laid lays153 O48 s cs · Ya Ya ha hb);rcases V6q p (bs cs) hp (bs s) with⟨h1,h2⟩|⟨k,h0,h1,h2⟩
 ·have HN:Hid (Lib.indexAny s.data.toList cs.data.toList = -1):=U10 h1;have H2:=U10 h2;clear ha hb hp h1 h2;go_enter func139,ntmps139;go_wp2_with (go_at_call 173;refine (HI.o _).mono ?_;rw[HN.o];rintro e w1 ⟨rfl,g1⟩);exact U11 (v:=.tuple #[.string s,.string ⟨#[]⟩,.bool false]) (by simp[results,results139,go_sem]) rfl ⟨⟨s,⟨#[]⟩,false,rfl,H2.o,U12 _,U2u _⟩,g1⟩
 have HN:Hid (Lib.indexAny s.data.toList cs.data.toList=(k:Int)):=U10 h1;have H2:=U10 h2;rw[O0]at h0;have e1:decide ((k:Int)<0)=false:=Yb;have e2:(0:Int)<=(k:Int):=Ya;have e3:(k:Int)<=(s.size:Int):=Ya;have e4:(k:Int)+1<=(s.size:Int):=Ya;have e5:(0:Int)<=(k:Int)+1:=Ya;have e6:=U1k ((k:Int)+1) ⟨Ya,Ya⟩;have e7:((k:Int)+1).toNat=k+1:=Ya;clear ha hb hp h1 h2;go_enter func139,ntmps139;go_wp2_with (go_at_call 173;refine (HI.o _).mono ?_;rw[HN.o];rintro e w1 ⟨rfl,g1⟩)
 go_quiet (fail)
 go_wp2_with fail;exact U11 (v:=.tuple #[.string (s.extract 0 k),.string (s.extract (k+1) s.size),.bool true]) (by simp[results,results139,go_sem]) rfl ⟨⟨_,_,_,rfl,by rw[H2.o,O1w,O4],by (simp;try omega),by (simp;try omega)⟩,Gr.drewN g1 _⟩
theorem Oi4(b:Nat)(x0 x1 x2 x3:Bool)(w:World)(h0:w.cell? b=some (.bool x0))(h1:w.cell? ⟨b,1,none⟩=some (.bool x1))(h2:w.cell? ⟨b,2,none⟩=some (.bool x2))(h3:w.cell? ⟨b,3,none⟩=some (.bool x3)):Calls prog 140 #[.slice b 4 4] w λ e w'=>e=.returned (.bool (x0&&x1&&x2&&x3))/\w'=w:=by
 have hx:∀j:Nat,j<4->∃x,w.cell? ⟨b,j,none⟩=some (.bool x)/\[x0,x1,x2,x3][j]?=some x:=λ j hj=>by
  match j,hj with
  |0,_=>exact⟨x0,h0,rfl⟩
  |1,_=>exact⟨x1,h1,rfl⟩
  |2,_=>exact⟨x2,h2,rfl⟩
  |3,_=>exact⟨x3,h3,rfl⟩
 have HX:=U10 hx;have HV:Hid ((x0&&x1&&x2&&x3)=[x0,x1,x2,x3].all id):=U10 (by simp[Bool.and_assoc]);obtain⟨V,hV⟩:=ExZ ((x0&&x1&&x2&&x3))
 rw[hV]at HV⊢;obtain⟨L,hL⟩:=ExZ ([x0,x1,x2,x3])
 have yH:L.length=4:=by rw[<-hL];rfl
 rw[hL]at HX HV;have Qy:=U10 yH;clear hx h0 h1 h2 h3 hV hL yH;go_enter func140,ntmps140;go_wp2_with fail
 go_loopw [7] (λ v wr=>∃k:Nat,v=.int .i64 k/\k<=4/\(L.take k).all id=true/\wr=w) (λ v _=>4-(intOf v).toNat)
 case atStart=>exact⟨0,rfl,Ya,rfl,rfl⟩
 case round =>
  obtain⟨k,rfl,hk,aT,rfl⟩:=hrel;have HA:=U10 aT;clear aT;by_cases h4:k<4
  ·have d1:decide (k<4)=true:=by simpa using h4
   obtain⟨x,hc,hx⟩:=HX.o k h4;have k1:(0:Int)<=(k:Int):=Ya;have k2:(k:Int)<4:=Ya;refine Z264 ?_;intro k3;have HH:=U10 hx;clear hx;cases x with
   |true =>
    go_wp2_with fail;refine⟨⟨k+1,Yb,Ya,?_,U3f⟩,by simp[intOf];omega⟩;rw[List.take_add_one,HH.o];simp[HA.o]
   |false =>
    have hV:V=false:=by rw[HV.o,List.all_eq_false];exact⟨false,U2p HH.o,Yb⟩
    subst hV;exact J13
  obtain rfl:k=4:=Ya;have hV:V=true:=by rw[HV.o,<-HA.o,List.take_of_length_le (by rw[Qy.o];omega)]
  subst hV;exact J13
theorem Ofo(s:ByteArray)(hs:s.size<=20000000)(w:World):Calls prog 142 #[.string s] w λ e w'=>e=.returned (.bool (V13 (bs V2y).contains (bs s)))/\Gr w w':=by
 refine (U3x (n:=6)).1 ?_;refine callsIn_of_wp_marks func142 rfl U3f ?_ rfl;simp only[ntmps142,List.size_toArray,U1d,U1q,Nat.reduceAdd,Nat.reduceSub,Array.replicate_succ,Array.replicate_zero,List.push_toArray,List.append_toArray,U2l,U1o]
 gi_wp2_with (refine⟨U3f,?_⟩;gi_at_call 166;refine (U3x.2 (Ods s _)).mono ?_;rintro e w' ⟨rfl,rfl⟩)
 obtain⟨W0,aI⟩:=ExZ (((((w.alloc (.cells #[.bool false] 4)).alloc (.cells #[.string s] 9)).alloc (.cells #[.string ⟨#[95]⟩] 9)).alloc (.cells #[(0:Int)] 3)))
 have dc:W0.heap.size=w.heap.size+1+1+1+1:=by rw[<-aI];simp only[U1s]
 have eV:Gr w W0:=by rw[<-aI];exact ((((Gr.refl w).alloc _).alloc _).alloc _).alloc _
 have b1:W0.heap[w.heap.size]?=some (.cells #[.bool false] 4 (0,0)):=by
  rw[<-aI];exact ((((Gr.refl (w.alloc _)).alloc _).alloc _).alloc _).block Yb |>.trans (U1w w _)
 have b2:W0.heap[w.heap.size+1]?=some (.cells #[.string s] 9 (0,0)):=by
  rw[<-aI];refine (((Gr.refl ((w.alloc _).alloc _)).alloc _).alloc _).block Yb |>.trans ?_;have:=U1w (w.alloc (.cells #[.bool false] 4)) (.cells #[.string s] 9);exact J15
 have b3:W0.heap[w.heap.size+1+1]?=some (.cells #[.string ⟨#[95]⟩] 9 (0,0)):=by
  rw[<-aI];refine ((Gr.refl (((w.alloc _).alloc _).alloc _)).alloc _).block Yb |>.trans ?_;have:=U1w ((w.alloc (.cells #[.bool false] 4)).alloc (.cells #[.string s] 9)) (.cells #[.string ⟨#[95]⟩] 9);exact J15
 have b4:W0.heap[w.heap.size+1+1+1]?=some (.cells #[(0:Int)] 3 (0,0)):=by
  rw[<-aI];have:=U1w (((w.alloc (.cells #[.bool false] 4)).alloc (.cells #[.string s] 9)).alloc (.cells #[.string ⟨#[95]⟩] 9)) (.cells #[(0:Int)] 3);exact J15
 rw[aI];clear aI;have vW:=U10 b4;clear b4;refine O9f (C:=λ r=>r=w.heap.size+1+1\/r=w.heap.size+1\/r=w.heap.size+1+1+1) (by rintro r (rfl|rfl|rfl) <;> omega) rfl Ya (gf:=206) (lb:=#[.pointer (some ⟨w+1+1,0,none⟩),.pointer (some ⟨w+1,0,none⟩),.pointer (some ⟨w+1+1+1,0,none⟩)]) rfl U3f (enters_of func206 Yc rfl)
  (O9g 5 Ya (w.heap.size+1+1) (w.heap.size+1) (w.heap.size+1+1+1) s hs W0 Ya Ya b3 b2 vW.o) (λ _=>rfl)
  (λ pre W=>(∀p∈pre,O1g V2y p.1)/\W.heap[w.heap.size]?=some (.cells #[.bool false] 4 (0,0))/\W0.heap.size<=W.heap.size/\Below w w W)
  (λ c pre W=>c=.ret/\(∃p∈pre,¬O1g V2y p.1)/\W.heap[w.heap.size]?=some (.cells #[.bool false] 4 (0,0))/\Below w w W)
  (λ pre A B row hs hg hr=>⟨hs.1,O2h (w:=w) hs.2.1 Ya Ya hg hr,U1l hs.2.2.1 hg.size,O37 (by rintro r (rfl|rfl|rfl) <;> omega) Ya hs.2.2.2 hg hr⟩)
  (λ c pre A B row hs hg hr=>⟨hs.1,hs.2.1,O2h (w:=w) hs.2.2.1 Ya Ya hg hr,O37 (by rintro r (rfl|rfl|rfl) <;> omega) Ya hs.2.2.2 hg hr⟩)
  ⟨λ p hp=>(by cases hp),b1,U12 _,eV⟩
  (λ x:V4u s.size=>{ tmps:=#[.string s,undef,.pointer (some ⟨w,0,none⟩),.string x.1,.string s,.func (.func 206) #[] #[.pointer (some ⟨w+1+1,0,none⟩),.pointer (some ⟨w+1,0,none⟩),.pointer (some ⟨w+1+1+1,0,none⟩)],.string x.1,undef,undef,undef,undef,undef,undef,undef],defers:=[] }) ?assign ?body ?done ?stop
 case assign =>
  intro l x W K hK
  gi_wp2
  exact hK
 case body =>
  rintro l pre ⟨x,mw⟩ W ⟨cT,bJ,Cf,hB⟩ ap;dsimp only;have kr:W.cell? w=some (.bool false):=by rw[cell_of_block bJ];rfl
  have kf:W.frozen? w=false:=unfrozen_of_block bJ 0;by_cases hx:x.toList=[]
  have gv:¬O1g V2y x:=λ h=>h.1 hx
  have HB:=U10 gv;obtain rfl:x=⟨#[]⟩:=by
   apply U30;apply U2q.1;rw[<-U21];exact hx
  clear gv hx
  gi_wp2_with fail
  refine⟨U3f,?_⟩
  gi_wp2_with fail
  refine⟨KeepsOthers.setCell _ _ _,rfl,⟨(⟨⟨#[]⟩,mw⟩:V4u s.size),Yb,HB.o⟩,?_,hB.setCell (p:=w) Yb _⟩;have:=block_setCell (i:=0) bJ (.bool false);exact J5
  have he:x.toList.isEmpty=false:=by simpa using hx
  have AI:x.size<=20000000:=Ya;obtain⟨b,hb⟩:=ExZ (((bs x).all λ c=>(bs V2y).contains c))
  have HT:=U10 (Oaz x V2y AI Yd (ascii_of_all Yd) b hb);have HX:=U10 hx;have vX:=U10 hb;clear hb hx;cases b with
  |true =>
   have Cg:O1g V2y x:=⟨HX.o,vX.o⟩
   have HG:Hid (∀p∈pre++[(⟨x,mw⟩:V4u s.size)],O1g V2y p.1):=λ p hp=>by
    rcases U29.1 hp with hp|hp
    exact cT p hp
    rw[U20]at hp;rw[hp];exact Cg
   clear Cg cT
   gi_wp2_with (refine⟨U3f,?_⟩;gi_at_call 167;refine (CallsIn.inRound l (U3x.2 (HT.o _))).mono ?_;rintro e w1 ⟨⟨t,rfl,t1,t2,t3⟩,g1⟩;have t4:=t2 rfl;clear t2 t3)
   refine⟨KeepsOthers.of_gr g1,λ r hr=>g1.block (by rcases hr with rfl|rfl|rfl <;> omega),HG.o,(g1.block Ya).trans bJ,U1l Cf g1.size,hB.trans (Below.mono g1 hB.size)⟩
  |false =>
   have HB:Hid (¬O1g V2y x):=λ h=>by have:=h.2;rw[vX.o]at this;cases this
   clear cT
   gi_wp2_with (refine⟨U3f,?_⟩;gi_at_call 167;refine (CallsIn.inRound l (U3x.2 (HT.o _))).mono ?_;rintro e w1 ⟨⟨t,rfl,t1,t2,t3⟩,g1⟩;have t4:=t3 rfl;clear t2 t3;have Qc:w1.cell? w=some (.bool false):=(g1.use.1 _ _ Ya).trans kr;have Qd:w1.frozen? w=false:=(g1.use.2.1 _ _ Ya).trans kf)
   refine⟨(KeepsOthers.of_gr g1).trans (KeepsOthers.setCell _ _ _),rfl,⟨(⟨x,mw⟩:V4u s.size),Yb,HB.o⟩,?_,(hB.trans (Below.mono g1 hB.size)).setCell (p:=w) Yb _⟩;have:=block_setCell (i:=0) ((g1.block Ya).trans bJ) (.bool false);exact J5
 case done =>
  rintro D ys W hD Ch ⟨cT,bJ,Cf,hB⟩ hK;have du:V13 (bs V2y).contains (bs s)=true:=(O9h V2y s ys Ch).2 cT;have kr:W.cell? w=some (.bool false):=by rw[cell_of_block bJ];rfl
  have kf:W.frozen? w=false:=unfrozen_of_block bJ 0;have HV:=U10 du;clear cT du Ch
  gi_wp2
  have yz:=(KeepsOthers.setCell W ⟨w,0,none⟩ (.bool true)).same D _ hK rfl;refine⟨Yb,.inl ⟨_,_,rfl,run_takeDeferred yz,?_⟩⟩;have oO:=cell_kept (U2v W ⟨w,0,none⟩ (.bool true) (by rw[kr];rfl)) (grownBy_putObj' _ D (.deferred none)) (λ r e=>by cases e;exact⟨_,yz,rfl⟩);refine⟨.bool true,?_,by rw[HV.o],(hB.setCell (p:=w) Yb _).trans (belowK_b (w:=w) (U12 _) _ D _ _ Ya yz rfl rfl)⟩;simp[results,f142,go_sem,oO]
 case stop =>
  rintro D c pre W hD ⟨yv,qt⟩ ⟨rfl,⟨p,hp,gv⟩,bJ,hB⟩ hK;have du:V13 (bs V2y).contains (bs s)=false:=O9i V2y s pre yv qt p hp gv;have kr:W.cell? w=some (.bool false):=by rw[cell_of_block bJ];rfl
  have HV:=U10 du;clear gv du qt hp
  gi_wp2
  refine Z177 ?_;intro oO;simp[results,f142,go_sem,oO]
theorem O40(s:ByteArray)(hs:s.size<=20000000)(w:World):Calls prog 142 #[.string s] w λ e w'=>e=.returned (.bool (V13 O2 (bs s)))/\Gr w w':=by
 have h:=Ofo s hs w;rw[show (bs V2y).contains=O2 from funext V74]at h;exact h
