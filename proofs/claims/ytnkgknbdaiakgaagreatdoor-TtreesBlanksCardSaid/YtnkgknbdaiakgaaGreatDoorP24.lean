/- The proof's part 24. -/
import Derived.Test.YtnkgknbdaiakgaaGreatDoorP21
set_option maxHeartbeats 16000000
set_option linter.all false
set_option maxRecDepth 100000
namespace Go.Proofs.YtnkgknbdaiakgaaGreatDoor
open Pl Go.Proofs.Tryz Go.RowKit Go.Shelf Go.Joins
attribute [local go_sem] Uy
namespace Pl
theorem V6r(p:UInt8->Bool)(cs:Bs)(hp:cs.contains=p):∀(l:Bs),(Lib.indexAny l cs = -1/\V5j p l=(l,[],false))\/(∃k:Nat,k<l.length/\Lib.indexAny l cs=(k:Int)/\V5j p l=(l.take k,l.drop (k+1),true)):=by
 intro l
 induction l with
 |nil=>left;exact⟨rfl,rfl⟩
 |cons b l ih =>
  cases hb:p b with
  |true =>
   right;refine⟨0,by simp,?_,?_⟩;unfold Lib.indexAny;rw[hp,hb];rfl
   unfold V5j;have h1:(b::l).dropWhile (λ c => !p c)=b::l:=by rw[U2c,Ud (by rw[hb];simp)]
   have h2:(b::l).takeWhile (λ c => !p c)=[]:=by rw[Uo,Ud (by rw[hb];simp)]
   rw[h1,h2];rfl
  |false =>
   have h1:(b::l).dropWhile (λ c => !p c)=l.dropWhile (λ c => !p c):=by rw[U2c,Ua (by rw[hb];simp)]
   have h2:(b::l).takeWhile (λ c => !p c)=b::l.takeWhile (λ c => !p c):=by rw[Uo,Ua (by rw[hb];simp)]
   have hi:Lib.indexAny (b::l) cs=if Lib.indexAny l cs == -1 then -1 else Lib.indexAny l cs+1:=by
    show (if cs.contains b then (0:Int) else _)=_;rw[hp,hb];rfl
   have hc:V5j p (b::l)=((if (V5j p l).2.2 then b::(V5j p l).1 else b::l),(V5j p l).2.1,(V5j p l).2.2):=by
    unfold V5j;rw[h1,h2];cases l.dropWhile (λ c => !p c) <;> rfl
   rcases ih with⟨h3,h4⟩|⟨k,h3,h4,h5⟩
   left;rw[hi,h3,hc,h4];exact J9
   right;refine⟨k+1,by simp;omega,?_,?_⟩
   ·rw[hi,h4,Ud (by (simp;try omega))];simp
   rw[hc,h5];rfl
end Pl
theorem Oeg(s cs:ByteArray)(hs:s.size<=20000000)(hc:cs.size<=20)(ha:∀(j:Nat) b,s.data.toList[j]?=some b->b.toNat<128)(hb:∀(j:Nat) b,cs.data.toList[j]?=some b->b.toNat<128)
    (p:UInt8->Bool)(hp:(bs cs).contains=p)(w:World) :
    Calls prog 139 #[.string s,.string cs] w λ e w'=>(∃(a b:ByteArray)(c:Bool),e = .returned (.tuple #[.string a,.string b,.bool c])/\V5j p (bs s)=(bs a,bs b,c)/\a.size<=s.size/\b.size<=s.size)/\Gr w w':=by
 have HI:=U0 (Any.strings_IndexAny_laid lays153 O4a s cs · (by omega) (by omega) ha hb);rcases V6r p (bs cs) hp (bs s) with⟨h1,h2⟩|⟨k,h0,h1,h2⟩
 ·have HN:Hid (Lib.indexAny s.data.toList cs.data.toList = -1):=U0 h1;have H2:=U0 h2;clear ha hb hp h1 h2;go_enter func139,ntmps139;go_wp2_with (go_at_call 173;refine (HI.o _).mono ?_;rw[HN.o];rintro e w1 ⟨rfl,g1⟩);exact U1 (v := .tuple #[.string s,.string ⟨#[]⟩,.bool false]) (by simp[results,results139,go_sem]) rfl ⟨⟨s,⟨#[]⟩,false,rfl,H2.o,U2 _,U1p _⟩,g1⟩
 have HN:Hid (Lib.indexAny s.data.toList cs.data.toList=(k:Int)):=U0 h1;have H2:=U0 h2;rw[O0]at h0;have e1:decide ((k:Int)<0)=false:=by simp
 have e2:(0:Int)<=(k:Int):=by omega
 have e3:(k:Int)<=(s.size:Int):=by omega
 have e4:(k:Int)+1<=(s.size:Int):=by omega
 have e5:(0:Int)<=(k:Int)+1:=by omega
 have e6:=Uk ((k:Int)+1) ⟨by omega,by omega⟩;have e7:((k:Int)+1).toNat=k+1:=by omega
 clear ha hb hp h1 h2;go_enter func139,ntmps139;go_wp2_with (go_at_call 173;refine (HI.o _).mono ?_;rw[HN.o];rintro e w1 ⟨rfl,g1⟩)
 go_quiet (fail)
 go_wp2_with fail;exact U1 (v := .tuple #[.string (s.extract 0 k),.string (s.extract (k+1) s.size),.bool true]) (by simp[results,results139,go_sem]) rfl ⟨⟨_,_,_,rfl,by rw[H2.o,O1y,O3],by (simp;try omega),by (simp;try omega)⟩,Gr.drewN g1 _⟩
theorem Oh8(b:Nat)(x0 x1 x2 x3:Bool)(w:World)(h0:w.cell? ⟨b,0,none⟩=some (.bool x0))(h1:w.cell? ⟨b,1,none⟩=some (.bool x1))(h2:w.cell? ⟨b,2,none⟩=some (.bool x2))(h3:w.cell? ⟨b,3,none⟩=some (.bool x3)) :
    Calls prog 140 #[.slice (some ⟨b,0,none⟩) 4 4] w λ e w'=>e = .returned (.bool (x0&&x1&&x2&&x3))/\w'=w:=by
 have hx:∀j:Nat,j<4->∃x,w.cell? ⟨b,j,none⟩=some (.bool x)/\[x0,x1,x2,x3][j]?=some x:=λ j hj=>by
  match j,hj with
  |0,_=>exact⟨x0,h0,rfl⟩
  |1,_=>exact⟨x1,h1,rfl⟩
  |2,_=>exact⟨x2,h2,rfl⟩
  |3,_=>exact⟨x3,h3,rfl⟩
 have HX:=U0 hx;have HV:Hid ((x0&&x1&&x2&&x3)=[x0,x1,x2,x3].all id):=U0 (by simp[Bool.and_assoc]);obtain⟨V,hV⟩:=ExZ ((x0&&x1&&x2&&x3))
 rw[hV]at HV⊢;obtain⟨L,hL⟩:=ExZ ([x0,x1,x2,x3])
 have uX:L.length=4:=by rw[<-hL];rfl
 rw[hL]at HX HV;have P4:=U0 uX;clear hx h0 h1 h2 h3 hV hL uX;go_enter func140,ntmps140;go_wp2_with fail
 go_loopw [7] (λ v wr=>∃k:Nat,v = .int .i64 k/\k<=4/\(L.take k).all id=true/\wr=w) (λ v _=>4-(intOf v).toNat)
 case atStart=>exact⟨0,rfl,by omega,rfl,rfl⟩
 case round =>
  obtain⟨k,rfl,hk,bz,rfl⟩:=hrel;have HA:=U0 bz;clear bz;by_cases h4:k<4
  ·have d1:decide (k<4)=true:=by simpa using h4
   obtain⟨x,hc,hx⟩:=HX.o k h4;have k1:(0:Int)<=(k:Int):=by omega
   have k2:(k:Int)<4:=by omega
   have k3:IntKind.i64.wrap ((k:Int)+1)=(k:Int)+1:=Uk _ ⟨by omega,by omega⟩;have HH:=U0 hx;clear hx;cases x with
   |true =>
    go_wp2_with fail;refine⟨⟨k+1,by simp,by omega,?_,U2d⟩,by simp[intOf];omega⟩;rw[List.take_add_one,HH.o];simp[HA.o]
   |false =>
    have hV:V=false:=by rw[HV.o,List.all_eq_false];exact⟨false,U1r HH.o,by simp⟩
    subst hV;exact J10
  obtain rfl:k=4:=by omega
  have hV:V=true:=by rw[HV.o,<-HA.o,U24 (by rw[P4.o];omega)]
  subst hV;exact J10
theorem Ofc(s:ByteArray)(hs:s.size<=20000000)(w:World) :
    Calls prog 142 #[.string s] w λ e w'=>e = .returned (.bool (Vx (bs V31).contains (bs s)))/\Gr w w':=by
 refine (U2x (n:=6)).1 ?_;refine callsIn_of_wp_marks func142 rfl U2d ?_ rfl;simp only[ntmps142,List.size_toArray,Ub,Ur,Nat.reduceAdd,Nat.reduceSub,Array.replicate_succ,Array.replicate_zero,List.push_toArray,List.append_toArray,U1c,Un]
 gi_wp2_with (refine⟨U2d,?_⟩;gi_at_call 166;refine (U2x.2 (Oe6 s _)).mono ?_;rintro e w' ⟨rfl,rfl⟩)
 obtain⟨W0,aM⟩:=ExZ (((((w.alloc (.cells #[.bool false] 4)).alloc (.cells #[.string s] 9)).alloc (.cells #[.string ⟨#[95]⟩] 9)).alloc (.cells #[(0:Int)] 3)))
 have d5:W0.heap.size=w.heap.size+1+1+1+1:=by rw[<-aM];simp only[Uv]
 have eR:Gr w W0:=by rw[<-aM];exact ((((Gr.refl w).alloc _).alloc _).alloc _).alloc _
 have b1:W0.heap[w.heap.size]?=some (.cells #[.bool false] 4 (0,0)):=by
  rw[<-aM];exact ((((Gr.refl (w.alloc _)).alloc _).alloc _).alloc _).block (by simp) |>.trans (U10 w _)
 have b2:W0.heap[w.heap.size+1]?=some (.cells #[.string s] 9 (0,0)):=by
  rw[<-aM];refine (((Gr.refl ((w.alloc _).alloc _)).alloc _).alloc _).block (by simp) |>.trans ?_;have:=U10 (w.alloc (.cells #[.bool false] 4)) (.cells #[.string s] 9);exact J43
 have b3:W0.heap[w.heap.size+1+1]?=some (.cells #[.string ⟨#[95]⟩] 9 (0,0)):=by
  rw[<-aM];refine ((Gr.refl (((w.alloc _).alloc _).alloc _)).alloc _).block (by simp) |>.trans ?_;have:=U10 ((w.alloc (.cells #[.bool false] 4)).alloc (.cells #[.string s] 9)) (.cells #[.string ⟨#[95]⟩] 9);exact J43
 have b4:W0.heap[w.heap.size+1+1+1]?=some (.cells #[(0:Int)] 3 (0,0)):=by
  rw[<-aM];have:=U10 (((w.alloc (.cells #[.bool false] 4)).alloc (.cells #[.string s] 9)).alloc (.cells #[.string ⟨#[95]⟩] 9)) (.cells #[(0:Int)] 3);exact J43
 rw[aM];clear aM;have uS:=U0 b4;clear b4;refine O9t (C:=λ r=>r=w.heap.size+1+1\/r=w.heap.size+1\/r=w.heap.size+1+1+1) (by rintro r (rfl|rfl|rfl) <;> omega) rfl (by omega) (gf:=206) (lb:=#[.pointer (some ⟨w.heap.size+1+1,0,none⟩),.pointer (some ⟨w.heap.size+1,0,none⟩),.pointer (some ⟨w.heap.size+1+1+1,0,none⟩)]) rfl U2d (enters_of func206 (by kernel_rfl) rfl)
  (O9u 5 (by omega) (w.heap.size+1+1) (w.heap.size+1) (w.heap.size+1+1+1) s hs W0 (by omega) (by omega) b3 b2 uS.o) (λ _=>rfl)
  (λ pre W=>(∀p∈pre,O1g V31 p.1)/\W.heap[w.heap.size]?=some (.cells #[.bool false] 4 (0,0))/\W0.heap.size<=W.heap.size/\Below w.heap.size w W)
  (λ c pre W=>c = .ret/\(∃p∈pre,¬O1g V31 p.1)/\W.heap[w.heap.size]?=some (.cells #[.bool false] 4 (0,0))/\Below w.heap.size w W)
  (λ pre A B dP hs hg hr=>⟨hs.1,O2j (w:=w) hs.2.1 (by omega) (by omega) hg hr,Uj hs.2.2.1 hg.size,O37 (by rintro r (rfl|rfl|rfl) <;> omega) (by omega) hs.2.2.2 hg hr⟩)
  (λ c pre A B dP hs hg hr=>⟨hs.1,hs.2.1,O2j (w:=w) hs.2.2.1 (by omega) (by omega) hg hr,O37 (by rintro r (rfl|rfl|rfl) <;> omega) (by omega) hs.2.2.2 hg hr⟩)
  ⟨λ p hp=>(by cases hp),b1,U2 _,eR⟩
  (λ x:V4z s.size=>{ tmps:=#[.string s,undef,.pointer (some ⟨w.heap.size,0,none⟩),.string x.1,.string s,.func (.func 206) #[] #[.pointer (some ⟨w.heap.size+1+1,0,none⟩),.pointer (some ⟨w.heap.size+1,0,none⟩),.pointer (some ⟨w.heap.size+1+1+1,0,none⟩)],.string x.1,undef,undef,undef,undef,undef,undef,undef],defers:=[] }) ?assign ?body ?done ?stop
 case assign =>
  intro l x W K hK
  gi_wp2
  exact hK
 case body =>
  rintro l pre ⟨x,nX⟩ W ⟨cT,bA,Bl,hB⟩ ao;dsimp only;have kr:W.cell? ⟨w.heap.size,0,none⟩=some (.bool false):=by rw[cell_of_block bA];rfl
  have kf:W.frozen? ⟨w.heap.size,0,none⟩=false:=unfrozen_of_block bA 0;by_cases hx:x.toList=[]
  have gm:¬O1g V31 x:=λ h=>h.1 hx
  have HB:=U0 gm;obtain rfl:x=⟨#[]⟩:=by
   apply U1y;apply U21.1;rw[<-Uz];exact hx
  clear gm hx
  gi_wp2_with fail
  refine⟨U2d,?_⟩
  gi_wp2_with fail
  refine⟨KeepsOthers.setCell _ _ _,rfl,⟨(⟨⟨#[]⟩,nX⟩:V4z s.size),by simp,HB.o⟩,?_,hB.setCell (p:=⟨w.heap.size,0,none⟩) (by simp) _⟩;have:=block_setCell (i:=0) bA (.bool false);exact J15
  have he:x.toList.isEmpty=false:=by simpa using hx
  have zT:x.size<=20000000:=by omega
  obtain⟨b,hb⟩:=ExZ (((bs x).all λ c=>(bs V31).contains c))
  have HT:=U0 (Obp x V31 zT (by decide) (ascii_of_all (by decide)) b hb);have HX:=U0 hx;have zU:=U0 hb;clear hb hx;cases b with
  |true =>
   have Bm:O1g V31 x:=⟨HX.o,zU.o⟩
   have HG:Hid (∀p∈pre++[(⟨x,nX⟩:V4z s.size)],O1g V31 p.1):=λ p hp=>by
    rcases U1t.1 hp with hp|hp
    exact cT p hp
    rw[U13]at hp;rw[hp];exact Bm
   clear Bm cT
   gi_wp2_with (refine⟨U2d,?_⟩;gi_at_call 167;refine (CallsIn.inRound l (U2x.2 (HT.o _))).mono ?_;rintro e w1 ⟨⟨t,rfl,t1,t2,t3⟩,g1⟩;have t4:=t2 rfl;clear t2 t3)
   refine⟨KeepsOthers.of_gr g1,λ r hr=>g1.block (by rcases hr with rfl|rfl|rfl <;> omega),HG.o,(g1.block (by omega)).trans bA,Uj Bl g1.size,hB.trans (Below.mono g1 hB.size)⟩
  |false =>
   have HB:Hid (¬O1g V31 x):=λ h=>by have:=h.2;rw[zU.o]at this;cases this
   clear cT
   gi_wp2_with (refine⟨U2d,?_⟩;gi_at_call 167;refine (CallsIn.inRound l (U2x.2 (HT.o _))).mono ?_;rintro e w1 ⟨⟨t,rfl,t1,t2,t3⟩,g1⟩;have t4:=t3 rfl;clear t2 t3;have OJ:w1.cell? ⟨w.heap.size,0,none⟩=some (.bool false):=(g1.use.1 _ _ (by omega)).trans kr;have OK:w1.frozen? ⟨w.heap.size,0,none⟩=false:=(g1.use.2.1 _ _ (by omega)).trans kf)
   refine⟨(KeepsOthers.of_gr g1).trans (KeepsOthers.setCell _ _ _),rfl,⟨(⟨x,nX⟩:V4z s.size),by simp,HB.o⟩,?_,(hB.trans (Below.mono g1 hB.size)).setCell (p:=⟨w.heap.size,0,none⟩) (by simp) _⟩;have:=block_setCell (i:=0) ((g1.block (by omega)).trans bA) (.bool false);exact J15
 case done =>
  rintro D ys W hD Bn ⟨cT,bA,Bl,hB⟩ hK;have db:Vx (bs V31).contains (bs s)=true:=(O9v V31 s ys Bn).2 cT;have kr:W.cell? ⟨w.heap.size,0,none⟩=some (.bool false):=by rw[cell_of_block bA];rfl
  have kf:W.frozen? ⟨w.heap.size,0,none⟩=false:=unfrozen_of_block bA 0;have HV:=U0 db;clear cT db Bn
  gi_wp2
  have xp:=(KeepsOthers.setCell W ⟨w.heap.size,0,none⟩ (.bool true)).same D _ hK rfl;refine⟨by simp,.inl ⟨_,_,rfl,run_takeDeferred xp,?_⟩⟩;have sb:=cell_kept (U1u W ⟨w.heap.size,0,none⟩ (.bool true) (by rw[kr];rfl)) (grownBy_putObj' _ D (.deferred none)) (λ r e=>by cases e;exact⟨_,xp,rfl⟩);refine⟨.bool true,?_,by rw[HV.o],(hB.setCell (p:=⟨w.heap.size,0,none⟩) (by simp) _).trans (belowK_b (w:=w) (U2 _) _ D _ _ (by omega) xp rfl rfl)⟩;simp[results,f142,go_sem,sb]
 case stop =>
  rintro D c pre W hD ⟨xd,pA⟩ ⟨rfl,⟨p,hp,gm⟩,bA,hB⟩ hK;have db:Vx (bs V31).contains (bs s)=false:=O9w V31 s pre xd pA p hp gm;have kr:W.cell? ⟨w.heap.size,0,none⟩=some (.bool false):=by rw[cell_of_block bA];rfl
  have HV:=U0 db;clear gm db pA hp
  gi_wp2
  refine Z175 ?_;intro sb;simp[results,f142,go_sem,sb]
theorem O3w(s:ByteArray)(hs:s.size<=20000000)(w:World):Calls prog 142 #[.string s] w λ e w'=>e = .returned (.bool (Vx O2 (bs s)))/\Gr w w':=by
 have h:=Ofc s hs w;rw[show (bs V31).contains=O2 from funext V75]at h;exact h
end Go.Proofs.YtnkgknbdaiakgaaGreatDoor
namespace Go.Proofs.YtnkgknbdaiakgaaGreatDoor
open Pl Go.Proofs.Tryz Go.RowKit Go.Shelf Go.Joins
theorem Omd(s:ByteArray)(hs:s.size<=20000000)(w:World)(hw:V3z w):Calls prog 144 #[.string s] w λ e w'=>Ol (V13 (bs s)) e/\Gr w w':=by
 have hx:V13 (bs s)=V13 (bs s):=rfl;have sE:=V81 s.size (bs s) (by rw[O0];exact U2 _);have HE:=U0 sE;have HW:=U0 hw;clear hx sE hw;go_enter func144,ntmps144;go_wp2_with fail;refine (Ojm s hs _).mono ?_;rintro e w1 ⟨hp,g1⟩;cases hd:V3t s.size (bs s) with
 |none =>
  unfold O1s at hp;rw[hd]at hp;obtain⟨b0,b5,b6,a1,a2,a3,a4,rfl⟩:=hp;have HX:Hid (V13 (bs s) = .bad 3 0):=U0 (by unfold V13;rw[HE.o,hd];rfl);clear hd;go_wp2_with fail;exact U1 (v := .tuple #[.string ⟨#[]⟩,(3:Int)]) (by simp[results,results144,go_sem]) rfl ⟨O1l HX.o,Gr.auto⟩
 |some d =>
  unfold O1s at hp;rw[hd]at hp;obtain⟨b5,b6,a1,a2,a3,a4,rfl,h1,h2,h3,h4⟩:=hp;obtain⟨ao,lm⟩:=V7o _ _ _ hd;rw[<-h1,<-h2,<-h4,O0,O0,O0,O0]at ao;rw[<-h4]at lm;have HX:Hid (V50 (bs s)=some ⟨d.minus,bs a1,bs a2,decide (bs a3=[45]),bs a4⟩):=U0 (by rw[HE.o,hd,h1,h2,h3,h4];rfl);have HN:=U0 (λ W=>Oh2 d.minus b5 b6 a1 a2 a3 a4 (by omega) lm W);obtain⟨m,hm⟩:=ExZ (d.minus)
  rw[hm]at HX HN⊢;clear hd h1 h2 h3 h4 lm hm;go_wp2_with fail;refine (HN.o _).mono ?_;rintro e w2 ⟨hq,g2⟩;have bC:Gr w w2:=(g1.alloc _).trans g2;have c0:w2.cell? ⟨w1.heap.size,0,none⟩=some (.bool m):=(g2.use.1 _ _ (by simp)).trans (by simp);have c1:w2.cell? ⟨w1.heap.size,1,none⟩=some (.string a1):=(g2.use.1 _ _ (by simp)).trans (by simp);have c2:w2.cell? ⟨w1.heap.size,2,none⟩=some (.string a2):=(g2.use.1 _ _ (by simp)).trans (by simp);clear g2;cases hn:V4m (decide (bs a3=[45])) (bs a4) with
  |none =>
   unfold O6l at hq;rw[hn]at hq;obtain⟨n,rfl⟩:=hq;have HY:Hid (V13 (bs s) = .bad 7 0):=U0 (by unfold V13;rw[HX.o];simp only;rw[hn]);clear hn;go_wp2_with fail;exact U1 (v := .tuple #[.string ⟨#[]⟩,(7:Int)]) (by simp[results,results144,go_sem]) rfl ⟨O1l HY.o,bC⟩
  |some n =>
   unfold O6l at hq;rw[hn]at hq;have he:e = .returned (.tuple #[n,.bool true]):=hq;clear hq;subst he;obtain⟨mY,nN⟩:=V83 _ _ _ hn;obtain⟨S,hS⟩:∃S:ByteArray,a1++a2=S:=⟨_,rfl⟩
   have GL:bs S=bs a1++bs a2:=by rw[<-hS];simp[bs,U1n]
   have Gn:S.size<=20000000:=by rw[<-O0,GL,Ug,O0,O0];omega
   have Ec:¬ 9223372036854775807<a1.size+a2.size:=by omega
   have fZ:=Uk (n-(a2.size:Int)) ⟨by omega,by omega⟩;have Ln:=U0 (λ W=>Oh3 m S (n-(a2.size:Int)) Gn ⟨by omega,by omega⟩ W);have hY:V13 (bs s)=(if Vk (Vh (bs S))=[] then .ok [48] else if V2w (O28 (bs S) (n-(a2.size:Int)))=true then .ok (O6m m (Vk (Vh (bs S))) (O28 (bs S) (n-(a2.size:Int)))) else .bad 7 0):=by
    unfold V13;rw[HX.o];simp only;rw[hn];simp only;rw[<-GL];by_cases ln:Vk (Vh (bs S))=[];rw[Ua ln,Ua ln]
    rw[Ud ln,Ud ln];unfold O28 O6m;rw[Ud ln,O0]
   have HY:=U0 hY;have hE : -9223372036854775808<=O28 (bs S) (n-(a2.size:Int))/\O28 (bs S) (n-(a2.size:Int))<=9223372036854775807:=by
    unfold O28;have h5:=V51 (bs S);have h6:=V40 (Vh (bs S));rw[O0]at h5
    split <;> omega
   have hL:(O4z (bs S)).length<=20000000:=by
    unfold O4z;have h5:=V51 (bs S);have h6:=V40 (Vh (bs S));rw[O0]at h5
    split;simp
    omega
   have HL:=U0 hL;clear hn GL hY hL HN;go_wp2_with fail;refine (Ln.o _).mono ?_;rintro e w3 ⟨⟨dd,rfl,pJ⟩,g3⟩;have dh:=bC.trans g3;have HD:=U0 pJ;have GN:dd.size<=20000000:=by rw[<-O0,pJ];exact HL.o
   clear pJ g3 c0 c1 c2 bC Ln HL;by_cases ln:Vk (Vh (bs S))=[]
   ·have h1:O4y m (bs S)=false:=by unfold O4y;rw[Ua ln]
    have h2:O28 (bs S) (n-(a2.size:Int))=0:=by unfold O28;rw[Ua ln]
    have h3:dd=⟨#[48]⟩:=by
     have h4:=HD.o;unfold O4z at h4;rw[Ua ln]at h4;exact U1y (U21.1 h4)
    have HZ:Hid (V13 (bs s) = .ok (bs ⟨#[48]⟩)):=U0 (by rw[HY.o,Ua ln];try rfl);rw[h1,h2];subst h3;clear ln h1 h2 hE;go_wp2_with fail;refine (O2y 0 _).mono ?_;refine Z48 ?_;have z':V2w 0=true:=by decide
    go_wp2_with fail;refine (Ojn _).mono ?_;rintro e w5 ⟨rfl,g5⟩;go_wp2_with fail;exact U1 (v := .tuple #[.string ⟨#[48]⟩,(0:Int)]) (by simp[results,results144,go_sem]) rfl ⟨O51 HZ.o,(dh.alloc _).trans g5⟩
   have h1:O4y m (bs S)=m:=by unfold O4y;rw[Ud ln]
   have pJ:bs dd=Vk (Vh (bs S)):=by
    have h4:=HD.o;unfold O4z at h4;rw[Ud ln]at h4;exact h4
   have a8:¬bs dd=[48]:=by rw[pJ];exact V74 _
   rw[h1];obtain⟨x,hx⟩:=ExZ (O28 (bs S) (n-(a2.size:Int)))
   rw[hx]at hE⊢;have hZ:V13 (bs s)=if V2w x=true then .ok (O6m m (bs dd) x) else .bad 7 0:=by rw[HY.o,Ud ln,hx,<-pJ]
   have HZ:=U0 hZ;have HT:=U0 (λ W (hW:V3z W)=>Omc m dd x GN a8 hE.1 hE.2 W hW);clear hZ hx ln h1 pJ a8 HD HY;cases Ed:V2w x with
   |false =>
    have HB:Hid (V13 (bs s) = .bad 7 0):=U0 (by rw[HZ.o,Ed];rfl);go_wp2_with fail;refine (O2y x _).mono ?_;refine Z48 ?_;go_wp2_with fail;exact U1 (v := .tuple #[.string ⟨#[]⟩,(7:Int)]) (by simp[results,results144,go_sem]) rfl ⟨O1l HB.o,dh.alloc _⟩
   |true =>
    have HB:Hid (V13 (bs s) = .ok (O6m m (bs dd) x)):=U0 (by rw[HZ.o,Ed];rfl);go_wp2_with fail;refine (O2y x _).mono ?_;refine Z48 ?_;go_wp2_with fail;refine (HT.o _ (HW.o.gr (dh.alloc _))).mono ?_;rintro e w5 ⟨⟨t,rfl,ht⟩,g5⟩;have HQ:Hid (V13 (bs s) = .ok (bs t)):=U0 (by rw[HB.o,ht]);clear ht;go_wp2_with fail;exact U1 (v := .tuple #[.string t,(0:Int)]) (by simp[results,results144,go_sem]) rfl ⟨O51 HQ.o,(dh.alloc _).trans g5⟩
end Go.Proofs.YtnkgknbdaiakgaaGreatDoor
namespace Go.Proofs.YtnkgknbdaiakgaaGreatDoor
open Pl Go.Proofs.Tryz Go.RowKit Go.Shelf Go.Joins
attribute [local go_sem] Uy
theorem O3x(b:Nat)(x0 x1 x2 x3 V:Bool)(hV:(x0&&x1&&x2&&x3)=V)(w:World)(h0:w.cell? ⟨b,0,none⟩=some (.bool x0))(h1:w.cell? ⟨b,1,none⟩=some (.bool x1))(h2:w.cell? ⟨b,2,none⟩=some (.bool x2))(h3:w.cell? ⟨b,3,none⟩=some (.bool x3)) :
    Calls prog 140 #[.slice (some ⟨b,0,none⟩) 4 4] w λ e w'=>e = .returned (.bool V)/\w'=w:=by
 subst hV;exact Oh8 b x0 x1 x2 x3 w h0 h1 h2 h3
theorem Ojo(s:ByteArray)(hs:s.size<=20000000)(w:World):Calls prog 143 #[.string s] w λ e w'=>e = .returned (.bool (Pl.power (bs s)))/\Gr w w':=by
 rcases O26 s with⟨h1,h2,h3⟩|⟨h1,h2,h3⟩
 have h4:bs s=[]:=U2l.1 h3;have HX:Hid (Pl.power (bs s)=Vx O2 (bs s)):=U0 (by unfold Pl.power;rw[h4];rfl);have HD:=U0 (O3w s hs);clear h4;exact J212
 refine Z217 ?_;intro e0 e1;have hh:=O8 s 0 e0;simp only[U1l]at hh;obtain⟨r,hr⟩:=ExZ (s.extract 1 s.size)
 have gQ:bs r=(bs s).drop 1:=by rw[<-hr,O3]
 have oe:r.size<=20000000:=by rw[<-hr];simp;omega
 have HR:=U0 (O3w r oe);have HD:=U0 (O3w s hs);have k1:(1:Int)<=(s.size:Int):=by omega
 cases hz:((s[0]'e0).toNat==43) with
 |true =>
  have z1:(((s[0]'e0).toNat:Int)==43)=true:=(V1o _ 43 _ hz).1;have HX:Hid (Pl.power (bs s)=Vx O2 (bs r)):=U0 (by
   unfold Pl.power;have:Ve Vq (bs s)=true:=by rw[hh];simp only[Ve,Vq];rw[show ((s[0]'e0).toNat==43)=true from hz];rfl
   rw[Ua this,gQ])
  clear hz hh gQ h3;exact J211
 |false =>
  have z1:(((s[0]'e0).toNat:Int)==43)=false:=(V1o _ 43 _ hz).1;cases hy:((s[0]'e0).toNat==45) with
  |true =>
   have z2:(((s[0]'e0).toNat:Int)==45)=true:=(V1o _ 45 _ hy).1;have HX:Hid (Pl.power (bs s)=Vx O2 (bs r)):=U0 (by
    unfold Pl.power;have:Ve Vq (bs s)=true:=by rw[hh];simp only[Ve,Vq];rw[show ((s[0]'e0).toNat==45)=true from hy];simp
    rw[Ua this,gQ])
   clear hz hy hh gQ h3;exact J211
  |false =>
   have z2:(((s[0]'e0).toNat:Int)==45)=false:=(V1o _ 45 _ hy).1;have HX:Hid (Pl.power (bs s)=Vx O2 (bs s)):=U0 (by
    unfold Pl.power;have:Ve Vq (bs s)=false:=by rw[hh];simp only[Ve,Vq];rw[show ((s[0]'e0).toNat==43)=false from hz,show ((s[0]'e0).toNat==45)=false from hy];rfl
    rw[Ud (by rw[this];simp)])
   clear hz hy hh gQ h3 HR;exact J212
namespace Pl
theorem V8n(p:UInt8->Bool)(l a b:Bs)(c:Bool)(h:V5j p l=(a,b,c)):∀x∈a,x∈l:=by
 unfold V5j at h
 split at h;cases h;exact λ x hx=>hx
 cases h;exact λ x hx=>(List.takeWhile_sublist _).subset hx
theorem Va6(l rest e n part:Bs)(ra pt:Bool)(h1:V5j Vs l=(rest,e,ra))(h2:V5j V2p rest=(n,part,pt))(hs:¬(V1p l≠[]/\l.length-(V34 l).length<2)) :
    V1y l=if ((pt || ra)&&V5p n&&(!pt || Vx O2 part)&&(!ra || power e))=true then V13 (Lib.trimPrefix (Vm l) [43]) else .bad 3 0:=by
 unfold V1y;rw[Ud hs,h1];simp only;rw[h2];simp only;congr 2;cases Vm l with
 |nil=>rfl
 |cons c t =>
  unfold Lib.trimPrefix Lib.hasPrefix;by_cases hc:c=43;subst hc;simp
  have:(List.isPrefixOf [43] (c::t))=false:=by simp[List.isPrefixOf];intro e;exact hc e.symm
  rw[Ud (by rw[this];simp)]
  split;rename_i sE;cases sE;exact absurd rfl hc
  rfl
theorem V85:(bs ⟨#[101,69]⟩).contains=Vs:=funext λ c=>by
 have h:∀n:Fin 256,(bs ⟨#[101,69]⟩).contains (UInt8.ofNat n.1)=Vs (UInt8.ofNat n.1):=by decide
 simpa using h ⟨c.toNat,UInt8.toNat_lt c⟩
theorem V99:(bs ⟨#[46]⟩).contains=V2p:=funext λ c=>by
 have h:∀n:Fin 256,(bs ⟨#[46]⟩).contains (UInt8.ofNat n.1)=V2p (UInt8.ofNat n.1):=by decide
 simpa using h ⟨c.toNat,UInt8.toNat_lt c⟩
end Pl
theorem Ome(s:ByteArray)(hs:s.size<=20000000)(ha:∀c∈bs s,c.toNat<128)(w:World)(hw:V3z w) :
    Calls prog 100 #[.string s] w λ e w'=>Ol (V1y (bs s)) e/\Gr w w':=by
 obtain⟨T,hT⟩:∃T:ByteArray,⟨(V34 (bs s)).toArray⟩=T:=⟨_,rfl⟩
 have od:V34 (bs s)=bs T:=by rw[<-hT,O1o]
 have rg:T.size<=s.size:=by rw[<-O0,<-od,<-O0];exact (U29 _).length_le
 have Lo:s.size-T.size=(bs s).length-(V34 (bs s)).length:=by rw[od,O0,O0]
 have fZ:IntKind.i64.wrap ((s.size:Int)-(T.size:Int))=((s.size-T.size:Nat):Int):=by rw[Uk _ ⟨by omega,by omega⟩];omega
 have HT:=U0 hT;have HW:=U0 hw;have HA:=U0 ha;have HU:=U0 Lo;clear hT od hw ha Lo;have HS:=U0 (Odi s hs);have Ee:=U0 (λ W=>Oeg s ⟨#[101,69]⟩ hs (by decide) (Obw HA.o) (ascii_of_all (by decide)) Vs V85 W);by_cases dv:V1p (bs s)≠[]/\s.size-T.size<2
 ·have HX:Hid (V1y (bs s) = .ok (V1p (bs s))):=U0 (by unfold V1y;rw[Ua ⟨dv.1,by rw[<-HU.o];exact dv.2⟩]);have d1:decide (((s.size-T.size:Nat):Int)<2)=true:=by simp;omega
  have HN:=U0 dv.1;clear dv Ee;go_enter func100,ntmps100;go_wp2_with (go_at_call 41;refine (O2a s T HT.o _).mono ?_;rintro e w1 ⟨rfl,g1⟩);refine (HS.o _).mono ?_;rintro e w2 ⟨⟨t,rfl,ht⟩,g2⟩;have q1:¬t.toList=[]:=by rw[Uz];show ¬bs t=[];rw[ht];exact HN.o
  have q2:t.toList.isEmpty=false:=by simpa using q1
  have HY:Hid (V1y (bs s) = .ok (bs t)):=U0 (by rw[HX.o,ht]);clear ht;go_wp2_with fail;exact U1 (v := .tuple #[.string t,(0:Int)]) (by simp[results,results100,go_sem]) rfl ⟨O51 HY.o,Gr.auto⟩
 have Lp:=U0 (λ rest e n part ra pt h1 h2=>Va6 (bs s) rest e n part ra pt h1 h2 (by rw[<-HU.o];exact dv));have hc:(V1p (bs s)=[])\/(V1p (bs s)≠[]/\decide (((s.size-T.size:Nat):Int)<2)=false):=by
  by_cases h:V1p (bs s)=[];exact .inl h
  refine .inr ⟨h,?_⟩;have:¬s.size-T.size<2:=λ h2=>dv ⟨h,h2⟩
  simp;omega
 have Lq:=U0 hc;clear dv hc;go_enter func100,ntmps100;go_wp2_with (go_at_call 41;refine (O2a s T HT.o _).mono ?_;rintro e w1 ⟨rfl,g1⟩);refine (HS.o _).mono ?_;rintro e w2 ⟨⟨t,rfl,ht⟩,g2⟩;have A0:(t.toList=[]/\t.toList.isEmpty=true)\/(¬t.toList=[]/\t.toList.isEmpty=false/\decide (((s.size-T.size:Nat):Int)<2)=false):=by
  rcases Lq.o with h|⟨h,h2⟩
  left;have:t.toList=[]:=by rw[Uz];show bs t=[];rw[ht,h]
  exact⟨this,by rw[this];rfl⟩
  right;have:¬t.toList=[]:=by rw[Uz];show ¬bs t=[];rw[ht];exact h
  exact⟨this,by simpa using this,h2⟩
 have bC:Gr w w2:=g1.trans g2;clear ht Lq g1 g2 HS;rcases A0 with⟨q1,q2⟩|⟨q1,q2,q3⟩
 all_goals
  go_wp2_with fail;refine (Ee.o _).mono ?_;rintro e w3 ⟨⟨rest,ee,ra,rfl,ah,ay,aJ⟩,g3⟩;have uY:∀c∈bs rest,c.toNat<128:=λ c hc=>HA.o c (V8n _ _ _ _ _ ah c hc)
  have o9:=U0 (λ W=>Oeg rest ⟨#[46]⟩ (by omega) (by decide) (Obw uY) (ascii_of_all (by decide)) V2p V99 W);have H1:=U0 ah;clear ah uY;go_wp2_with fail;refine (o9.o _).mono ?_;rintro e w4 ⟨⟨n,part,pt,rfl,aE,iX,mX⟩,g4⟩;have hX:=Lp.o _ _ _ _ _ _ H1.o aE;have du:Gr w w4:=(bC.trans g3).trans g4;have pa:=U0 bC;clear H1 aE o9 g3 g4 Lp bC;obtain⟨bw,Lr⟩:=ExZ (V5p (bs n))
  obtain⟨bd,cj⟩:=ExZ (Vx O2 (bs part))
  obtain⟨bp,Ls⟩:=ExZ (Pl.power (bs ee))
  have KT:=U0 (Oh4 n (by omega));have GO:=U0 (O3w part (by omega));have GQ:=U0 (Ojo ee (by omega));rw[Lr]at KT hX;rw[cj]at GO hX;rw[Ls]at GQ hX;have HX:=U0 hX;clear Lr cj Ls hX;cases ra with
  |false =>
   cases pt with
   |false =>
    go_wp2_with fail;refine Z292 ?_;intro w5 g5;obtain⟨V,hV⟩:=ExZ ((false&&bw&&true&&true))
    have AU:=U0 hV;go_wp2_with fail;refine (O3x _ false bw true true V hV _ (by simp) (by simp) (by simp) (by simp)).mono ?_;exact J51
   |true =>
    go_wp2_with fail;refine Z292 ?_;intro w5 g5;go_wp2_with fail;refine (GO.o _).mono ?_;rintro e P5 ⟨rfl,P6⟩;obtain⟨V,hV⟩:=ExZ ((true&&bw&&bd&&true))
    have AU:=U0 hV;go_wp2_with fail;refine (O3x _ true bw bd true V hV _ (by simp) (by simp) (by simp) (by simp)).mono ?_;exact J51
  |true =>
   cases pt with
   |false =>
    go_wp2_with fail;refine Z292 ?_;intro w5 g5;go_wp2_with fail;refine (GQ.o _).mono ?_;rintro e P7 ⟨rfl,P8⟩;obtain⟨V,hV⟩:=ExZ ((true&&bw&&true&&bp))
    have AU:=U0 hV;go_wp2_with fail;refine (O3x _ true bw true bp V hV _ (by simp) (by simp) (by simp) (by simp)).mono ?_;exact J51
   |true =>
    go_wp2_with fail;refine Z292 ?_;intro w5 g5;go_wp2_with fail;refine (GO.o _).mono ?_;rintro e P5 ⟨rfl,P6⟩;go_wp2_with fail;refine (GQ.o _).mono ?_;rintro e P7 ⟨rfl,P8⟩;obtain⟨V,hV⟩:=ExZ ((true&&bw&&bd&&bp))
    have AU:=U0 hV;go_wp2_with fail;refine (O3x _ true bw bd bp V hV _ (by simp) (by simp) (by simp) (by simp)).mono ?_;exact J51
def Ohf(X:V2x (Nat×Pl.Bs))(k:Nat)(x:ByteArray)(c:Nat):Prop:=match X with
 |.ok (k',t')=>k=k'/\bs x=t'/\c=0
 |.bad c' _=>c=c'/\c'≠0
namespace Pl
def V5b(l:Bs):V2x (Nat×Bs):=match V1q l with
 |.ok x => .ok (6,x)
 |.bad c p => .bad c p
theorem V6i{l:Bs}{c p:Nat}(h:V1q l = .bad c p):c≠0:=by
 unfold V1q at h;simp only at h
 split at h;exact J38
 split at h;cases h
 exact J38
theorem V6j{l:Bs}{c p:Nat}(h:V1d l = .bad c p):c=3\/c=8:=by
 unfold V1d at h;have key:∀r sg ds,V1m r sg ds = .bad c p->c=3\/c=8:=by
  exact J172
 split at h;exact key _ _ _ h
 exact key _ _ _ h
theorem V6k{l:Bs}{c p:Nat}(h:V1y l = .bad c p):c≠0:=by
 unfold V1y at h
 split at h;cases h
 split at h
 split at h
 split at h
 unfold V13 at h
 split at h;exact J38
 split at h;exact J38
 simp only at h
 split at h;cases h
 split at h;cases h
 exact J38
 exact J38
end Pl
theorem Oas(t:ByteArray)(hs:t.size<=20000000)(w:World)(hw:V3z w) :
    Calls prog 73 #[.string t,.bool true] w λ e w'=>(∃(k:Nat)(x:ByteArray)(c:Nat),e = .returned (.tuple #[.int .u8 k,.string x,c])/\Ohf (V5b (bs t)) k x c)/\Gr w w':=by
 have HD:=U0 (Omh t hs w);go_enter func73,ntmps73;go_wp2_with fail;refine HD.o.mono ?_;rintro e w1 ⟨hp,g1⟩;unfold Ol at hp;cases hX:V1q (bs t) with
 |ok x =>
  rw[hX]at hp;have he:=hp;clear hp;subst he;go_wp2_with fail;exact U1 (v := .tuple #[.int .u8 6,.string ⟨x.toArray⟩,(0:Int)]) (by simp[results,results73,go_sem]) rfl ⟨⟨6,⟨x.toArray⟩,0,rfl,by rw[show V5b (bs t) = .ok (6,x) by unfold V5b;rw[hX]];exact⟨rfl,O1o x,rfl⟩⟩,g1⟩
 |bad c p =>
  rw[hX]at hp;have he:=hp;clear hp;subst he;have hc:=V6i hX;go_wp2_with fail;exact U1 (v := .tuple #[.int .u8 6,.string ⟨#[]⟩,c]) (by simp[results,results73,go_sem]) rfl ⟨⟨6,⟨#[]⟩,c,rfl,by rw[show V5b (bs t) = .bad c p by unfold V5b;rw[hX]];exact⟨rfl,hc⟩⟩,g1⟩
theorem Oc1(t:ByteArray)(hs:t.size<=20000000)(ha:∀c∈bs t,c.toNat<128)(w:World)(hw:V3z w) :
    Calls prog 73 #[.string t,.bool false] w λ e w'=>(∃(k:Nat)(x:ByteArray)(c:Nat),e = .returned (.tuple #[.int .u8 k,.string x,c])/\Ohf (V2i (bs t)) k x c)/\Gr w w':=by
 have HI:=U0 (Oee t hs w hw);have HF:=U0 (λ W (hW:V3z W)=>Ome t hs ha W hW);have HW:=U0 hw;clear hw ha;by_cases h1:bs t=V9g
 have d1:(t.toList==[116,114,117,101])=true:=by rw[Uz];exact U1v.2 h1
 have HX:Hid (V2i (bs t) = .ok (1,bs t)):=U0 (by unfold V2i;rw[Ua (.inl h1)]);clear h1;exact J148
 have d1:(t.toList==[116,114,117,101])=false:=by rw[Uz];exact U2r.2 h1
 by_cases h2:bs t=V8j
 have d2:(t.toList==[102,97,108,115,101])=true:=by rw[Uz];exact U1v.2 h2
 have HX:Hid (V2i (bs t) = .ok (1,bs t)):=U0 (by unfold V2i;rw[Ua (.inr h2)]);clear h1 h2;exact J148
 have d2:(t.toList==[102,97,108,115,101])=false:=by rw[Uz];exact U2r.2 h2
 have HX:Hid (V2i (bs t)=match V1d (bs t) with
  |.ok x => .ok (4,x)
  | .bad c p=>if c=3 then (match V1y (bs t) with
   |.ok x => .ok (5,x)
   |.bad c p => .bad c p) else .bad c p):=U0 (by unfold V2i;rw[Ud (by rintro (h|h);exact h1 h;exact h2 h)];rfl)
 clear h1 h2;go_enter func73,ntmps73;go_wp2_with fail;refine HI.o.mono ?_;rintro e w1 ⟨hp,g1⟩;unfold Ol at hp;cases hX:V1d (bs t) with
 |ok x =>
  rw[hX]at hp HX;have he:=hp;clear hp;subst he;go_wp2_with fail;exact U1 (v := .tuple #[.int .u8 4,.string ⟨x.toArray⟩,(0:Int)]) (by simp[results,results73,go_sem]) rfl ⟨⟨4,⟨x.toArray⟩,0,rfl,by rw[HX.o];exact⟨rfl,O1o x,rfl⟩⟩,g1⟩
 |bad c p =>
  rw[hX]at hp HX;have he:=hp;clear hp;subst he;rcases V6j hX with rfl|rfl
  ·clear hX;go_wp2_with fail;refine (HF.o _ (HW.o.gr g1)).mono ?_;rintro e w2 ⟨hp,g2⟩;unfold Ol at hp;cases hY:V1y (bs t) with
   |ok x =>
    rw[hY]at hp HX;have he:=hp;clear hp;subst he;go_wp2_with fail;exact U1 (v := .tuple #[.int .u8 5,.string ⟨x.toArray⟩,(0:Int)]) (by simp[results,results73,go_sem]) rfl ⟨⟨5,⟨x.toArray⟩,0,rfl,by rw[HX.o];exact⟨rfl,O1o x,rfl⟩⟩,g1.trans g2⟩
   |bad c q =>
    rw[hY]at hp HX;have he:=hp;clear hp;subst he;have hc:=V6k hY;go_wp2_with fail;exact U1 (v := .tuple #[.int .u8 5,.string ⟨#[]⟩,c]) (by simp[results,results73,go_sem]) rfl ⟨⟨5,⟨#[]⟩,c,rfl,by rw[HX.o];exact⟨rfl,hc⟩⟩,g1.trans g2⟩
  go_wp2_with fail;exact U1 (v := .tuple #[.int .u8 4,.string ⟨#[]⟩,(8:Int)]) (by simp[results,results73,go_sem]) rfl ⟨⟨4,⟨#[]⟩,8,rfl,by rw[HX.o];exact⟨rfl,by omega⟩⟩,g1⟩
