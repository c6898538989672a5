/- The proof's part 11. -/
import Derived.Test.YtnkgknbdaiakgaaGreatDoorY09
import Derived.Test.YtnkgknbdaiakgaaGreatDoorY10
import Derived.Shelf.Strconv.Quote
set_option maxHeartbeats 16000000
set_option linter.all false
set_option maxRecDepth 100000
namespace Go.Proofs.YtnkgknbdaiakgaaGreatDoor
open Pl Go.Proofs.Tryz Go.RowKit Go.Joins
namespace Pl
def V65(w c:UInt8):Bool:=if w.toNat==57 then decide (48<=c.toNat)&&decide (c.toNat<=57) else c.toNat==w.toNat
def Vw:List UInt8->List UInt8->Bool
 |_,[]=>true
 |[],_::_=>false
 |c::l,w::m=>V65 w c&&Vw l m
def V40:List UInt8:=[57,57,57,57,45,57,57,45,57,57]
def V4a:List UInt8:=[57,57,58,57,57,58,57,57]
theorem V4s(l m:List UInt8)(h:l.length<m.length):Vw l m=false:=by
 induction l generalizing m with
 | nil=>cases m with
  |nil=>simp at h
  |cons w m=>rfl
 |cons c l ih =>
  cases m with
  |nil=>simp at h
  |cons w m=>simp only[Vw,ih m (by simpa using h),Bool.and_false]
end Pl
theorem Ofq(w c:UInt8):(V65 w c=true/\((((w.toNat:Int)==57)=true/\decide ((c.toNat:Int)<48)=false/\decide ((57:Int)<(c.toNat:Int))=false/\((w.toNat:Int) != 57)=false)\/(((w.toNat:Int)==57)=false/\((w.toNat:Int) != 57)=true/\((c.toNat:Int) != (w.toNat:Int))=false))) \/(V65 w c=false/\((((w.toNat:Int)==57)=true/\decide ((c.toNat:Int)<48)=true)\/(((w.toNat:Int)==57)=true/\decide ((c.toNat:Int)<48)=false/\decide ((57:Int)<(c.toNat:Int))=true)\/(((w.toNat:Int)==57)=false/\((w.toNat:Int) != 57)=true/\((c.toNat:Int) != (w.toNat:Int))=true))):=by
 unfold V65;by_cases h:w.toNat=57
 by_cases h1:c.toNat<48;right;refine⟨by simp[h];omega,.inl ⟨Ye,Ye⟩⟩
 by_cases h2:57<c.toNat;right;refine⟨by simp[h];omega,.inr (.inl ⟨Ye,Ye,Ye⟩)⟩
 left;refine⟨by simp[h];omega,.inl ⟨Ye,Ye,Ye,Ye⟩⟩
 by_cases h1:c.toNat=w.toNat;left;refine⟨by simp[h,h1],.inr ⟨Ye,Ye,Ye⟩⟩
 right;refine⟨by simp[h,h1],.inr (.inr ⟨Ye,Ye,Ye⟩)⟩
theorem Obm(s:ByteArray)(n:Nat):s.extract 0 n=⟨((bs s).take n).toArray⟩:=by
 apply U31;apply U32.1;rw[U3b,Nat.sub_zero,U2j]
theorem O6n(s ae:ByteArray)(hw:∀h:Nat,(h1:h<ae.size)->(ae[h]'h1).toNat<128)(hs:s.size<=2147483647)(w:World):Calls prog 125 #[.string s,.string ae] w λ e w'=>e=.returned (.string (if Vw (bs s) (bs ae)=true then s.extract 0 ae.size else ⟨#[]⟩))/\Gr w w':=by
 obtain⟨X,hX⟩:=ExZ (Vw (bs s) (bs ae))
 rw[hX];by_cases ad:s.size<ae.size
 ·have:X=false:=by rw[<-hX];exact V4s _ _ (by rw[O0,O0];exact ad)
  subst this;clear hX;have hd:decide ((s.size:Int)<(ae.size:Int))=true:=Ye
  go_enter func125,ntmps125;exact J3
 have hd:decide ((s.size:Int)<(ae.size:Int))=false:=Ye;have HX:=U10 hX;have HW:=U10 hw;have U2:ae.size<=s.size:=Ya;clear hX hw ad;go_enter func125,ntmps125;go_wp2_with fail
 go_loopw [5] (λ _ wr=>∃ai:Nat,wr=w.iter ae ai/\ai<=ae.size/\Vw ((bs s).drop ai) ((bs ae).drop ai)=X) (λ _ wr=>ae.size-wr.iterPos w.heap.size)
 case atStart=>exact⟨0,rfl,Ya,by simpa using HX.o⟩
 case round =>
  obtain⟨ai,rfl,mb,hx⟩:=hrel;have dU:=U10 hx;clear hx;by_cases hp:ai<ae.size
  ·have EF:∀ty,(Instr.next (.pointer (some ⟨w,0,none⟩)) true ty).run prog (w.iter ae ai)=_:=λ ty=>U4u w ae ai ty hp (HW.o ai hp)
   have bx:(0:Int)<=(ai:Int):=Ya;have cd:(ai:Int)<(s.size:Int):=Ya;have fm:=dU.o;rw[O9 s ai Ya,O9 ae ai hp]at fm;simp only[Vw]at fm;have bz:(s[ai].toNat:Int)<256:=by have:=U4v s[ai];omega
   have ay:(ae[ai].toNat:Int)<256:=by have:=U4v ae[ai];omega
   rcases Ofq ae[ai] s[ai] with⟨hf,hc⟩|⟨hf,hc⟩
   ·rw[hf,Bool.true_and]at fm;have nZ:=U10 fm;clear fm hf;rcases hc with⟨q1,q2,q3,q4⟩|⟨q1,q2,q3⟩
    all_goals
     go_wp2_with fail
     go_roundw
     case rel=>exact⟨ai+1,rfl,Ya,nZ.o⟩
     case measure=>simp;omega
   rw[hf,U4w]at fm;have eo:X=false:=fm.symm;subst eo;clear fm hf;rcases hc with⟨q1,q2⟩|⟨q1,q2,q3⟩|⟨q1,q2,q3⟩
   all_goals
    go_wp2_with fail
    go_ret
    exact⟨rfl,(Gr.refl w).alloc _⟩
  have EF:∀ty,(Instr.next (.pointer (some ⟨w,0,none⟩)) true ty).run prog (w.iter ae ai)=_:=λ ty=>run_next_end w ae ai ty hp
  have eo:X=true:=by
   have:=dU.o;have e0:(bs ae).drop ai=[]:=U1w (by rw[O0];omega);rw[e0]at this;rw[<-this];cases (bs s).drop ai <;> rfl
  subst eo;have bx:(0:Int)<=(ae.size:Int):=Ya
  have cd:(ae.size:Int)<=(s.size:Int):=Ya
  go_wp2_with fail
  go_ret
  exact⟨rfl,(Gr.refl w).alloc _⟩
theorem O84(s ae:ByteArray)(hw:∀h:Nat,(h1:h<ae.size)->(ae[h]'h1).toNat<128)(hs:s.size<=2147483647)(hf:Vw (bs s) (bs ae)=false)(w:World):Calls prog 125 #[.string s,.string ae] w λ e w'=>e=.returned (.string ⟨#[]⟩)/\Gr w w' :=
 (O6n s ae hw hs w).mono λ e w' ⟨h1,h2⟩=>⟨by rw[h1,hf];rfl,h2⟩
theorem O2n(s:ByteArray)(h:((bs s).all λ c=>decide (c.toNat<128))=true):∀i:Nat,(h1:i<s.size)->(s[i]'h1).toNat<128:=by
 intro i h1;rw[U2h]at h;have:=h (s[i]'h1) (by
  have h2:i<(bs s).length:=by rw[O0];exact h1
  exact U4a h2)
 exact J4
theorem Oh3(s:ByteArray)(hs:s.size<=2147483647)(hf:Vw (bs s) V4a=false)(w:World):Calls prog 126 #[.string s] w λ e w'=>e=.returned (.tuple #[.string ⟨#[]⟩,.string ⟨#[]⟩])/\Gr w w':=by
 have HF:=U10 hf;clear hf;go_enter func126,ntmps126;go_wp2_with (go_at_call 125;refine (O84 s ⟨#[57,57,58,57,57,58,57,57]⟩ (O2n _ Yd) hs HF.o _).mono ?_;rintro e w1 ⟨rfl,g1⟩)
 go_ret2
 exact⟨rfl,Gr.auto⟩
end Go.Proofs.YtnkgknbdaiakgaaGreatDoor
namespace Go.Proofs
open Go.Proofs.Tryz Go.Shelf
def Tryz.lays177_ren:Go.Shelf.Ren:=⟨λ|177=>29|250=>48|289=>78|197=>95|323=>108|260=>123|339=>152|340=>153|242=>154|119=>155|345=>181|346=>182|278=>183|n=>n,λ|9=>9|5=>5|4=>4|3=>3|37=>22|21=>21|105=>173|46=>109|119=>223|0=>0|139=>226|138=>225|49=>248|234=>249|131=>181|51=>158|236=>251|n=>n,λ|3=>4|4=>5|20=>7|21=>8|22=>9|23=>10|24=>11|n=>n⟩
theorem Tryz.lays177:Go.Proofs.Lays.n177 prog lays177_ren:=LaZ
open Go.RowKit in
theorem Tryz.strconv_Quote(T:Lib.PrintTabs)(s:ByteArray)(w:World)(ad:10*s.size+12<=140737488355328)(hT:Lib.PrintTabsAt 7 8 9 10 T w)(hU:Lib.Utf8Tabs 4 5 w):Calls prog 29 #[.string s] w λ e w'=>e=.returned (.string (strOfNums (Lib.quoteZ T s)))/\Below w w w':=Any.strconv_Quote lays177 Yc T s w ad hT hU
end Go.Proofs
namespace Go.Proofs.YtnkgknbdaiakgaaGreatDoor.Pl
def V1d(b:UInt8):Bs->List Bs
 |[]=>[[]]
 | c::l=>if c==b then []::V1d b l else
  match V1d b l with
  |[]=>[[c]]
  |p::ps=>(c::p)::ps
def V15(d:UInt8->Bool)(l:Bs):Bool:=(V1d 95 l).all λ p => !p.isEmpty&&p.all d
def V6i(c:UInt8):Bool:=O2 c || (decide (97<=c.toNat)&&decide (c.toNat<=102)) || (decide (65<=c.toNat)&&decide (c.toNat<=70))
structure Rad where
 long:Nat
 base:Nat
 dig:UInt8->Bool
def V4v(l:Bs):Rad :=
 if pre l [48,120] then ⟨2,16,V6i⟩ else
 if pre l [48,111] then ⟨2,8,λ c=>decide (48<=c.toNat)&&decide (c.toNat<=55)⟩ else
 if pre l [48,98] then ⟨2,2,λ c=>decide (48<=c.toNat)&&decide (c.toNat<=49)⟩ else ⟨0,10,O2⟩
def Vx(c:UInt8):Bool:=c.toNat==43 || c.toNat==45
def signed(l:Bs):Bool:=match l with
 |[]=>false
 |c::_=>Vx c
def V22(b:Nat)(l:Bs):Lib.NumEnd Int :=
 if b=10 then Lib.parseIntB 64 l else
 match Vr b 18446744073709551615 0 l with
 |.ok v=>if v<9223372036854775808 then .ok (v:Int) else .range
 |.range => .range
 |Lib.NumEnd.syntax=>Lib.NumEnd.syntax
def Vo(l:Bs):Bs:=Lib.replaceAll l [95] []
def V1t(r:Rad)(sign ds:Bs):V35 Bs :=
 if V15 r.dig ds=false\/(r.base=10/\1<ds.length/\ds[0]?=some 48) then .bad 3 0 else
 match V22 r.base (sign++Vo ds) with
 |.ok v => .ok (Lib.itoa v)
 |.range => .bad 8 0
 |Lib.NumEnd.syntax => .bad 3 0
def V5b(l:Bs):Bool:=decide ((V4v l).base=10)&&signed l
def V1i(l:Bs):V35 Bs:=if V5b l then V1t (V4v l) (l.take 1) (l.drop 1) else V1t (V4v l) [] (l.drop (V4v l).long)
def V4h(p:UInt8->Bool)(many:Nat)(l:Bs):Nat:=min many (l.takeWhile p).length
structure Dec where
 minus:Bool
 whole:Bs
 part:Bs
 neg:Bool
 power:Bs
def Vz(c:UInt8):Bool:=c.toNat==101 || c.toNat==69
def V2u(c:UInt8):Bool:=c.toNat==46
def V2m(c:UInt8):Bool:=c.toNat==45
def Vg(p:UInt8->Bool)(l:Bs):Bool:=match l with
 |[]=>false
 |c::_=>p c
def V58(l:Bs):Option Dec :=
 let m:=Vg V2m l
 let l1:=if m then l.drop 1 else l
 let wh:=l1.takeWhile O2
 let l2:=l1.dropWhile O2
 if wh=[]\/(1<wh.length/\wh[0]?=some 48) then none else
 let pt:=Vg V2u l2
 let l3:=if pt then l2.drop 1 else l2
 let part:=if pt then l3.takeWhile O2 else []
 let l4:=if pt then l3.dropWhile O2 else l3
 let ra:=Vg Vz l4
 let l5:=if ra then l4.drop 1 else l4
 let sg:=ra&&Vg Vx l5
 let ng:=ra&&Vg V2m l5
 let l6:=if sg then l5.drop 1 else l5
 let pw:=if ra then l6.takeWhile O2 else []
 let l7:=if ra then l6.dropWhile O2 else l6
 if l7=[]/\pt = !part.isEmpty/\ra = !pw.isEmpty then some ⟨m,wh,part,ng,pw⟩ else none
def Vk(l:Bs):Bs:=Lib.trimLeftS l [48]
def Vm(l:Bs):Bs:=Lib.trimRightS l [48]
def V31(n:Int):Bool:=decide (-1000000000<=n)&&decide (n<=1000000000)
def V1l(l:Bs):Nat:=l.foldl (λ a c=>a*10+(c.toNat-48)) 0
def V4w(neg:Bool)(power:Bs):Option Int :=
 if 12<(Vk power).length then none else
 let n:Int:=if neg then -(V1l (Vk power):Int) else (V1l (Vk power):Int)
 if V31 n then some n else none
def V17(l:Bs):V35 Bs :=
 match V58 l with
 |none => .bad 3 0
 |some d =>
  match V4w d.neg d.power with
  |none => .bad 7 0
  |some n =>
   let ds:=Vk (d.whole++d.part)
   let sh:=Vm ds
   if sh=[] then .ok [48] else
   let e:Int:=n-d.part.length+ds.length-sh.length
   if V31 e then .ok ((if d.minus then [45] else [])++sh++[101]++Lib.itoa e) else .bad 7 0
def V6j:Bs:=[105,110,102]
def V7b:Bs:=[110,97,110]
def V38(l:Bs):Bs:=Lib.trimLeftS l [43,45]
def V1u(l:Bs):Bs :=
 if V38 l=V6j then (if 3<l.length/\l[0]?=some 45 then 45::V6j else V6j)
 else if V38 l=V7b then V7b else []
def V5v(p:UInt8->Bool)(l:Bs):Bs×Bs×Bool :=
 match l.dropWhile (λ c => !p c) with
 |[]=>(l,[],false)
 |_::r=>(l.takeWhile (λ c => !p c),r,true)
def V66(l:Bs):Bool:=match V1i l with
 |.ok _=>true
 |.bad c _=>c != 3
def power(l:Bs):Bool:=V15 O2 (if Vg Vx l then l.drop 1 else l)
def V25(l:Bs):V35 Bs :=
 if V1u l≠[]/\l.length-(V38 l).length<2 then .ok (V1u l) else
 let (rest,e,raised):=V5v Vz l
 let (n,part,vs):=V5v V2u rest
 if (vs || raised)&&V66 n&&(!vs || V15 O2 part)&&(!raised || power e) then
  V17 (match Vo l with
   |43::r=>r
   |r=>r)
 else .bad 3 0
structure V94 where
 date:Bs
 time:Bs
 part:Bs
 zone:Bs
 long:Nat
def V4i:Bs:=[57,57,58,57,57]
def Vi(l:Bs):Bs×Bs :=
 if Vw l V4a then (l.take 8,if Vg V2u (l.drop 8) then (l.drop 9).takeWhile O2 else []) else ([],[])
def V2h(t p:Bs):Nat:=if p=[] then t.length else t.length+1+p.length
def V28(l:Bs):Bs :=
 match l with
 |[]=>[]
 |c::r=>if c.toNat=90\/c.toNat=122 then [c] else if Vx c&&Vw r V4i then (c::r).take 6 else []
def V4o(c:UInt8):Bool:=c.toNat==84 || c.toNat==116 || c.toNat==32
def Vh(l:Bs):V94 :=
 if Vw l V40 then
  if Vg V4o (l.drop 10) then
   let (t,p):=Vi (l.drop 11)
   if t=[] then ⟨l.take 10,[],[],[],10⟩ else
   let n:=10+(1+V2h t p)
   ⟨l.take 10,t,p,V28 (l.drop n),n+(V28 (l.drop n)).length⟩
  else ⟨l.take 10,[],[],[],10⟩
 else ⟨[],(Vi l).1,(Vi l).2,[],V2h (Vi l).1 (Vi l).2⟩
def V10(l:Bs)(a b:Nat):Bool:=decide (a<=V1l (l.take 2))&&decide (V1l (l.take 2)<=b)
def V2i(y m:Nat):Nat :=
 if m=2 then (if y % 4≠0\/(y % 100=0/\y % 400≠0) then 28 else 29)
 else if m=4\/m=6\/m=9\/m=11 then 30 else 31
def V4j(c:V94):Bool :=
 (c.date.isEmpty || (V10 (c.date.drop 5) 1 12&&V10 (c.date.drop 8) 1 (V2i (V1l (c.date.take 4)) (V1l ((c.date.drop 5).take 2))))) &&
 (c.time.isEmpty || (V10 c.time 0 23&&V10 (c.time.drop 3) 0 59&&V10 (c.time.drop 6) 0 (if (c.time.drop 3).take 2=[53,57] then 60 else 59))) &&
 (decide (c.zone.length<2) || (V10 (c.zone.drop 1) 0 23&&V10 (c.zone.drop 4) 0 59))
def V6k(l:Bs):Bs:=l.map λ c=>if 97<=c.toNat/\c.toNat<=122 then c-32 else c
def V5o(c:V94):Bs :=
 c.date++(if c.date≠[]/\c.time≠[] then [84] else [])++c.time++(if Vm c.part≠[] then 46::Vm c.part else [])++V6k c.zone
def V1x(l:Bs):V35 Bs :=
 let c:=Vh l
 if c.long=0\/c.long<l.length then .bad 3 0 else
 if V4j c then .ok (V5o c) else .bad 9 0
def kind8(st:Ve)(i:Nat):Bool:=decide (st.length<=30000000)&&match st[i]? with
 |some nd=>nd.kind==8&&decide (nd.keys.length<=30000000)&&decide (nd.spots.length<=30000000)&&decide (nd.subs.length<=30000000)
 |none=>false
def room(st:Ve):Bool:=decide (st.length<=20000000)
def V3j(table:Nat):List KW->Nat->Nat->Ve->Va (Nat×Nat×Ve)
 |[],_,_,_ => .non
 |(w,a,b)::rest,into,d,st =>
  match V16 st into w with
  |.non => .non
  |.yes i =>
   match rest with
   |[] => .bad 5 a
   |_::_=>if V2y st i=table+1 then V3j table rest i (d+1) st else .bad 5 a
  |.no =>
   match rest with
   |[] => .ok (into,d,st)
   |_::_ =>
    if 256<d+1 then .bad 4 a else
    if kind8 st into&&room st then V3j table rest st.length (d+1) (Vj (st++[V1s (table+1)]) into w (a,b) st.length) else .non
abbrev V2c:=Nat->Nat->Ve->Va (Nat×Nat×Ve)
def V1g(E:V19)(V:V2c)(s:Bs)(table at' d:Nat)(st:Ve):Va (Nat×Ve) :=
 match V23 E s at' with
 |.non => .non
 |.bad c p => .bad c p
 |.ok (ws,e) =>
  match V3j table ws table d st with
  |.non => .non
  |.bad c p => .bad c p
  |.ok (into,d',st') =>
   let e1:=V7 s e
   if V9 s e1=61 then
    match V (d'+1) (V7 s (e1+1)) st' with
    |.non => .non
    |.bad c p => .bad c p
    |.ok (i,e2,st2) =>
     match ws.getLast? with
     |none => .non
     |some (w,a,b)=>if kind8 st2 into then .ok (e2,Vj st2 into w (a,b) i) else .non
   else .bad 3 e1
def V21(E:V19)(V:V2c)(s:Bs)(table d:Nat):Nat->Nat->Ve->Va (Nat×Ve)
 |0,_,_ => .non
 |f+1,n,st =>
  match V1g E V s table n d st with
  |.non => .non
  |.bad c p => .bad c p
  |.ok (e,st1) =>
   let e2:=V7 s e
   if V9 s e2=125 then .ok (e2,st1) else
   if V9 s e2=44 then V21 E V s table d f (V7 s (e2+1)) st1 else .bad 3 e2
def V1n(E:V19)(V:V2c)(s:Bs)(d n:Nat)(st:Ve):Va (Nat×Nat×Ve) :=
 if 256<d then .bad 4 n else
 if room st then
  let e:=V7 s (n+1)
  match (if V9 s e=125 then .ok (e,st++[Vt]) else V21 E V s st.length d (s.length+2) e (st++[Vt]):Va (Nat×Ve)) with
  |.non => .non
  |.bad c p => .bad c p
  |.ok (e1,st1)=>if kind8 st1 st.length then .ok (st.length,e1+1,st1.modify st.length λ nd=>{ nd with sp:=((n:Int),((e1+1:Nat):Int)) }) else .non
 else .non
def V1h(V:V2c)(s:Bs)(d:Nat):Nat->Nat->List Nat->Ve->Va (List Nat×Nat×Ve)
 |0,_,_,_ => .non
 |f+1,n,subs,st =>
  if V9 s n=93 then .ok (subs,n,st) else
  match V (d+1) n st with
  |.non => .non
  |.bad c p => .bad c p
  |.ok (i,e,st1) =>
   if 30000000<subs.length then .non else
   match Vy s e with
   |.bad c p => .bad c p
   |.ok g =>
    if V9 s g=93 then .ok (subs++[i],g,st1) else
    if V9 s g=44 then
     match Vy s (g+1) with
     |.bad c p => .bad c p
     |.ok g2=>V1h V s d f g2 (subs++[i]) st1
    else .bad 3 g
def V2n(V:V2c)(s:Bs)(d n:Nat)(st:Ve):Va (Nat×Nat×Ve) :=
 if 256<d then .bad 4 n else
 match Vy s (n+1) with
 |.bad c p => .bad c p
 |.ok g =>
  match V1h V s d (s.length+2) g [] st with
  |.non => .non
  |.bad c p => .bad c p
  |.ok (subs,e,st1)=>if room st1 then .ok (st1.length,e+1,st1++[V5k subs n (e+1)]) else .non
def Vv(E:V19)(s:Bs):Nat->V2c
 |0=>λ _ _ _ => .non
 |f+1=>λ d n st =>
  let c:=V9 s n
  if c=34\/c=39 then
   match E.str (s.drop n) with
   |.non => .non
   |.bad c p => .bad c (n+p)
   |.ok (t,m)=>if room st then .ok (st.length,n+m,st++[V5w 3 t n (n+m)]) else .non
  else if c=91 then V2n (Vv E s f) s d n st
  else if c=123 then V1n E (Vv E s f) s d n st
  else
   match E.scal (s.drop n) with
   |.non => .non
   |.bad c _ => .bad c n
   |.ok (k,t,m)=>if room st then .ok (st.length,n+m,st++[V5w k t n (n+m)]) else .non
def V1j(E:V19)(s:Bs)(n jc:Nat):Va (Nat×Nat×Ve):=Vv E s 258 (min jc 256+1) n []
def V3d(n:Nat):Bool:=decide (97<=n)&&decide (n<=122) || decide (65<=n)&&decide (n<=90) || decide (48<=n)&&decide (n<=57) || n==43 || n==45 || n==95 || n==46
def V2w(c:UInt8):Bool:=V3d c.toNat
def V3m(l:Bs):Bs:=l.takeWhile V2w
def Va7:Bs:=[116,114,117,101]
def V9b:Bs:=[102,97,108,115,101]
def V2l(t:Bs):V35 (Nat×Bs) :=
 if t=Va7\/t=V9b then .ok (1,t) else
 match V1i t with
 |.ok x => .ok (4,x)
 | .bad c p=>if c=3 then (match V25 t with
     |.ok x => .ok (5,x)
     |.bad c p => .bad c p) else .bad c p
def Vl(l:Bs):Va (Nat×Bs×Nat) :=
 if 0<(Vh l).long then
  match V1x (l.take (Vh l).long) with
  |.ok x => .ok (6,x,(Vh l).long)
  |.bad c _ => .bad c 0
 else
  match V2l (V3m l) with
  |.ok (k,x) => .ok (k,x,(V3m l).length)
  |.bad c _ => .bad c 0
theorem byteAt_lt{s:Bs}{n c:Nat}(h:V9 s n=c)(hc:c≠0):n<s.length:=by
 unfold V9 at h
 split at h;rename_i x hx;exact (U16.1 hx).1
 exact absurd h.symm hc
def isF(s:Bs):Nat->Bs->V35 Nat
 |n,[] => .ok n
 |n,w::ws=>if s[n]?=some w then isF s (n+1) ws else .bad 3 n
def V1e(s:Bs)(n:Nat):V35 Nat :=
 let a:=Vs s (V7 s n)
 if a=s.length then .ok a else
 if V9 s a=10 then .ok (a+1) else
 if V9 s a=13 then isF s a [13,10] else .bad 3 a
structure It where
 kind:Nat
 a:Nat
 b:Nat
 ws:List KW
 va:Nat
 vb:Nat
 root:Nat
 nds:Ve
def V3p(E:V19)(s:Bs)(kind n:Nat)(aT:Bs):Va (Nat×It) :=
 match V23 E s (V7 s (n+aT.length)) with
 |.non => .non
 |.bad c p => .bad c p
 |.ok (ws,e) =>
  match isF s (V7 s e) aT with
  |.bad c p => .bad c p
  |.ok m => .ok (m,⟨kind,0,0,ws,0,0,0,[]⟩)
def V5p(E:V19)(s:Bs)(n:Nat):Va (Nat×It) :=
 match V23 E s n with
 |.non => .non
 |.bad c p => .bad c p
 |.ok (ws,e) =>
  match isF s (V7 s e) [61] with
  |.bad c p => .bad c p
  |.ok m =>
   match V1j E s (V7 s m) 0 with
   |.non => .non
   |.bad c p => .bad c p
   |.ok (root,e2,nds) => .ok (e2,⟨1,0,0,ws,V7 s m,e2,root,nds⟩)
def V1c(l:Bs):Bool:=match l with
 |[]=>true
 |c::_=>c.toNat==35 || c.toNat==13 || c.toNat==10
def V3o(E:V19)(s:Bs)(n:Nat):Va (Nat×It) :=
 if pre (s.drop n) [91,91] then V3p E s 3 n [93,93] else
 if pre (s.drop n) [91] then V3p E s 2 n [93] else
 if V1c (s.drop n) then .ok (n,⟨0,0,0,[],0,0,0,[]⟩) else V5p E s n
def V41(E:V19)(s:Bs)(n:Nat):Va It :=
 match V3o E s (V7 s n) with
 |.non => .non
 |.bad c p => .bad c p
 |.ok (e,it) =>
  match V1e s e with
  |.bad c p => .bad c p
  |.ok m => .ok { it with a:=n,b:=m }
theorem V5r(s:Bs)(ae:Bs):∀n,n<=s.length->(∀m,isF s n ae=.ok m->m=n+ae.length/\m<=s.length)/\(∀c p,isF s n ae=.bad c p->p<=s.length/\c=3):=by
 induction ae with
 |nil=>intro n hn;exact⟨λ m h=>by (simp only[isF,V35.ok.injEq]at h;subst h;exact⟨rfl,hn⟩),λ c p h=>by (simp[isF]at h)⟩
 |cons w ws ih =>
  intro n hn;unfold isF
  split
  rename_i h
  have aa:=(U16.1 h).1;obtain⟨i1,i2⟩:=ih (n+1) Ya;exact⟨λ m h=>by (have:=i1 m h;simp only[U17];omega),i2⟩
  exact⟨λ m h=>by (simp at h),λ c p h=>by (cases h;exact⟨hn,rfl⟩)⟩
theorem V60(s:Bs)(n:Nat)(hn:n<=s.length):(∀m,V1e s n=.ok m->n<=m/\m<=s.length/\((m=s.length/\Vs s (V7 s n)=m)\/(Vs s (V7 s n)<m/\V9 s (m-1)=10)))/\(∀c p,V1e s n=.bad c p->p<=s.length/\c≠0):=by
 have hb:=V8 s n hn;have hc:=V3y s (V7 s n) hb.2;unfold V1e;simp only;generalize Vs s (V7 s n)=a at hc⊢
 split
 rename_i h
 exact⟨λ m h=>by (cases h;exact⟨Ya,Ya,.inl ⟨Ya,rfl⟩⟩),λ c p h=>by (cases h)⟩
 split
 rename_i de
 have:=byteAt_lt de Yd;exact⟨λ m h=>by (cases h;exact⟨Ya,Ya,.inr ⟨Ya,de⟩⟩),λ c p h=>by (cases h)⟩
 split
 rename_i fC
 have:=byteAt_lt fC Yd;obtain⟨i1,i2⟩:=V5r s [13,10] a Ya;refine⟨λ m h=>?_,λ c p h=>by (have:=i2 c p h;omega)⟩;obtain⟨h1,h2⟩:=i1 m h;simp only[U17,U1t]at h1;refine⟨Ya,h2,.inr ⟨Ya,?_⟩⟩;unfold isF at h
 split at h
 unfold isF at h
 split at h
 rename_i de
 subst h1;show V9 s (a+1)=10;unfold V9;rw[de];rfl
 cases h
 cases h
 exact⟨λ m h=>by (cases h),λ c p h=>by (cases h;exact⟨Ya,Yd⟩)⟩
