/- The proof's part 10. -/
import Derived.Test.YtnkgknbdaiakgaaGreatDoorP08
import Derived.Test.YtnkgknbdaiakgaaGreatDoorP09
import Derived.Shelf.Strconv.Quote
set_option maxHeartbeats 16000000
set_option linter.all false
set_option maxRecDepth 100000
namespace Go.Proofs.YtnkgknbdaiakgaaGreatDoor
open Pl Go.Proofs.Tryz Go.RowKit Go.Joins
namespace Pl
def V63(w c:UInt8):Bool:=if w.toNat==57 then decide (48<=c.toNat)&&decide (c.toNat<=57) else c.toNat==w.toNat
def Vv:List UInt8->List UInt8->Bool
 |_,[]=>true
 |[],_::_=>false
 |c::l,w::m=>V63 w c&&Vv l m
def V49:List UInt8:=[57,57,57,57,45,57,57,45,57,57]
def V4f:List UInt8:=[57,57,58,57,57,58,57,57]
theorem V4g(l m:List UInt8)(h:l.length<m.length):Vv l m=false:=by
 induction l generalizing m with
 | nil=>cases m with
  |nil=>simp at h
  |cons w m=>rfl
 |cons c l ih =>
  cases m with
  |nil=>simp at h
  |cons w m=>simp only[Vv,ih m (by simpa using h),Bool.and_false]
end Pl
theorem Of3(w c:UInt8):(V63 w c=true/\((((w.toNat:Int)==57)=true/\decide ((c.toNat:Int)<48)=false/\decide ((57:Int)<(c.toNat:Int))=false/\((w.toNat:Int) != 57)=false)\/(((w.toNat:Int)==57)=false/\((w.toNat:Int) != 57)=true/\((c.toNat:Int) != (w.toNat:Int))=false))) \/
    (V63 w c=false/\((((w.toNat:Int)==57)=true/\decide ((c.toNat:Int)<48)=true)\/(((w.toNat:Int)==57)=true/\decide ((c.toNat:Int)<48)=false/\decide ((57:Int)<(c.toNat:Int))=true)\/(((w.toNat:Int)==57)=false/\((w.toNat:Int) != 57)=true/\((c.toNat:Int) != (w.toNat:Int))=true))):=by
 unfold V63;by_cases h:w.toNat=57
 by_cases h1:c.toNat<48;right;refine⟨by simp[h];omega,.inl ⟨by simp;omega,by simp;omega⟩⟩
 by_cases h2:57<c.toNat;right;refine⟨by simp[h];omega,.inr (.inl ⟨by simp;omega,by simp;omega,by simp;omega⟩)⟩
 left;refine⟨by simp[h];omega,.inl ⟨by simp;omega,by simp;omega,by simp;omega,by simp;omega⟩⟩
 by_cases h1:c.toNat=w.toNat;left;refine⟨by simp[h,h1],.inr ⟨by simp;omega,by simp;omega,by simp;omega⟩⟩
 right;refine⟨by simp[h,h1],.inr (.inr ⟨by simp;omega,by simp;omega,by simp;omega⟩)⟩
theorem Vft(s:ByteArray)(n:Nat):s.extract 0 n=⟨((bs s).take n).toArray⟩:=by
 apply U1y;apply U21.1;rw[U27,Nat.sub_zero,U1l]
theorem O6i(s ac:ByteArray)(hw:∀h:Nat,(h1:h<ac.size)->(ac[h]'h1).toNat<128)(hs:s.size<=2147483647)(w:World) :
    Calls prog 125 #[.string s,.string ac] w λ e w'=>e = .returned (.string (if Vv (bs s) (bs ac)=true then s.extract 0 ac.size else ⟨#[]⟩))/\Gr w w':=by
 obtain⟨X,hX⟩:=ExZ (Vv (bs s) (bs ac))
 rw[hX];by_cases ao:s.size<ac.size
 ·have:X=false:=by rw[<-hX];exact V4g _ _ (by rw[O0,O0];exact ao)
  subst this;clear hX;have hd:decide ((s.size:Int)<(ac.size:Int))=true:=by simp;omega
  go_enter func125,ntmps125;exact J17
 have hd:decide ((s.size:Int)<(ac.size:Int))=false:=by simp;omega
 have HX:=U0 hX;have HW:=U0 hw;have So:ac.size<=s.size:=by omega
 clear hX hw ao;go_enter func125,ntmps125;go_wp2_with fail
 go_loopw [5] (λ _ wr=>∃aq:Nat,wr=w.iter ac aq/\aq<=ac.size/\Vv ((bs s).drop aq) ((bs ac).drop aq)=X) (λ _ wr=>ac.size-wr.iterPos w.heap.size)
 case atStart=>exact⟨0,rfl,by omega,by simpa using HX.o⟩
 case round =>
  obtain⟨aq,rfl,uL,hx⟩:=hrel;have dX:=U0 hx;clear hx;by_cases hp:aq<ac.size
  ·have DZ:∀ty,(Instr.next (.pointer (some ⟨w.heap.size,0,none⟩)) true ty).run prog (w.iter ac aq)=_:=λ ty=>U3n w ac aq ty hp (HW.o aq hp)
   have bx:(0:Int)<=(aq:Int):=by omega
   have cb:(aq:Int)<(s.size:Int):=by omega
   have fj:=dX.o;rw[O8 s aq (by omega),O8 ac aq hp]at fj;simp only[Vv]at fj;have bA:(s[aq].toNat:Int)<256:=by have:=UInt8.toNat_lt s[aq];omega
   have aA:(ac[aq].toNat:Int)<256:=by have:=UInt8.toNat_lt ac[aq];omega
   rcases Of3 ac[aq] s[aq] with⟨hf,hc⟩|⟨hf,hc⟩
   ·rw[hf,Bool.true_and]at fj;have nS:=U0 fj;clear fj hf;rcases hc with⟨q1,q2,q3,q4⟩|⟨q1,q2,q3⟩
    all_goals
     go_wp2_with fail
     go_roundw
     case rel=>exact⟨aq+1,rfl,by omega,nS.o⟩
     case measure=>simp;omega
   rw[hf,U3o]at fj;have eT:X=false:=fj.symm;subst eT;clear fj hf;rcases hc with⟨q1,q2⟩|⟨q1,q2,q3⟩|⟨q1,q2,q3⟩
   all_goals
    go_wp2_with fail
    go_ret
    exact⟨rfl,(Gr.refl w).alloc _⟩
  have DZ:∀ty,(Instr.next (.pointer (some ⟨w.heap.size,0,none⟩)) true ty).run prog (w.iter ac aq)=_:=λ ty=>run_next_end w ac aq ty hp
  have eT:X=true:=by
   have:=dX.o;have e0:(bs ac).drop aq=[]:=Ut (by rw[O0];omega);rw[e0]at this;rw[<-this];cases (bs s).drop aq <;> rfl
  subst eT;have bx:(0:Int)<=(ac.size:Int):=by omega
  have cb:(ac.size:Int)<=(s.size:Int):=by omega
  go_wp2_with fail
  go_ret
  exact⟨rfl,(Gr.refl w).alloc _⟩
theorem O7z(s ac:ByteArray)(hw:∀h:Nat,(h1:h<ac.size)->(ac[h]'h1).toNat<128)(hs:s.size<=2147483647)(hf:Vv (bs s) (bs ac)=false)(w:World) :
    Calls prog 125 #[.string s,.string ac] w λ e w'=>e = .returned (.string ⟨#[]⟩)/\Gr w w' :=
 (O6i s ac hw hs w).mono λ e w' ⟨h1,h2⟩=>⟨by rw[h1,hf];rfl,h2⟩
theorem O2h(s:ByteArray)(h:((bs s).all λ c=>decide (c.toNat<128))=true):∀i:Nat,(h1:i<s.size)->(s[i]'h1).toNat<128:=by
 intro i h1;rw[U1g]at h;have:=h (s[i]'h1) (by
  have h2:i<(bs s).length:=by rw[O0];exact h1
  exact U2v h2)
 exact J15
theorem Ogp(s:ByteArray)(hs:s.size<=2147483647)(hf:Vv (bs s) V4f=false)(w:World) :
    Calls prog 126 #[.string s] w λ e w'=>e = .returned (.tuple #[.string ⟨#[]⟩,.string ⟨#[]⟩])/\Gr w w':=by
 have HF:=U0 hf;clear hf;go_enter func126,ntmps126;go_wp2_with (go_at_call 125;refine (O7z s ⟨#[57,57,58,57,57,58,57,57]⟩ (O2h _ (by decide)) hs HF.o _).mono ?_;rintro e w1 ⟨rfl,g1⟩)
 go_ret2
 exact⟨rfl,Gr.auto⟩
end Go.Proofs.YtnkgknbdaiakgaaGreatDoor
namespace Go.Proofs
open Go.Proofs.Tryz Go.Shelf
def Tryz.lays177_ren:Go.Shelf.Ren:=⟨λ|177=>29|250=>48|289=>78|197=>95|323=>108|260=>123|339=>152|340=>153|242=>154|119=>155|345=>181|346=>182|278=>183|n=>n,λ|9=>9|5=>5|4=>4|3=>3|37=>22|21=>21|105=>173|46=>109|119=>223|0=>0|139=>226|138=>225|49=>248|234=>249|131=>181|51=>158|236=>251|n=>n,λ|3=>4|4=>5|20=>7|21=>8|22=>9|23=>10|24=>11|n=>n⟩
theorem Tryz.lays177:Go.Proofs.Lays.n177 prog lays177_ren:=LaZ
open Go.RowKit in
theorem Tryz.strconv_Quote(T:Lib.PrintTabs)(s:ByteArray)(w:World)(ao:10*s.size+12<=140737488355328)(hT:Lib.PrintTabsAt 7 8 9 10 T w)(hU:Lib.Utf8Tabs 4 5 w) :
    Calls prog 29 #[.string s] w λ e w'=>e = .returned (.string (strOfNums (Lib.quoteZ T s)))/\Below w.heap.size w w':=Any.strconv_Quote lays177 (by kernel_rfl) T s w ao hT hU
end Go.Proofs
namespace Go.Proofs.YtnkgknbdaiakgaaGreatDoor.Pl
def V1a(b:UInt8):Bs->List Bs
 |[]=>[[]]
 | c::l=>if c==b then []::V1a b l else
  match V1a b l with
  |[]=>[[c]]
  |p::ps=>(c::p)::ps
def Vx(d:UInt8->Bool)(l:Bs):Bool:=(V1a 95 l).all λ p => !p.isEmpty&&p.all d
def V5y(c:UInt8):Bool:=O2 c || (decide (97<=c.toNat)&&decide (c.toNat<=102)) || (decide (65<=c.toNat)&&decide (c.toNat<=70))
structure Rad where
 long:Nat
 base:Nat
 dig:UInt8->Bool
def V4l(l:Bs):Rad :=
 if pre l [48,120] then ⟨2,16,V5y⟩ else
 if pre l [48,111] then ⟨2,8,λ c=>decide (48<=c.toNat)&&decide (c.toNat<=55)⟩ else
 if pre l [48,98] then ⟨2,2,λ c=>decide (48<=c.toNat)&&decide (c.toNat<=49)⟩ else ⟨0,10,O2⟩
def Vq(c:UInt8):Bool:=c.toNat==43 || c.toNat==45
def signed(l:Bs):Bool:=match l with
 |[]=>false
 |c::_=>Vq c
def V1w(b:Nat)(l:Bs):Lib.NumEnd Int :=
 if b=10 then Lib.parseIntB 64 l else
 match Vp b 18446744073709551615 0 l with
 |.ok v=>if v<9223372036854775808 then .ok (v:Int) else .range
 |.range => .range
 |Lib.NumEnd.syntax=>Lib.NumEnd.syntax
def Vm(l:Bs):Bs:=Lib.replaceAll l [95] []
def V1m(r:Rad)(sign ds:Bs):V2x Bs :=
 if Vx r.dig ds=false\/(r.base=10/\1<ds.length/\ds[0]?=some 48) then .bad 3 0 else
 match V1w r.base (sign++Vm ds) with
 |.ok v => .ok (Lib.itoa v)
 |.range => .bad 8 0
 |Lib.NumEnd.syntax => .bad 3 0
def V54(l:Bs):Bool:=decide ((V4l l).base=10)&&signed l
def V1d(l:Bs):V2x Bs:=if V54 l then V1m (V4l l) (l.take 1) (l.drop 1) else V1m (V4l l) [] (l.drop (V4l l).long)
def V43(p:UInt8->Bool)(many:Nat)(l:Bs):Nat:=min many (l.takeWhile p).length
structure Dec where
 minus:Bool
 whole:Bs
 part:Bs
 neg:Bool
 power:Bs
def Vs(c:UInt8):Bool:=c.toNat==101 || c.toNat==69
def V2p(c:UInt8):Bool:=c.toNat==46
def V2k(c:UInt8):Bool:=c.toNat==45
def Ve(p:UInt8->Bool)(l:Bs):Bool:=match l with
 |[]=>false
 |c::_=>p c
def V50(l:Bs):Option Dec :=
 let m:=Ve V2k l
 let l1:=if m then l.drop 1 else l
 let wh:=l1.takeWhile O2
 let l2:=l1.dropWhile O2
 if wh=[]\/(1<wh.length/\wh[0]?=some 48) then none else
 let pt:=Ve V2p l2
 let l3:=if pt then l2.drop 1 else l2
 let part:=if pt then l3.takeWhile O2 else []
 let l4:=if pt then l3.dropWhile O2 else l3
 let ra:=Ve Vs l4
 let l5:=if ra then l4.drop 1 else l4
 let sg:=ra&&Ve Vq l5
 let ng:=ra&&Ve V2k l5
 let l6:=if sg then l5.drop 1 else l5
 let pw:=if ra then l6.takeWhile O2 else []
 let l7:=if ra then l6.dropWhile O2 else l6
 if l7=[]/\pt = !part.isEmpty/\ra = !pw.isEmpty then some ⟨m,wh,part,ng,pw⟩ else none
def Vh(l:Bs):Bs:=Lib.trimLeftS l [48]
def Vk(l:Bs):Bs:=Lib.trimRightS l [48]
def V2w(n:Int):Bool:=decide (-1000000000<=n)&&decide (n<=1000000000)
def V1g(l:Bs):Nat:=l.foldl (λ a c=>a*10+(c.toNat-48)) 0
def V4m(neg:Bool)(power:Bs):Option Int :=
 if 12<(Vh power).length then none else
 let n:Int:=if neg then -(V1g (Vh power):Int) else (V1g (Vh power):Int)
 if V2w n then some n else none
def V13(l:Bs):V2x Bs :=
 match V50 l with
 |none => .bad 3 0
 |some d =>
  match V4m d.neg d.power with
  |none => .bad 7 0
  |some n =>
   let ds:=Vh (d.whole++d.part)
   let sh:=Vk ds
   if sh=[] then .ok [48] else
   let e:Int:=n-d.part.length+ds.length-sh.length
   if V2w e then .ok ((if d.minus then [45] else [])++sh++[101]++Lib.itoa e) else .bad 7 0
def V5z:Bs:=[105,110,102]
def V6o:Bs:=[110,97,110]
def V34(l:Bs):Bs:=Lib.trimLeftS l [43,45]
def V1p(l:Bs):Bs :=
 if V34 l=V5z then (if 3<l.length/\l[0]?=some 45 then 45::V5z else V5z)
 else if V34 l=V6o then V6o else []
def V5j(p:UInt8->Bool)(l:Bs):Bs×Bs×Bool :=
 match l.dropWhile (λ c => !p c) with
 |[]=>(l,[],false)
 |_::r=>(l.takeWhile (λ c => !p c),r,true)
def V5p(l:Bs):Bool:=match V1d l with
 |.ok _=>true
 |.bad c _=>c != 3
def power(l:Bs):Bool:=Vx O2 (if Ve Vq l then l.drop 1 else l)
def V1y(l:Bs):V2x Bs :=
 if V1p l≠[]/\l.length-(V34 l).length<2 then .ok (V1p l) else
 let (rest,e,raised):=V5j Vs l
 let (n,part,uM):=V5j V2p rest
 if (uM || raised)&&V5p n&&(!uM || Vx O2 part)&&(!raised || power e) then
  V13 (match Vm l with
   |43::r=>r
   |r=>r)
 else .bad 3 0
structure V8a where
 date:Bs
 time:Bs
 part:Bs
 zone:Bs
 long:Nat
def V44:Bs:=[57,57,58,57,57]
def Vi(l:Bs):Bs×Bs :=
 if Vv l V4f then (l.take 8,if Ve V2p (l.drop 8) then (l.drop 9).takeWhile O2 else []) else ([],[])
def V29(t p:Bs):Nat:=if p=[] then t.length else t.length+1+p.length
def V22(l:Bs):Bs :=
 match l with
 |[]=>[]
 |c::r=>if c.toNat=90\/c.toNat=122 then [c] else if Vq c&&Vv r V44 then (c::r).take 6 else []
def V4a(c:UInt8):Bool:=c.toNat==84 || c.toNat==116 || c.toNat==32
def Vf(l:Bs):V8a :=
 if Vv l V49 then
  if Ve V4a (l.drop 10) then
   let (t,p):=Vi (l.drop 11)
   if t=[] then ⟨l.take 10,[],[],[],10⟩ else
   let n:=10+(1+V29 t p)
   ⟨l.take 10,t,p,V22 (l.drop n),n+(V22 (l.drop n)).length⟩
  else ⟨l.take 10,[],[],[],10⟩
 else ⟨[],(Vi l).1,(Vi l).2,[],V29 (Vi l).1 (Vi l).2⟩
def Vu(l:Bs)(a b:Nat):Bool:=decide (a<=V1g (l.take 2))&&decide (V1g (l.take 2)<=b)
def V2c(y m:Nat):Nat :=
 if m=2 then (if y % 4≠0\/(y % 100=0/\y % 400≠0) then 28 else 29)
 else if m=4\/m=6\/m=9\/m=11 then 30 else 31
def V45(c:V8a):Bool :=
 (c.date.isEmpty || (Vu (c.date.drop 5) 1 12&&Vu (c.date.drop 8) 1 (V2c (V1g (c.date.take 4)) (V1g ((c.date.drop 5).take 2))))) &&
 (c.time.isEmpty || (Vu c.time 0 23&&Vu (c.time.drop 3) 0 59&&Vu (c.time.drop 6) 0 (if (c.time.drop 3).take 2=[53,57] then 60 else 59))) &&
 (decide (c.zone.length<2) || (Vu (c.zone.drop 1) 0 23&&Vu (c.zone.drop 4) 0 59))
def V60(l:Bs):Bs:=l.map λ c=>if 97<=c.toNat/\c.toNat<=122 then c-32 else c
def V5e(c:V8a):Bs :=
 c.date++(if c.date≠[]/\c.time≠[] then [84] else [])++c.time++(if Vk c.part≠[] then 46::Vk c.part else [])++V60 c.zone
def V1q(l:Bs):V2x Bs :=
 let c:=Vf l
 if c.long=0\/c.long<l.length then .bad 3 0 else
 if V45 c then .ok (V5e c) else .bad 9 0
def kind8(st:Vc)(i:Nat):Bool:=decide (st.length<=30000000)&&match st[i]? with
 |some nd=>nd.kind==8&&decide (nd.keys.length<=30000000)&&decide (nd.spots.length<=30000000)&&decide (nd.subs.length<=30000000)
 |none=>false
def room(st:Vc):Bool:=decide (st.length<=20000000)
def V3m(table:Nat):List KW->Nat->Nat->Vc->Va (Nat×Nat×Vc)
 |[],_,_,_ => .non
 |(w,a,b)::rest,into,d,st =>
  match V12 st into w with
  |.non => .non
  |.yes i =>
   match rest with
   |[] => .bad 5 a
   |_::_=>if V37 st i=table+1 then V3m table rest i (d+1) st else .bad 5 a
  |.no =>
   match rest with
   |[] => .ok (into,d,st)
   |_::_ =>
    if 256<d+1 then .bad 4 a else
    if kind8 st into&&room st then V3m table rest st.length (d+1) (Vo (st++[V2b (table+1)]) into w (a,b) st.length) else .non
abbrev V24:=Nat->Nat->Vc->Va (Nat×Nat×Vc)
def V1s(E:Vz)(V:V24)(s:Bs)(table at' d:Nat)(st:Vc):Va (Nat×Vc) :=
 match V1k E s at' with
 |.non => .non
 |.bad c p => .bad c p
 |.ok (ws,e) =>
  match V3m table ws table d st with
  |.non => .non
  |.bad c p => .bad c p
  |.ok (into,d',st') =>
   let e1:=V7 s e
   if V9 s e1=61 then
    match V (d'+1) (V7 s (e1+1)) st' with
    |.non => .non
    |.bad c p => .bad c p
    |.ok (i,e2,st2) =>
     match ws.getLast? with
     |none => .non
     |some (w,a,b)=>if kind8 st2 into then .ok (e2,Vo st2 into w (a,b) i) else .non
   else .bad 3 e1
def V2g(E:Vz)(V:V24)(s:Bs)(table d:Nat):Nat->Nat->Vc->Va (Nat×Vc)
 |0,_,_ => .non
 |f+1,n,st =>
  match V1s E V s table n d st with
  |.non => .non
  |.bad c p => .bad c p
  |.ok (e,st1) =>
   let e2:=V7 s e
   if V9 s e2=125 then .ok (e2,st1) else
   if V9 s e2=44 then V2g E V s table d f (V7 s (e2+1)) st1 else .bad 3 e2
def V1z(E:Vz)(V:V24)(s:Bs)(d n:Nat)(st:Vc):Va (Nat×Nat×Vc) :=
 if 256<d then .bad 4 n else
 if room st then
  let e:=V7 s (n+1)
  match (if V9 s e=125 then .ok (e,st++[V1f]) else V2g E V s st.length d (s.length+2) e (st++[V1f]):Va (Nat×Vc)) with
  |.non => .non
  |.bad c p => .bad c p
  |.ok (e1,st1)=>if kind8 st1 st.length then .ok (st.length,e1+1,st1.modify st.length λ nd=>{ nd with sp:=((n:Int),((e1+1:Nat):Int)) }) else .non
 else .non
def V1h(V:V24)(s:Bs)(d:Nat):Nat->Nat->List Nat->Vc->Va (List Nat×Nat×Vc)
 |0,_,_,_ => .non
 |f+1,n,subs,st =>
  if V9 s n=93 then .ok (subs,n,st) else
  match V (d+1) n st with
  |.non => .non
  |.bad c p => .bad c p
  |.ok (i,e,st1) =>
   if 30000000<subs.length then .non else
   match Vt s e with
   |.bad c p => .bad c p
   |.ok g =>
    if V9 s g=93 then .ok (subs++[i],g,st1) else
    if V9 s g=44 then
     match Vt s (g+1) with
     |.bad c p => .bad c p
     |.ok g2=>V1h V s d f g2 (subs++[i]) st1
    else .bad 3 g
def V2s(V:V24)(s:Bs)(d n:Nat)(st:Vc):Va (Nat×Nat×Vc) :=
 if 256<d then .bad 4 n else
 match Vt s (n+1) with
 |.bad c p => .bad c p
 |.ok g =>
  match V1h V s d (s.length+2) g [] st with
  |.non => .non
  |.bad c p => .bad c p
  |.ok (subs,e,st1)=>if room st1 then .ok (st1.length,e+1,st1++[V58 subs n (e+1)]) else .non
def V19(E:Vz)(s:Bs):Nat->V24
 |0=>λ _ _ _ => .non
 |f+1=>λ d n st =>
  let c:=V9 s n
  if c=34\/c=39 then
   match E.str (s.drop n) with
   |.non => .non
   |.bad c p => .bad c (n+p)
   |.ok (t,m)=>if room st then .ok (st.length,n+m,st++[V5k 3 t n (n+m)]) else .non
  else if c=91 then V2s (V19 E s f) s d n st
  else if c=123 then V1z E (V19 E s f) s d n st
  else
   match E.scal (s.drop n) with
   |.non => .non
   |.bad c _ => .bad c n
   |.ok (k,t,m)=>if room st then .ok (st.length,n+m,st++[V5k k t n (n+m)]) else .non
def V1l(E:Vz)(s:Bs)(n j0:Nat):Va (Nat×Nat×Vc):=V19 E s 258 (min j0 256+1) n []
def V3e(n:Nat):Bool:=decide (97<=n)&&decide (n<=122) || decide (65<=n)&&decide (n<=90) || decide (48<=n)&&decide (n<=57) || n==43 || n==45 || n==95 || n==46
def V39(c:UInt8):Bool:=V3e c.toNat
def V3f(l:Bs):Bs:=l.takeWhile V39
def V9g:Bs:=[116,114,117,101]
def V8j:Bs:=[102,97,108,115,101]
def V2i(t:Bs):V2x (Nat×Bs) :=
 if t=V9g\/t=V8j then .ok (1,t) else
 match V1d t with
 |.ok x => .ok (4,x)
 | .bad c p=>if c=3 then (match V1y t with
     |.ok x => .ok (5,x)
     |.bad c p => .bad c p) else .bad c p
def Vd(l:Bs):Va (Nat×Bs×Nat) :=
 if 0<(Vf l).long then
  match V1q (l.take (Vf l).long) with
  |.ok x => .ok (6,x,(Vf l).long)
  |.bad c _ => .bad c 0
 else
  match V2i (V3f l) with
  |.ok (k,x) => .ok (k,x,(V3f l).length)
  |.bad c _ => .bad c 0
theorem byteAt_lt{s:Bs}{n c:Nat}(h:V9 s n=c)(hc:c≠0):n<s.length:=by
 unfold V9 at h
 split at h;rename_i x hx;exact (U7.1 hx).1
 exact absurd h.symm hc
def isF(s:Bs):Nat->Bs->V2x Nat
 |n,[] => .ok n
 |n,w::ws=>if s[n]?=some w then isF s (n+1) ws else .bad 3 n
def V1b(s:Bs)(n:Nat):V2x Nat :=
 let a:=Vr s (V7 s n)
 if a=s.length then .ok a else
 if V9 s a=10 then .ok (a+1) else
 if V9 s a=13 then isF s a [13,10] else .bad 3 a
structure It where
 kind:Nat
 a:Nat
 b:Nat
 ws:List KW
 va:Nat
 vb:Nat
 root:Nat
 nds:Vc
def V2e(E:Vz)(s:Bs)(kind n:Nat)(az:Bs):Va (Nat×It) :=
 match V1k E s (V7 s (n+az.length)) with
 |.non => .non
 |.bad c p => .bad c p
 |.ok (ws,e) =>
  match isF s (V7 s e) az with
  |.bad c p => .bad c p
  |.ok m => .ok (m,⟨kind,0,0,ws,0,0,0,[]⟩)
def V4b(E:Vz)(s:Bs)(n:Nat):Va (Nat×It) :=
 match V1k E s n with
 |.non => .non
 |.bad c p => .bad c p
 |.ok (ws,e) =>
  match isF s (V7 s e) [61] with
  |.bad c p => .bad c p
  |.ok m =>
   match V1l E s (V7 s m) 0 with
   |.non => .non
   |.bad c p => .bad c p
   |.ok (root,e2,nds) => .ok (e2,⟨1,0,0,ws,V7 s m,e2,root,nds⟩)
def V14(l:Bs):Bool:=match l with
 |[]=>true
 |c::_=>c.toNat==35 || c.toNat==13 || c.toNat==10
def V2d(E:Vz)(s:Bs)(n:Nat):Va (Nat×It) :=
 if pre (s.drop n) [91,91] then V2e E s 3 n [93,93] else
 if pre (s.drop n) [91] then V2e E s 2 n [93] else
 if V14 (s.drop n) then .ok (n,⟨0,0,0,[],0,0,0,[]⟩) else V4b E s n
def V2h(E:Vz)(s:Bs)(n:Nat):Va It :=
 match V2d E s (V7 s n) with
 |.non => .non
 |.bad c p => .bad c p
 |.ok (e,it) =>
  match V1b s e with
  |.bad c p => .bad c p
  |.ok m => .ok { it with a:=n,b:=m }
theorem V4h(s:Bs)(ac:Bs):∀n,n<=s.length->(∀m,isF s n ac = .ok m->m=n+ac.length/\m<=s.length)/\(∀c p,isF s n ac = .bad c p->p<=s.length/\c=3):=by
 induction ac with
 |nil=>intro n hn;exact⟨λ m h=>by (simp only[isF,V2x.ok.injEq]at h;subst h;exact⟨rfl,hn⟩),λ c p h=>by (simp[isF]at h)⟩
 |cons w ws ih =>
  intro n hn;unfold isF
  split
  rename_i h
  have aa:=(U7.1 h).1;obtain⟨i1,i2⟩:=ih (n+1) (by omega);exact⟨λ m h=>by (have:=i1 m h;simp only[Ub];omega),i2⟩
  exact⟨λ m h=>by (simp at h),λ c p h=>by (cases h;exact⟨hn,rfl⟩)⟩
theorem V4n(s:Bs)(n:Nat)(hn:n<=s.length) :
    (∀m,V1b s n = .ok m->n<=m/\m<=s.length/\((m=s.length/\Vr s (V7 s n)=m)\/(Vr s (V7 s n)<m/\V9 s (m-1)=10)))/\(∀c p,V1b s n = .bad c p->p<=s.length/\c≠0):=by
 have hb:=V8 s n hn;have hc:=V3n s (V7 s n) hb.2;unfold V1b;simp only;generalize Vr s (V7 s n)=a at hc⊢
 split
 rename_i h
 exact⟨λ m h=>by (cases h;exact⟨by omega,by omega,.inl ⟨by omega,rfl⟩⟩),λ c p h=>by (cases h)⟩
 split
 rename_i bD
 have:=byteAt_lt bD (by decide);exact⟨λ m h=>by (cases h;exact⟨by omega,by omega,.inr ⟨by omega,bD⟩⟩),λ c p h=>by (cases h)⟩
 split
 rename_i eS
 have:=byteAt_lt eS (by decide);obtain⟨i1,i2⟩:=V4h s [13,10] a (by omega);refine⟨λ m h=>?_,λ c p h=>by (have:=i2 c p h;omega)⟩;obtain⟨h1,h2⟩:=i1 m h;simp only[Ub,Ur]at h1;refine⟨by omega,h2,.inr ⟨by omega,?_⟩⟩;unfold isF at h
 split at h
 unfold isF at h
 split at h
 rename_i bD
 subst h1;show V9 s (a+1)=10;unfold V9;rw[bD];rfl
 cases h
 cases h
 exact⟨λ m h=>by (cases h),λ c p h=>by (cases h;exact⟨by omega,by decide⟩)⟩
