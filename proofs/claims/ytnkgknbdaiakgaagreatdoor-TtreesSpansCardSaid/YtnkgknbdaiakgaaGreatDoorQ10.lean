/- The proof's part 10. -/
import Derived.Test.YtnkgknbdaiakgaaGreatDoorQ08
import Derived.Test.YtnkgknbdaiakgaaGreatDoorQ09
import Derived.Shelf.Strconv.Quote
set_option maxHeartbeats 16000000
set_option linter.all false
set_option maxRecDepth 100000
namespace Go.Proofs.YtnkgknbdaiakgaaGreatDoor
open Pl Go.Proofs.Tryz Go.RowKit Go.Joins
namespace Pl
def V60(w c:UInt8):Bool:=if w.toNat==57 then decide (48<=c.toNat)&&decide (c.toNat<=57) else c.toNat==w.toNat
def Vw:List UInt8->List UInt8->Bool
 |_,[]=>true
 |[],_::_=>false
 |c::l,w::m=>V60 w c&&Vw l m
def V47:List UInt8:=[57,57,57,57,45,57,57,45,57,57]
def V4c:List UInt8:=[57,57,58,57,57,58,57,57]
theorem V4d(l m:List UInt8)(h:l.length<m.length):Vw l m=false:=by
 induction l generalizing m with
 | nil=>cases m with
  |nil=>simp at h
  |cons w m=>rfl
 |cons c l ih =>
  cases m with
  |nil=>simp at h
  |cons w m=>simp only[Vw,ih m (by simpa using h),Bool.and_false]
end Pl
theorem Oen(w c:UInt8):(V60 w c=true/\((((w.toNat:Int)==57)=true/\decide ((c.toNat:Int)<48)=false/\decide ((57:Int)<(c.toNat:Int))=false/\((w.toNat:Int) != 57)=false)\/(((w.toNat:Int)==57)=false/\((w.toNat:Int) != 57)=true/\((c.toNat:Int) != (w.toNat:Int))=false))) \/(V60 w c=false/\((((w.toNat:Int)==57)=true/\decide ((c.toNat:Int)<48)=true)\/(((w.toNat:Int)==57)=true/\decide ((c.toNat:Int)<48)=false/\decide ((57:Int)<(c.toNat:Int))=true)\/(((w.toNat:Int)==57)=false/\((w.toNat:Int) != 57)=true/\((c.toNat:Int) != (w.toNat:Int))=true))):=by
 unfold V60;by_cases h:w.toNat=57
 by_cases h1:c.toNat<48;right;refine⟨by simp[h];omega,.inl ⟨Ye,Ye⟩⟩
 by_cases h2:57<c.toNat;right;refine⟨by simp[h];omega,.inr (.inl ⟨Ye,Ye,Ye⟩)⟩
 left;refine⟨by simp[h];omega,.inl ⟨Ye,Ye,Ye,Ye⟩⟩
 by_cases h1:c.toNat=w.toNat;left;refine⟨by simp[h,h1],.inr ⟨Ye,Ye,Ye⟩⟩
 right;refine⟨by simp[h,h1],.inr (.inr ⟨Ye,Ye,Ye⟩)⟩
theorem Oax(s:ByteArray)(n:Nat):s.extract 0 n=⟨((bs s).take n).toArray⟩:=by
 apply U30;apply U2q.1;rw[U36,Nat.sub_zero,U2b]
theorem O65(s ad:ByteArray)(hw:∀h:Nat,(h1:h<ad.size)->(ad[h]'h1).toNat<128)(hs:s.size<=2147483647)(w:World):Calls prog 125 #[.string s,.string ad] w λ e w'=>e=.returned (.string (if Vw (bs s) (bs ad)=true then s.extract 0 ad.size else ⟨#[]⟩))/\Gr w w':=by
 obtain⟨X,hX⟩:=ExZ (Vw (bs s) (bs ad))
 rw[hX];by_cases ap:s.size<ad.size
 ·have:X=false:=by rw[<-hX];exact V4d _ _ (by rw[O0,O0];exact ap)
  subst this;clear hX;have hd:decide ((s.size:Int)<(ad.size:Int))=true:=Ye
  go_enter func125,ntmps125;exact J4
 have hd:decide ((s.size:Int)<(ad.size:Int))=false:=Ye;have HX:=U10 hX;have HW:=U10 hw;have U9:ad.size<=s.size:=Ya;clear hX hw ap;go_enter func125,ntmps125;go_wp2_with fail
 go_loopw [5] (λ _ wr=>∃ar:Nat,wr=w.iter ad ar/\ar<=ad.size/\Vw ((bs s).drop ar) ((bs ad).drop ar)=X) (λ _ wr=>ad.size-wr.iterPos w.heap.size)
 case atStart=>exact⟨0,rfl,Ya,by simpa using HX.o⟩
 case round =>
  obtain⟨ar,rfl,Q2,hx⟩:=hrel;have ek:=U10 hx;clear hx;by_cases hp:ar<ad.size
  ·have F8:∀ty,(Instr.next (.pointer (some ⟨w,0,none⟩)) true ty).run prog (w.iter ad ar)=_:=λ ty=>U4k w ad ar ty hp (HW.o ar hp)
   have bB:(0:Int)<=(ar:Int):=Ya;have bX:(ar:Int)<(s.size:Int):=Ya;have ft:=ek.o;rw[O8 s ar Ya,O8 ad ar hp]at ft;simp only[Vw]at ft;have bJ:(s[ar].toNat:Int)<256:=by have:=UInt8.toNat_lt s[ar];omega
   have aA:(ad[ar].toNat:Int)<256:=by have:=UInt8.toNat_lt ad[ar];omega
   rcases Oen ad[ar] s[ar] with⟨hf,hc⟩|⟨hf,hc⟩
   ·rw[hf,Bool.true_and]at ft;have pa:=U10 ft;clear ft hf;rcases hc with⟨q1,q2,q3,q4⟩|⟨q1,q2,q3⟩
    all_goals
     go_wp2_with fail
     go_roundw
     case rel=>exact⟨ar+1,rfl,Ya,pa.o⟩
     case measure=>simp;omega
   rw[hf,U4l]at ft;have eX:X=false:=ft.symm;subst eX;clear ft hf;rcases hc with⟨q1,q2⟩|⟨q1,q2,q3⟩|⟨q1,q2,q3⟩
   all_goals
    go_wp2_with fail
    go_ret
    exact⟨rfl,(Gr.refl w).alloc _⟩
  have F8:∀ty,(Instr.next (.pointer (some ⟨w,0,none⟩)) true ty).run prog (w.iter ad ar)=_:=λ ty=>run_next_end w ad ar ty hp
  have eX:X=true:=by
   have:=ek.o;have e0:(bs ad).drop ar=[]:=U1t (by rw[O0];omega);rw[e0]at this;rw[<-this];cases (bs s).drop ar <;> rfl
  subst eX;have bB:(0:Int)<=(ad.size:Int):=Ya
  have bX:(ad.size:Int)<=(s.size:Int):=Ya
  go_wp2_with fail
  go_ret
  exact⟨rfl,(Gr.refl w).alloc _⟩
theorem O7p(s ad:ByteArray)(hw:∀h:Nat,(h1:h<ad.size)->(ad[h]'h1).toNat<128)(hs:s.size<=2147483647)(hf:Vw (bs s) (bs ad)=false)(w:World):Calls prog 125 #[.string s,.string ad] w λ e w'=>e=.returned (.string ⟨#[]⟩)/\Gr w w' :=
 (O65 s ad hw hs w).mono λ e w' ⟨h1,h2⟩=>⟨by rw[h1,hf];rfl,h2⟩
theorem O2f(s:ByteArray)(h:((bs s).all λ c=>decide (c.toNat<128))=true):∀i:Nat,(h1:i<s.size)->(s[i]'h1).toNat<128:=by
 intro i h1;rw[U2k]at h;have:=h (s[i]'h1) (by
  have h2:i<(bs s).length:=by rw[O0];exact h1
  exact U43 h2)
 exact J5
theorem Og3(s:ByteArray)(hs:s.size<=2147483647)(hf:Vw (bs s) V4c=false)(w:World):Calls prog 126 #[.string s] w λ e w'=>e=.returned (.tuple #[.string ⟨#[]⟩,.string ⟨#[]⟩])/\Gr w w':=by
 have HF:=U10 hf;clear hf;go_enter func126,ntmps126;go_wp2_with (go_at_call 125;refine (O7p s ⟨#[57,57,58,57,57,58,57,57]⟩ (O2f _ Yd) hs HF.o _).mono ?_;rintro e w1 ⟨rfl,g1⟩)
 go_ret2
 exact⟨rfl,Gr.auto⟩
end Go.Proofs.YtnkgknbdaiakgaaGreatDoor
namespace Go.Proofs
open Go.Proofs.Tryz Go.Shelf
def Tryz.lays177_ren:Go.Shelf.Ren:=⟨λ|177=>29|250=>48|289=>78|197=>95|323=>108|260=>123|339=>152|340=>153|242=>154|119=>155|345=>181|346=>182|278=>183|n=>n,λ|9=>9|5=>5|4=>4|3=>3|37=>22|21=>21|105=>173|46=>109|119=>223|0=>0|139=>226|138=>225|49=>248|234=>249|131=>181|51=>158|236=>251|n=>n,λ|3=>4|4=>5|20=>7|21=>8|22=>9|23=>10|24=>11|n=>n⟩
theorem Tryz.lays177:Go.Proofs.Lays.n177 prog lays177_ren:=LaZ
open Go.RowKit in
theorem Tryz.strconv_Quote(T:Lib.PrintTabs)(s:ByteArray)(w:World)(ap:10*s.size+12<=140737488355328)(hT:Lib.PrintTabsAt 7 8 9 10 T w)(hU:Lib.Utf8Tabs 4 5 w):Calls prog 29 #[.string s] w λ e w'=>e=.returned (.string (strOfNums (Lib.quoteZ T s)))/\Below w w w':=Any.strconv_Quote lays177 Yc T s w ap hT hU
end Go.Proofs
namespace Go.Proofs.YtnkgknbdaiakgaaGreatDoor.Pl
def V1b(b:UInt8):Bs->List Bs
 |[]=>[[]]
 | c::l=>if c==b then []::V1b b l else
  match V1b b l with
  |[]=>[[c]]
  |p::ps=>(c::p)::ps
def V13(d:UInt8->Bool)(l:Bs):Bool:=(V1b 95 l).all λ p => !p.isEmpty&&p.all d
def V5v(c:UInt8):Bool:=O2 c || (decide (97<=c.toNat)&&decide (c.toNat<=102)) || (decide (65<=c.toNat)&&decide (c.toNat<=70))
structure Rad where
 long:Nat
 base:Nat
 dig:UInt8->Bool
def V4h(l:Bs):Rad :=
 if pre l [48,120] then ⟨2,16,V5v⟩ else
 if pre l [48,111] then ⟨2,8,λ c=>decide (48<=c.toNat)&&decide (c.toNat<=55)⟩ else
 if pre l [48,98] then ⟨2,2,λ c=>decide (48<=c.toNat)&&decide (c.toNat<=49)⟩ else ⟨0,10,O2⟩
def Vq(c:UInt8):Bool:=c.toNat==43 || c.toNat==45
def signed(l:Bs):Bool:=match l with
 |[]=>false
 |c::_=>Vq c
def V1z(b:Nat)(l:Bs):Lib.NumEnd Int :=
 if b=10 then Lib.parseIntB 64 l else
 match Vp b 18446744073709551615 0 l with
 |.ok v=>if v<9223372036854775808 then .ok (v:Int) else .range
 |.range => .range
 |Lib.NumEnd.syntax=>Lib.NumEnd.syntax
def Vn(l:Bs):Bs:=Lib.replaceAll l [95] []
def V1t(r:Rad)(sign ds:Bs):V2x Bs :=
 if V13 r.dig ds=false\/(r.base=10/\1<ds.length/\ds[0]?=some 48) then .bad 3 0 else
 match V1z r.base (sign++Vn ds) with
 |.ok v => .ok (Lib.itoa v)
 |.range => .bad 8 0
 |Lib.NumEnd.syntax => .bad 3 0
def V4x(l:Bs):Bool:=decide ((V4h l).base=10)&&signed l
def V1d(l:Bs):V2x Bs:=if V4x l then V1t (V4h l) (l.take 1) (l.drop 1) else V1t (V4h l) [] (l.drop (V4h l).long)
def V42(p:UInt8->Bool)(many:Nat)(l:Bs):Nat:=min many (l.takeWhile p).length
structure Dec where
 minus:Bool
 whole:Bs
 part:Bs
 neg:Bool
 power:Bs
def Vr(c:UInt8):Bool:=c.toNat==101 || c.toNat==69
def V2m(c:UInt8):Bool:=c.toNat==46
def V2k(c:UInt8):Bool:=c.toNat==45
def Vg(p:UInt8->Bool)(l:Bs):Bool:=match l with
 |[]=>false
 |c::_=>p c
def V4v(l:Bs):Option Dec :=
 let m:=Vg V2k l
 let l1:=if m then l.drop 1 else l
 let wh:=l1.takeWhile O2
 let l2:=l1.dropWhile O2
 if wh=[]\/(1<wh.length/\wh[0]?=some 48) then none else
 let pt:=Vg V2m l2
 let l3:=if pt then l2.drop 1 else l2
 let part:=if pt then l3.takeWhile O2 else []
 let l4:=if pt then l3.dropWhile O2 else l3
 let ra:=Vg Vr l4
 let l5:=if ra then l4.drop 1 else l4
 let sg:=ra&&Vg Vq l5
 let ng:=ra&&Vg V2k l5
 let l6:=if sg then l5.drop 1 else l5
 let pw:=if ra then l6.takeWhile O2 else []
 let l7:=if ra then l6.dropWhile O2 else l6
 if l7=[]/\pt = !part.isEmpty/\ra = !pw.isEmpty then some ⟨m,wh,part,ng,pw⟩ else none
def Vk(l:Bs):Bs:=Lib.trimLeftS l [48]
def Vm(l:Bs):Bs:=Lib.trimRightS l [48]
def V2t(n:Int):Bool:=decide (-1000000000<=n)&&decide (n<=1000000000)
def V1j(l:Bs):Nat:=l.foldl (λ a c=>a*10+(c.toNat-48)) 0
def V4i(neg:Bool)(power:Bs):Option Int :=
 if 12<(Vk power).length then none else
 let n:Int:=if neg then -(V1j (Vk power):Int) else (V1j (Vk power):Int)
 if V2t n then some n else none
def V18(l:Bs):V2x Bs :=
 match V4v l with
 |none => .bad 3 0
 |some d =>
  match V4i d.neg d.power with
  |none => .bad 7 0
  |some n =>
   let ds:=Vk (d.whole++d.part)
   let sh:=Vm ds
   if sh=[] then .ok [48] else
   let e:Int:=n-d.part.length+ds.length-sh.length
   if V2t e then .ok ((if d.minus then [45] else [])++sh++[101]++Lib.itoa e) else .bad 7 0
def V5w:Bs:=[105,110,102]
def V6n:Bs:=[110,97,110]
def V30(l:Bs):Bs:=Lib.trimLeftS l [43,45]
def V1v(l:Bs):Bs :=
 if V30 l=V5w then (if 3<l.length/\l[0]?=some 45 then 45::V5w else V5w)
 else if V30 l=V6n then V6n else []
def V5b(p:UInt8->Bool)(l:Bs):Bs×Bs×Bool :=
 match l.dropWhile (λ c => !p c) with
 |[]=>(l,[],false)
 |_::r=>(l.takeWhile (λ c => !p c),r,true)
def V5k(l:Bs):Bool:=match V1d l with
 |.ok _=>true
 |.bad c _=>c != 3
def power(l:Bs):Bool:=V13 O2 (if Vg Vq l then l.drop 1 else l)
def V21(l:Bs):V2x Bs :=
 if V1v l≠[]/\l.length-(V30 l).length<2 then .ok (V1v l) else
 let (rest,e,raised):=V5b Vr l
 let (n,part,vT):=V5b V2m rest
 if (vT || raised)&&V5k n&&(!vT || V13 O2 part)&&(!raised || power e) then
  V18 (match Vn l with
   |43::r=>r
   |r=>r)
 else .bad 3 0
structure V8c where
 date:Bs
 time:Bs
 part:Bs
 zone:Bs
 long:Nat
def V43:Bs:=[57,57,58,57,57]
def Vl(l:Bs):Bs×Bs :=
 if Vw l V4c then (l.take 8,if Vg V2m (l.drop 8) then (l.drop 9).takeWhile O2 else []) else ([],[])
def V2e(t p:Bs):Nat:=if p=[] then t.length else t.length+1+p.length
def V23(l:Bs):Bs :=
 match l with
 |[]=>[]
 |c::r=>if c.toNat=90\/c.toNat=122 then [c] else if Vq c&&Vw r V43 then (c::r).take 6 else []
def V48(c:UInt8):Bool:=c.toNat==84 || c.toNat==116 || c.toNat==32
def Vh(l:Bs):V8c :=
 if Vw l V47 then
  if Vg V48 (l.drop 10) then
   let (t,p):=Vl (l.drop 11)
   if t=[] then ⟨l.take 10,[],[],[],10⟩ else
   let n:=10+(1+V2e t p)
   ⟨l.take 10,t,p,V23 (l.drop n),n+(V23 (l.drop n)).length⟩
  else ⟨l.take 10,[],[],[],10⟩
 else ⟨[],(Vl l).1,(Vl l).2,[],V2e (Vl l).1 (Vl l).2⟩
def Vu(l:Bs)(a b:Nat):Bool:=decide (a<=V1j (l.take 2))&&decide (V1j (l.take 2)<=b)
def V2g(y m:Nat):Nat :=
 if m=2 then (if y % 4≠0\/(y % 100=0/\y % 400≠0) then 28 else 29)
 else if m=4\/m=6\/m=9\/m=11 then 30 else 31
def V44(c:V8c):Bool :=
 (c.date.isEmpty || (Vu (c.date.drop 5) 1 12&&Vu (c.date.drop 8) 1 (V2g (V1j (c.date.take 4)) (V1j ((c.date.drop 5).take 2))))) &&
 (c.time.isEmpty || (Vu c.time 0 23&&Vu (c.time.drop 3) 0 59&&Vu (c.time.drop 6) 0 (if (c.time.drop 3).take 2=[53,57] then 60 else 59))) &&
 (decide (c.zone.length<2) || (Vu (c.zone.drop 1) 0 23&&Vu (c.zone.drop 4) 0 59))
def V5x(l:Bs):Bs:=l.map λ c=>if 97<=c.toNat/\c.toNat<=122 then c-32 else c
def V54(c:V8c):Bs :=
 c.date++(if c.date≠[]/\c.time≠[] then [84] else [])++c.time++(if Vm c.part≠[] then 46::Vm c.part else [])++V5x c.zone
def V1w(l:Bs):V2x Bs :=
 let c:=Vh l
 if c.long=0\/c.long<l.length then .bad 3 0 else
 if V44 c then .ok (V54 c) else .bad 9 0
def kind8(st:Vc)(i:Nat):Bool:=decide (st.length<=30000000)&&match st[i]? with
 |some nd=>nd.kind==8&&decide (nd.keys.length<=30000000)&&decide (nd.spots.length<=30000000)&&decide (nd.subs.length<=30000000)
 |none=>false
def room(st:Vc):Bool:=decide (st.length<=20000000)
def V3d(table:Nat):List KW->Nat->Nat->Vc->V9 (Nat×Nat×Vc)
 |[],_,_,_ => .non
 |(w,a,b)::rest,into,d,st =>
  match V1a st into w with
  |.non => .non
  |.yes i =>
   match rest with
   |[] => .bad 5 a
   |_::_=>if V2c st i=table+1 then V3d table rest i (d+1) st else .bad 5 a
  |.no =>
   match rest with
   |[] => .ok (into,d,st)
   |_::_ =>
    if 256<d+1 then .bad 4 a else
    if kind8 st into&&room st then V3d table rest st.length (d+1) (Vf (st++[V1s (table+1)]) into w (a,b) st.length) else .non
abbrev V1n:=Nat->Nat->Vc->V9 (Nat×Nat×Vc)
def V1l(E:Vv)(V:V1n)(s:Bs)(table at' d:Nat)(st:Vc):V9 (Nat×Vc) :=
 match V1q E s at' with
 |.non => .non
 |.bad c p => .bad c p
 |.ok (ws,e) =>
  match V3d table ws table d st with
  |.non => .non
  |.bad c p => .bad c p
  |.ok (into,d',st') =>
   let e1:=V7 s e
   if Va s e1=61 then
    match V (d'+1) (V7 s (e1+1)) st' with
    |.non => .non
    |.bad c p => .bad c p
    |.ok (i,e2,st2) =>
     match ws.getLast? with
     |none => .non
     |some (w,a,b)=>if kind8 st2 into then .ok (e2,Vf st2 into w (a,b) i) else .non
   else .bad 3 e1
def V29(E:Vv)(V:V1n)(s:Bs)(table d:Nat):Nat->Nat->Vc->V9 (Nat×Vc)
 |0,_,_ => .non
 |f+1,n,st =>
  match V1l E V s table n d st with
  |.non => .non
  |.bad c p => .bad c p
  |.ok (e,st1) =>
   let e2:=V7 s e
   if Va s e2=125 then .ok (e2,st1) else
   if Va s e2=44 then V29 E V s table d f (V7 s (e2+1)) st1 else .bad 3 e2
def V1h(E:Vv)(V:V1n)(s:Bs)(d n:Nat)(st:Vc):V9 (Nat×Nat×Vc) :=
 if 256<d then .bad 4 n else
 if room st then
  let e:=V7 s (n+1)
  match (if Va s e=125 then .ok (e,st++[V16]) else V29 E V s st.length d (s.length+2) e (st++[V16]):V9 (Nat×Vc)) with
  |.non => .non
  |.bad c p => .bad c p
  |.ok (e1,st1)=>if kind8 st1 st.length then .ok (st.length,e1+1,st1.modify st.length λ nd=>{ nd with sp:=((n:Int),((e1+1:Nat):Int)) }) else .non
 else .non
def V1f(V:V1n)(s:Bs)(d:Nat):Nat->Nat->List Nat->Vc->V9 (List Nat×Nat×Vc)
 |0,_,_,_ => .non
 |f+1,n,subs,st =>
  if Va s n=93 then .ok (subs,n,st) else
  match V (d+1) n st with
  |.non => .non
  |.bad c p => .bad c p
  |.ok (i,e,st1) =>
   if 30000000<subs.length then .non else
   match Vt s e with
   |.bad c p => .bad c p
   |.ok g =>
    if Va s g=93 then .ok (subs++[i],g,st1) else
    if Va s g=44 then
     match Vt s (g+1) with
     |.bad c p => .bad c p
     |.ok g2=>V1f V s d f g2 (subs++[i]) st1
    else .bad 3 g
def V2a(V:V1n)(s:Bs)(d n:Nat)(st:Vc):V9 (Nat×Nat×Vc) :=
 if 256<d then .bad 4 n else
 match Vt s (n+1) with
 |.bad c p => .bad c p
 |.ok g =>
  match V1f V s d (s.length+2) g [] st with
  |.non => .non
  |.bad c p => .bad c p
  |.ok (subs,e,st1)=>if room st1 then .ok (st1.length,e+1,st1++[V4e subs n (e+1)]) else .non
def Vz(E:Vv)(s:Bs):Nat->V1n
 |0=>λ _ _ _ => .non
 |f+1=>λ d n st =>
  let c:=Va s n
  if c=34\/c=39 then
   match E.str (s.drop n) with
   |.non => .non
   |.bad c p => .bad c (n+p)
   |.ok (t,m)=>if room st then .ok (st.length,n+m,st++[V4t 3 t n (n+m)]) else .non
  else if c=91 then V2a (Vz E s f) s d n st
  else if c=123 then V1h E (Vz E s f) s d n st
  else
   match E.scal (s.drop n) with
   |.non => .non
   |.bad c _ => .bad c n
   |.ok (k,t,m)=>if room st then .ok (st.length,n+m,st++[V4t k t n (n+m)]) else .non
def V1g(E:Vv)(s:Bs)(n jw:Nat):V9 (Nat×Nat×Vc):=Vz E s 258 (min jw 256+1) n []
def V3c(n:Nat):Bool:=decide (97<=n)&&decide (n<=122) || decide (65<=n)&&decide (n<=90) || decide (48<=n)&&decide (n<=57) || n==43 || n==45 || n==95 || n==46
def V3a(c:UInt8):Bool:=V3c c.toNat
def V3e(l:Bs):Bs:=l.takeWhile V3a
def V9h:Bs:=[116,114,117,101]
def V8l:Bs:=[102,97,108,115,101]
def V2j(t:Bs):V2x (Nat×Bs) :=
 if t=V9h\/t=V8l then .ok (1,t) else
 match V1d t with
 |.ok x => .ok (4,x)
 | .bad c p=>if c=3 then (match V21 t with
     |.ok x => .ok (5,x)
     |.bad c p => .bad c p) else .bad c p
def Ve(l:Bs):V9 (Nat×Bs×Nat) :=
 if 0<(Vh l).long then
  match V1w (l.take (Vh l).long) with
  |.ok x => .ok (6,x,(Vh l).long)
  |.bad c _ => .bad c 0
 else
  match V2j (V3e l) with
  |.ok (k,x) => .ok (k,x,(V3e l).length)
  |.bad c _ => .bad c 0
theorem byteAt_lt{s:Bs}{n c:Nat}(h:Va s n=c)(hc:c≠0):n<s.length:=by
 unfold Va at h
 split at h;exact J192
 exact absurd h.symm hc
def isF(s:Bs):Nat->Bs->V2x Nat
 |n,[] => .ok n
 |n,w::ws=>if s[n]?=some w then isF s (n+1) ws else .bad 3 n
def V25(s:Bs)(n:Nat):V2x Nat :=
 let a:=Vx s (V7 s n)
 if a=s.length then .ok a else
 if Va s a=10 then .ok (a+1) else
 if Va s a=13 then isF s a [13,10] else .bad 3 a
structure It where
 kind:Nat
 a:Nat
 b:Nat
 ws:List KW
 va:Nat
 vb:Nat
 root:Nat
 nds:Vc
def V3k(E:Vv)(s:Bs)(kind n:Nat)(aY:Bs):V9 (Nat×It) :=
 match V1q E s (V7 s (n+aY.length)) with
 |.non => .non
 |.bad c p => .bad c p
 |.ok (ws,e) =>
  match isF s (V7 s e) aY with
  |.bad c p => .bad c p
  |.ok m => .ok (m,⟨kind,0,0,ws,0,0,0,[]⟩)
def V55(E:Vv)(s:Bs)(n:Nat):V9 (Nat×It) :=
 match V1q E s n with
 |.non => .non
 |.bad c p => .bad c p
 |.ok (ws,e) =>
  match isF s (V7 s e) [61] with
  |.bad c p => .bad c p
  |.ok m =>
   match V1g E s (V7 s m) 0 with
   |.non => .non
   |.bad c p => .bad c p
   |.ok (root,e2,nds) => .ok (e2,⟨1,0,0,ws,V7 s m,e2,root,nds⟩)
def V1c(l:Bs):Bool:=match l with
 |[]=>true
 |c::_=>c.toNat==35 || c.toNat==13 || c.toNat==10
def V3l(E:Vv)(s:Bs)(n:Nat):V9 (Nat×It) :=
 if pre (s.drop n) [91,91] then V3k E s 3 n [93,93] else
 if pre (s.drop n) [91] then V3k E s 2 n [93] else
 if V1c (s.drop n) then .ok (n,⟨0,0,0,[],0,0,0,[]⟩) else V55 E s n
def V3v(E:Vv)(s:Bs)(n:Nat):V9 It :=
 match V3l E s (V7 s n) with
 |.non => .non
 |.bad c p => .bad c p
 |.ok (e,it) =>
  match V25 s e with
  |.bad c p => .bad c p
  |.ok m => .ok { it with a:=n,b:=m }
theorem V57(s:Bs)(ad:Bs):∀n,n<=s.length->(∀m,isF s n ad=.ok m->m=n+ad.length/\m<=s.length)/\(∀c p,isF s n ad=.bad c p->p<=s.length/\c=3):=by
 induction ad with
 |nil=>intro n hn;exact⟨λ m h=>by (simp only[isF,V2x.ok.injEq]at h;subst h;exact⟨rfl,hn⟩),λ c p h=>by (simp[isF]at h)⟩
 |cons w ws ih =>
  intro n hn;unfold isF
  split
  rename_i h
  have a9:=(U14.1 h).1;obtain⟨i1,i2⟩:=ih (n+1) Ya;exact⟨λ m h=>by (have:=i1 m h;simp only[U1d];omega),i2⟩
  exact⟨λ m h=>by (simp at h),λ c p h=>by (cases h;exact⟨hn,rfl⟩)⟩
theorem V5f(s:Bs)(n:Nat)(hn:n<=s.length):(∀m,V25 s n=.ok m->n<=m/\m<=s.length/\((m=s.length/\Vx s (V7 s n)=m)\/(Vx s (V7 s n)<m/\Va s (m-1)=10)))/\(∀c p,V25 s n=.bad c p->p<=s.length/\c≠0):=by
 have hb:=V8 s n hn;have hc:=V3i s (V7 s n) hb.2;unfold V25;simp only;generalize Vx s (V7 s n)=a at hc⊢
 split
 rename_i h
 exact⟨λ m h=>by (cases h;exact⟨Ya,Ya,.inl ⟨Ya,rfl⟩⟩),λ c p h=>by (cases h)⟩
 split
 rename_i da
 have:=byteAt_lt da Yd;exact⟨λ m h=>by (cases h;exact⟨Ya,Ya,.inr ⟨Ya,da⟩⟩),λ c p h=>by (cases h)⟩
 split
 rename_i fF
 have:=byteAt_lt fF Yd;obtain⟨i1,i2⟩:=V57 s [13,10] a Ya;refine⟨λ m h=>?_,λ c p h=>by (have:=i2 c p h;omega)⟩;obtain⟨h1,h2⟩:=i1 m h;simp only[U1d,U1q]at h1;refine⟨Ya,h2,.inr ⟨Ya,?_⟩⟩;unfold isF at h
 split at h
 unfold isF at h
 split at h
 rename_i da
 subst h1;show Va s (a+1)=10;unfold Va;rw[da];rfl
 cases h
 cases h
 exact⟨λ m h=>by (cases h),λ c p h=>by (cases h;exact⟨Ya,Yd⟩)⟩
