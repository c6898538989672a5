/-
 The walks and plain laws that the claim rests on, part 13.
-/
import Derived.Test.YtfogfaagjpebcaaGreatDoorP00
import Derived.Test.YtfogfaagjpebcaaGreatDoorP02
import Derived.Test.YtfogfaagjpebcaaGreatDoorP06
import Derived.Test.YtfogfaagjpebcaaGreatDoorP09
import Derived.Test.YtfogfaagjpebcaaGreatDoorP11
import Derived.Lib.Replace
set_option maxHeartbeats 16000000
set_option linter.all false
set_option linter.unusedVariables false
set_option linter.unusedSimpArgs false
namespace Go.Proofs.YtfogfaagjpebcaaGreatDoor.Pl
def splitB (b:UInt8):Bs→List Bs
 | []=>[[]]
 | c::l=>if c==b then []::splitB b l else
  match splitB b l with
  | []=>[[c]]
  | p::ps=>(c::p)::ps
def rightD (d:UInt8→Bool) (l:Bs):Bool:=(splitB 95 l).all fun p => !p.isEmpty && p.all d
def hexDigit (c:UInt8):Bool:=isDec c || (decide (97≤c.toNat) && decide (c.toNat≤102)) || (decide (65≤c.toNat) && decide (c.toNat≤70))
structure Rad where
 long:Nat
 base:Nat
 dig:UInt8→Bool
def radOf (l:Bs):Rad :=
 if pre l [48,120] then ⟨2,16,hexDigit⟩ else
 if pre l [48,111] then ⟨2,8,fun c=>decide (48≤c.toNat) && decide (c.toNat≤55)⟩ else
 if pre l [48,98] then ⟨2,2,fun c=>decide (48≤c.toNat) && decide (c.toNat≤49)⟩ else ⟨0,10,isDec⟩
def isSign (c:UInt8):Bool:=c.toNat==43 || c.toNat==45
def signed (l:Bs):Bool:=match l with
 | []=>false
 | c::_=>isSign c
def intVal (b:Nat) (l:Bs):Lib.NumEnd Int :=
 if b=10 then Lib.parseIntB 64 l else
 match puM b 18446744073709551615 0 l with
 | .ok v=>if v<9223372036854775808 then .ok (v:Int) else .range
 | .range => .range
 | Lib.NumEnd.syntax=>Lib.NumEnd.syntax
def lowless (l:Bs):Bs:=Lib.replaceAll l [95] []
def intRead3 (r:Rad) (sign ds:Bs):Out Bs :=
 if rightD r.dig ds=false∨(r.base=10∧1<ds.length∧ds[0]?=some 48) then .bad 3 0 else
 match intVal r.base (sign++lowless ds) with
 | .ok v => .ok (Lib.itoa v)
 | .range => .bad 8 0
 | Lib.NumEnd.syntax => .bad 3 0
def signIs (l:Bs):Bool:=decide ((radOf l).base=10) && signed l
def intRead (l:Bs):Out Bs:=if signIs l then intRead3 (radOf l) (l.take 1) (l.drop 1) else intRead3 (radOf l) [] (l.drop (radOf l).long)
def takeN (p:UInt8→Bool) (many:Nat) (l:Bs):Nat:=min many (l.takeWhile p).length
structure Dec where
 minus:Bool
 whole:Bs
 part:Bs
 neg:Bool
 power:Bs
def isRaise (c:UInt8):Bool:=c.toNat==101 || c.toNat==69
def isDot (c:UInt8):Bool:=c.toNat==46
def isMinus (c:UInt8):Bool:=c.toNat==45
def heads (p:UInt8→Bool) (l:Bs):Bool:=match l with
 | []=>false
 | c::_=>p c
def decSplit (l:Bs):Option Dec :=
 let m:=heads isMinus l
 let l1:=if m then l.drop 1 else l
 let wh:=l1.takeWhile isDec
 let l2:=l1.dropWhile isDec
 if wh=[]∨(1<wh.length∧wh[0]?=some 48) then none else
 let pt:=heads isDot l2
 let l3:=if pt then l2.drop 1 else l2
 let part:=if pt then l3.takeWhile isDec else []
 let l4:=if pt then l3.dropWhile isDec else l3
 let ra:=heads isRaise l4
 let l5:=if ra then l4.drop 1 else l4
 let sg:=ra && heads isSign l5
 let ng:=ra && heads isMinus l5
 let l6:=if sg then l5.drop 1 else l5
 let pw:=if ra then l6.takeWhile isDec else []
 let l7:=if ra then l6.dropWhile isDec else l6
 if l7=[]∧pt = !part.isEmpty∧ra = !pw.isEmpty then some ⟨m,wh,part,ng,pw⟩ else none
def noughts (l:Bs):Bs:=Lib.trimLeftS l [48]
def noughtsR (l:Bs):Bs:=Lib.trimRightS l [48]
def within (n:Int):Bool:=decide (-1000000000≤n) && decide (n≤1000000000)
def decVal (l:Bs):Nat:=l.foldl (fun a c=>a*10+(c.toNat-48)) 0
def decNum (neg:Bool) (power:Bs):Option Int :=
 if 12<(noughts power).length then none else
 let n:Int:=if neg then -(decVal (noughts power):Int) else (decVal (noughts power):Int)
 if within n then some n else none
def decRead (l:Bs):Out Bs :=
 match decSplit l with
 | none => .bad 3 0
 | some d =>
  match decNum d.neg d.power with
  | none => .bad 7 0
  | some n =>
   let ds:=noughts (d.whole++d.part)
   let sh:=noughtsR ds
   if sh=[] then .ok [48] else
   let e:Int:=n-d.part.length+ds.length-sh.length
   if within e then .ok ((if d.minus then [45] else [])++sh++[101]++Lib.itoa e) else .bad 7 0
def infB:Bs:=[105,110,102]
def nanB:Bs:=[110,97,110]
def unsigned (l:Bs):Bs:=Lib.trimLeftS l [43,45]
def fltSpecial (l:Bs):Bs :=
 if unsigned l=infB then (if 3<l.length∧l[0]?=some 45 then 45::infB else infB)
 else if unsigned l=nanB then nanB else []
def cutP (p:UInt8→Bool) (l:Bs):Bs × Bs × Bool :=
 match l.dropWhile (fun c => !p c) with
 | []=>(l,[],false)
 | _::r=>(l.takeWhile (fun c => !p c),r,true)
def wholeI (l:Bs):Bool:=match intRead l with
 | .ok _=>true
 | .bad c _=>c != 3
def power (l:Bs):Bool:=rightD isDec (if heads isSign l then l.drop 1 else l)
def fltRead (l:Bs):Out Bs :=
 if fltSpecial l≠[]∧l.length-(unsigned l).length<2 then .ok (fltSpecial l) else
 let (rest,e,raised):=cutP isRaise l
 let (n,part,point):=cutP isDot rest
 if (point || raised) && wholeI n && (!point || rightD isDec part) && (!raised || power e) then
  decRead (match lowless l with
   | 43::r=>r
   | r=>r)
 else .bad 3 0
structure Cut where
 date:Bs
 time:Bs
 part:Bs
 zone:Bs
 long:Nat
def zoneF:Bs:=[57,57,58,57,57]
def clockP (l:Bs):Bs × Bs :=
 if formM l timeF then (l.take 8,if heads isDot (l.drop 8) then (l.drop 9).takeWhile isDec else []) else ([],[])
def afterP (t p:Bs):Nat:=if p=[] then t.length else t.length+1+p.length
def zoneP (l:Bs):Bs :=
 match l with
 | []=>[]
 | c::r=>if c.toNat=90∨c.toNat=122 then [c] else if isSign c && formM r zoneF then (c::r).take 6 else []
def isTee (c:UInt8):Bool:=c.toNat==84 || c.toNat==116 || c.toNat==32
def splitD (l:Bs):Cut :=
 if formM l dateF then
  if heads isTee (l.drop 10) then
   let (t,p):=clockP (l.drop 11)
   if t=[] then ⟨l.take 10,[],[],[],10⟩ else
   let n:=10+(1+afterP t p)
   ⟨l.take 10,t,p,zoneP (l.drop n),n+(zoneP (l.drop n)).length⟩
  else ⟨l.take 10,[],[],[],10⟩
 else ⟨[],(clockP l).1,(clockP l).2,[],afterP (clockP l).1 (clockP l).2⟩
def withinD (l:Bs) (a b:Nat):Bool:=decide (a≤decVal (l.take 2)) && decide (decVal (l.take 2)≤b)
def daysP (y m:Nat):Nat :=
 if m=2 then (if y % 4≠0∨(y % 100=0∧y % 400≠0) then 28 else 29)
 else if m=4∨m=6∨m=9∨m=11 then 30 else 31
def mayD (c:Cut):Bool :=
 (c.date.isEmpty || (withinD (c.date.drop 5) 1 12 && withinD (c.date.drop 8) 1 (daysP (decVal (c.date.take 4)) (decVal ((c.date.drop 5).take 2))))) &&
 (c.time.isEmpty || (withinD c.time 0 23 && withinD (c.time.drop 3) 0 59 && withinD (c.time.drop 6) 0 (if (c.time.drop 3).take 2=[53,57] then 60 else 59))) &&
 (decide (c.zone.length<2) || (withinD (c.zone.drop 1) 0 23 && withinD (c.zone.drop 4) 0 59))
def upper (l:Bs):Bs:=l.map fun c=>if 97≤c.toNat∧c.toNat≤122 then c-32 else c
def textD (c:Cut):Bs :=
 c.date++(if c.date≠[]∧c.time≠[] then [84] else [])++c.time++(if noughtsR c.part≠[] then 46::noughtsR c.part else [])++upper c.zone
def datRead (l:Bs):Out Bs :=
 let c:=splitD l
 if c.long=0∨c.long<l.length then .bad 3 0 else
 if mayD c then .ok (textD c) else .bad 9 0
end Go.Proofs.YtfogfaagjpebcaaGreatDoor.Pl
namespace Go.Proofs.YtfogfaagjpebcaaGreatDoor.Pl
def kind8 (st:Nds) (i:Nat):Bool:=decide (st.length≤30000000) && match st[i]? with
 | some nd=>nd.kind==8 && decide (nd.keys.length≤30000000) && decide (nd.spots.length≤30000000) && decide (nd.subs.length≤30000000)
 | none=>false
def room (st:Nds):Bool:=decide (st.length≤20000000)
def way (table:Nat):List KW→Nat→Nat→Nds→Res (Nat × Nat × Nds)
 | [],_,_,_ => .non
 | (w,a,b)::rest,into,d,st =>
  match subOf st into w with
  | .non => .non
  | .yes i =>
   match rest with
   | [] => .bad 5 a
   | _::_=>if ownerOf st i=table+1 then way table rest i (d+1) st else .bad 5 a
  | .no =>
   match rest with
   | [] => .ok (into,d,st)
   | _::_ =>
    if 256<d+1 then .bad 4 a else
    if kind8 st into && room st then way table rest st.length (d+1) (putAt (st++[dotNd (table+1)]) into w (a,b) st.length) else .non
abbrev ValF:=Nat→Nat→Nds→Res (Nat × Nat × Nds)
def pairS (E:Env) (V:ValF) (s:Bs) (table at' d:Nat) (st:Nds):Res (Nat × Nds) :=
 match keyS E s at' with
 | .non => .non
 | .bad c p => .bad c p
 | .ok (ws,e) =>
  match way table ws table d st with
  | .non => .non
  | .bad c p => .bad c p
  | .ok (into,d',st') =>
   let e1:=blanksAt s e
   if byteAt s e1=61 then
    match V (d'+1) (blanksAt s (e1+1)) st' with
    | .non => .non
    | .bad c p => .bad c p
    | .ok (i,e2,st2) =>
     match ws.getLast? with
     | none => .non
     | some (w,a,b)=>if kind8 st2 into then .ok (e2,putAt st2 into w (a,b) i) else .non
   else .bad 3 e1
def tabF (E:Env) (V:ValF) (s:Bs) (table d:Nat):Nat→Nat→Nds→Res (Nat × Nds)
 | 0,_,_ => .non
 | f+1,n,st =>
  match pairS E V s table n d st with
  | .non => .non
  | .bad c p => .bad c p
  | .ok (e,st1) =>
   let e2:=blanksAt s e
   if byteAt s e2=125 then .ok (e2,st1) else
   if byteAt s e2=44 then tabF E V s table d f (blanksAt s (e2+1)) st1 else .bad 3 e2
def tableS (E:Env) (V:ValF) (s:Bs) (d n:Nat) (st:Nds):Res (Nat × Nat × Nds) :=
 if 256<d then .bad 4 n else
 if room st then
  let e:=blanksAt s (n+1)
  match (if byteAt s e=125 then .ok (e,st++[tabNd]) else tabF E V s st.length d (s.length+2) e (st++[tabNd]):Res (Nat × Nds)) with
  | .non => .non
  | .bad c p => .bad c p
  | .ok (e1,st1)=>if kind8 st1 st.length then .ok (st.length,e1+1,st1.modify st.length fun nd=>{ nd with sp:=((n:Int),((e1+1:Nat):Int)) }) else .non
 else .non
def listF (V:ValF) (s:Bs) (d:Nat):Nat→Nat→List Nat→Nds→Res (List Nat × Nat × Nds)
 | 0,_,_,_ => .non
 | f+1,n,subs,st =>
  if byteAt s n=93 then .ok (subs,n,st) else
  match V (d+1) n st with
  | .non => .non
  | .bad c p => .bad c p
  | .ok (i,e,st1) =>
   if 30000000<subs.length then .non else
   match gapAt s e with
   | .bad c p => .bad c p
   | .ok g =>
    if byteAt s g=93 then .ok (subs++[i],g,st1) else
    if byteAt s g=44 then
     match gapAt s (g+1) with
     | .bad c p => .bad c p
     | .ok g2=>listF V s d f g2 (subs++[i]) st1
    else .bad 3 g
def listS (V:ValF) (s:Bs) (d n:Nat) (st:Nds):Res (Nat × Nat × Nds) :=
 if 256<d then .bad 4 n else
 match gapAt s (n+1) with
 | .bad c p => .bad c p
 | .ok g =>
  match listF V s d (s.length+2) g [] st with
  | .non => .non
  | .bad c p => .bad c p
  | .ok (subs,e,st1)=>if room st1 then .ok (st1.length,e+1,st1++[listNd subs n (e+1)]) else .non
def valueF (E:Env) (s:Bs):Nat→ValF
 | 0=>fun _ _ _ => .non
 | f+1=>fun d n st =>
  let c:=byteAt s n
  if c=34∨c=39 then
   match E.str (s.drop n) with
   | .non => .non
   | .bad c p => .bad c (n+p)
   | .ok (t,m)=>if room st then .ok (st.length,n+m,st++[leaf 3 t n (n+m)]) else .non
  else if c=91 then listS (valueF E s f) s d n st
  else if c=123 then tableS E (valueF E s f) s d n st
  else
   match E.scal (s.drop n) with
   | .non => .non
   | .bad c _ => .bad c n
   | .ok (k,t,m)=>if room st then .ok (st.length,n+m,st++[leaf k t n (n+m)]) else .non
def readS (E:Env) (s:Bs) (n around:Nat):Res (Nat × Nat × Nds):=valueF E s 258 (min around 256+1) n []
def partN (n:Nat):Bool:=decide (97≤n) && decide (n≤122) || decide (65≤n) && decide (n≤90) || decide (48≤n) && decide (n≤57) || n==43 || n==45 || n==95 || n==46
def isPart (c:UInt8):Bool:=partN c.toNat
def tok (l:Bs):Bs:=l.takeWhile isPart
def trueB:Bs:=[116,114,117,101]
def falseB:Bs:=[102,97,108,115,101]
def plainS (t:Bs):Out (Nat × Bs) :=
 if t=trueB∨t=falseB then .ok (1,t) else
 match intRead t with
 | .ok x => .ok (4,x)
 | .bad c p=>if c=3 then (match fltRead t with
     | .ok x => .ok (5,x)
     | .bad c p => .bad c p) else .bad c p
def scalS (l:Bs):Res (Nat × Bs × Nat) :=
 if 0<(splitD l).long then
  match datRead (l.take (splitD l).long) with
  | .ok x => .ok (6,x,(splitD l).long)
  | .bad c _ => .bad c 0
 else
  match plainS (tok l) with
  | .ok (k,x) => .ok (k,x,(tok l).length)
  | .bad c _ => .bad c 0
end Go.Proofs.YtfogfaagjpebcaaGreatDoor.Pl
namespace Go.Proofs.YtfogfaagjpebcaaGreatDoor.Pl
theorem byteAt_lt {s:Bs} {n c:Nat} (h:byteAt s n=c) (hc:c≠0):n<s.length:=by
 unfold byteAt at h
 split at h
 · rename_i x hx;exact (List.getElem?_eq_some_iff.1 hx).1
 exact absurd h.symm hc
def isF (s:Bs):Nat→Bs→Out Nat
 | n,[] => .ok n
 | n,w::ws=>if s[n]?=some w then isF s (n+1) ws else .bad 3 n
def closedS (s:Bs) (n:Nat):Out Nat :=
 let a:=commentAt s (blanksAt s n)
 if a=s.length then .ok a else
 if byteAt s a=10 then .ok (a+1) else
 if byteAt s a=13 then isF s a [13,10] else .bad 3 a
structure It where
 kind:Nat
 a:Nat
 b:Nat
 ws:List KW
 va:Nat
 vb:Nat
 root:Nat
 nds:Nds
def headerS (E:Env) (s:Bs) (kind n:Nat) (ends:Bs):Res (Nat × It) :=
 match keyS E s (blanksAt s (n+ends.length)) with
 | .non => .non
 | .bad c p => .bad c p
 | .ok (ws,e) =>
  match isF s (blanksAt s e) ends with
  | .bad c p => .bad c p
  | .ok m => .ok (m,⟨kind,0,0,ws,0,0,0,[]⟩)
def pairI (E:Env) (s:Bs) (n:Nat):Res (Nat × It) :=
 match keyS E s n with
 | .non => .non
 | .bad c p => .bad c p
 | .ok (ws,e) =>
  match isF s (blanksAt s e) [61] with
  | .bad c p => .bad c p
  | .ok m =>
   match readS E s (blanksAt s m) 0 with
   | .non => .non
   | .bad c p => .bad c p
   | .ok (root,e2,nds) => .ok (e2,⟨1,0,0,ws,blanksAt s m,e2,root,nds⟩)
def isBlankI (l:Bs):Bool:=match l with
 | []=>true
 | c::_=>c.toNat==35 || c.toNat==13 || c.toNat==10
def bodyS (E:Env) (s:Bs) (n:Nat):Res (Nat × It) :=
 if pre (s.drop n) [91,91] then headerS E s 3 n [93,93] else
 if pre (s.drop n) [91] then headerS E s 2 n [93] else
 if isBlankI (s.drop n) then .ok (n,⟨0,0,0,[],0,0,0,[]⟩) else pairI E s n
def itemS (E:Env) (s:Bs) (n:Nat):Res It :=
 match bodyS E s (blanksAt s n) with
 | .non => .non
 | .bad c p => .bad c p
 | .ok (e,it) =>
  match closedS s e with
  | .bad c p => .bad c p
  | .ok m => .ok { it with a:=n,b:=m }
theorem isF_le (s:Bs) (want:Bs):∀n,n≤s.length→(∀m,isF s n want = .ok m→m=n+want.length∧m≤s.length)∧(∀c p,isF s n want = .bad c p→p≤s.length∧c=3):=by
 induction want with
 | nil=>intro n hn;exact⟨fun m h=>by (simp only[isF,Out.ok.injEq]at h;subst h;exact⟨rfl,hn⟩),fun c p h=>by (simp[isF]at h)⟩
 | cons w ws ih =>
  intro n hn;unfold isF
  split
  · rename_i h
    have hlt:=(List.getElem?_eq_some_iff.1 h).1;obtain⟨i1,i2⟩:=ih (n+1) (by omega);exact⟨fun m h=>by (have:=i1 m h;simp only[List.length_cons];omega),i2⟩
  exact⟨fun m h=>by (simp at h),fun c p h=>by (cases h;exact⟨hn,rfl⟩)⟩
theorem closedS_le (s:Bs) (n:Nat) (hn:n≤s.length) :
    (∀m,closedS s n = .ok m→n≤m∧m≤s.length∧((m=s.length∧commentAt s (blanksAt s n)=m)∨(commentAt s (blanksAt s n)<m∧byteAt s (m-1)=10)))∧(∀c p,closedS s n = .bad c p→p≤s.length∧c≠0):=by
 have hb:=blanksAt_le s n hn;have hc:=commentAt_le s (blanksAt s n) hb.2;unfold closedS;simp only;generalize commentAt s (blanksAt s n)=a at hc ⊢
 split
 · rename_i h
   exact⟨fun m h=>by (cases h;exact⟨by omega,by omega,.inl ⟨by omega,rfl⟩⟩),fun c p h=>by (cases h)⟩
 split
 · rename_i h10
   have:=byteAt_lt h10 (by decide);exact⟨fun m h=>by (cases h;exact⟨by omega,by omega,.inr ⟨by omega,h10⟩⟩),fun c p h=>by (cases h)⟩
 split
 · rename_i h13
   have:=byteAt_lt h13 (by decide);obtain⟨i1,i2⟩:=isF_le s [13,10] a (by omega);refine⟨fun m h=>?_,fun c p h=>by (have:=i2 c p h;omega)⟩;obtain⟨h1,h2⟩:=i1 m h;simp only[List.length_cons,List.length_nil]at h1;refine⟨by omega,h2,.inr ⟨by omega,?_⟩⟩;unfold isF at h
   split at h
   · unfold isF at h
     split at h
     · rename_i h10
       subst h1;show byteAt s (a+1)=10;unfold byteAt;rw[h10];rfl
     cases h
   cases h
 exact⟨fun m h=>by (cases h),fun c p h=>by (cases h;exact⟨by omega,by decide⟩)⟩
end Go.Proofs.YtfogfaagjpebcaaGreatDoor.Pl
