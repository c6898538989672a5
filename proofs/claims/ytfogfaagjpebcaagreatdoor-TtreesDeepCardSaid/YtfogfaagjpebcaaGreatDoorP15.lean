/-
 The walks and plain laws that the claim rests on, part 15.
-/
import Derived.Test.YtfogfaagjpebcaaGreatDoorP00
import Derived.Test.YtfogfaagjpebcaaGreatDoorP13
set_option maxHeartbeats 16000000
set_option linter.all false
set_option linter.unusedVariables false
set_option linter.unusedSimpArgs false
namespace Go.Proofs.YtfogfaagjpebcaaGreatDoor.Pl
structure Gst where
 nds:Nds
 srt:List (Nat × Nat)
 sec:Nat
 dep:Nat
 many:Nat
 its:List It
 ns:List Int
def sortOf (g:Gst) (i:Nat):Nat × Nat:=g.srt.getD i (0,0)
def growNd (k:Nat):Nd:=⟨k,[],[],[],[],(-1,-1),0⟩
def growG (g:Gst) (k:Nat) (s:Nat × Nat):Gst:={ g with nds:=g.nds++[growNd k],srt:=g.srt++[s] }
def putG (g:Gst) (t:Nat) (w:Bs) (sp:Nat × Nat) (i:Nat):Gst:={ g with nds:=putAt g.nds t w sp i }
def grown8 (g:Gst) (i:Nat):Bool:=kind8 g.nds i && (sortOf g i).1 != 0
inductive Ov where
 | non
 | no
 | go (n d:Nat)
def stepG (g:Gst) (at' d:Nat) (w:Bs) (a b:Nat) (s:Nat × Nat) (over:Nat→Ov):Res (Nat × Nat × Gst) :=
 match subOf g.nds at' w with
 | .non => .non
 | .yes i =>
  match over i with
  | .non => .non
  | .no => .bad 5 a
  | .go n d' => .ok (n,d',g)
 | .no =>
  if 256<d+1 then .bad 4 a else
  if grown8 g at' && room g.nds then .ok (g.nds.length,d+1,putG (growG g 8 s) at' w (a,b) g.nds.length) else .non
def ledG (g:Gst) (d i:Nat):Ov :=
 if (sortOf g i).1=0 then .no else
 if (sortOf g i).1=4 then
  match g.nds[i]? with
  | some nd =>
   match nd.subs.getLast? with
   | some l => .go l (d+2)
   | none => .non
  | none => .non
 else .go i (d+1)
def innerG (g:Gst) (d i:Nat):Ov:=if sortOf g i=(3,g.many) then .go i (d+1) else .no
def wayG (s:Nat × Nat) (over:Gst→Nat→Nat→Ov):List KW→Nat→Nat→Gst→Res (Nat × Nat × Gst)
 | [],at',d,g => .ok (at',d,g)
 | (w,a,b)::rest,at',d,g =>
  match stepG g at' d w a b s (over g d) with
  | .non => .non
  | .bad c p => .bad c p
  | .ok (n,d2,g2)=>wayG s over rest n d2 g2
def tableG (g:Gst) (k:List KW):Res Gst :=
 match wayG (2,0) ledG k.dropLast 0 1 g with
 | .non => .non
 | .bad c p => .bad c p
 | .ok (at',d,g1) =>
  match k.getLast? with
  | none => .non
  | some (w,a,b) =>
   match stepG g1 at' d w a b (1,0) (fun i=>if (sortOf g1 i).1=2 then .go i (d+1) else .no) with
   | .non => .non
   | .bad c p => .bad c p
   | .ok (to',d2,g2) => .ok { g2 with srt:=g2.srt.set to' (1,0),sec:=to',dep:=d2,many:=g2.many+1 }
def elemG (g:Gst) (i d:Nat):Gst :=
 { growG g 8 (1,0) with nds:=(g.nds++[growNd 8]).modify i fun nd=>{ nd with subs:=nd.subs++[g.nds.length] },sec:=g.nds.length,dep:=d+2,many:=g.many+1 }
def subsOk (g:Gst) (i:Nat):Bool:=match g.nds[i]? with
 | some nd=>decide (nd.subs.length≤30000000)
 | none=>false
def moreG (g:Gst) (k:List KW):Res Gst :=
 match wayG (2,0) ledG k.dropLast 0 1 g with
 | .non => .non
 | .bad c p => .bad c p
 | .ok (at',d,g1) =>
  match k.getLast? with
  | none => .non
  | some (w,a,b) =>
   match subOf g1.nds at' w with
   | .non => .non
   | .yes i =>
    if (sortOf g1 i).1=4 then
     if 256<d+2 then .bad 4 a else
     if subsOk g1 i && room g1.nds then .ok (elemG g1 i d) else .non
    else .bad 5 a
   | .no =>
    if 256<d+2 then .bad 4 a else
    if grown8 g1 at' && room g1.nds then .ok (elemG (putG (growG g1 7 (4,0)) at' w (a,b) g1.nds.length) g1.nds.length d) else .non
def graftG (g:Gst) (nds:Nds):Gst :=
 { g with nds:=g.nds++nds.map fun nd=>{ nd with subs:=nd.subs.map (· + g.nds.length),owner:=0 },srt:=g.srt++nds.map fun _=>(0,0) }
def pairG (g:Gst) (k:List KW):Res (Nat × Nat × Gst) :=
 match wayG (3,g.many) innerG k.dropLast g.sec g.dep g with
 | .non => .non
 | .bad c p => .bad c p
 | .ok (at',d,g1) =>
  match k.getLast? with
  | none => .non
  | some (w,a,_) =>
   match subOf g1.nds at' w with
   | .non => .non
   | .yes _ => .bad 5 a
   | .no => .ok (at',d,g1)
def wordsG (E:Env) (s:Bs) (n:Nat) (g:Gst):Res (Nat × Nat × Nds × Gst) :=
 let n1:=blanksAt s n
 if isBlankI (s.drop n1) then .ok (0,0,[],g) else
 let m:=if pre (s.drop n1) [91,91] then 2 else if pre (s.drop n1) [91] then 1 else 0
 match keyS E s (blanksAt s (n1+m)) with
 | .non => .non
 | .bad c p => .bad c p
 | .ok (ws,e) =>
  if m=2 then
   match moreG g ws with
   | .non => .non
   | .bad c p => .bad c p
   | .ok g1 => .ok (0,0,[],g1)
  else if m=1 then
   match tableG g ws with
   | .non => .non
   | .bad c p => .bad c p
   | .ok g1 => .ok (0,0,[],g1)
  else
   match pairG g ws with
   | .non => .non
   | .bad c p => .bad c p
   | .ok (into,d,g1) =>
    let e1:=blanksAt s e
    if byteAt s e1=61 then
     match readS E s (blanksAt s (e1+1)) d with
     | .non => .non
     | .bad c p => .bad c p
     | .ok (root,_,nds) => .ok (into,root,nds,g1)
    else .ok (into,0,[],g1)
def graftOk (nds:Nds) (root:Nat):Bool:=decide (root≤30000000) && nds.all fun nd=>decide (nd.subs.length≤30000000) && nd.subs.all fun u=>decide (u≤30000000)
def itemG (E:Env) (s:Bs) (n:Nat) (g:Gst):Res (Nat × Gst) :=
 match wordsG E s n g with
 | .non => .non
 | .bad c p => .bad c p
 | .ok (into,root,nds,g1) =>
  match itemS E s n with
  | .non => .non
  | .bad c p => .bad c p
  | .ok it =>
   if it.kind=0 then .ok (it.b,{ g1 with its:=g1.its++[it],ns:=g1.ns++[-1] })
   else if it.kind=1 then
    match it.ws.getLast? with
    | none => .non
    | some (w,a,b) =>
     let g2:=graftG g1 nds
     if graftOk nds root && grown8 g2 into && room g2.nds then .ok (it.b,{ putG g2 into w (a,b) (root+g1.nds.length) with its:=g2.its++[it],ns:=g2.ns++[((root+g1.nds.length:Nat):Int)] }) else .non
   else .ok (it.b,{ g1 with its:=g1.its++[it],ns:=g1.ns++[((g1.sec:Nat):Int)] })
def okG (g:Gst):Bool:=decide (g.nds.length≤20000001) && decide (g.many≤20000000) && decide (g.dep≤100000000) && decide (g.its.length≤30000000)
def grownF (E:Env) (s:Bs):Nat→Nat→Gst→Res Gst
 | 0,_,_ => .non
 | f+1,n,g =>
  if n<s.length then
   if okG g then
    match itemG E s n g with
    | .non => .non
    | .bad c p => .bad c p
    | .ok (e,g1)=>grownF E s f e g1
   else .non
  else .ok g
def gst0:Gst:=⟨[growNd 8],[(1,0)],0,1,0,[],[]⟩
def grownS (E:Env) (s:Bs):Res Gst:=grownF E s (s.length+1) 0 gst0
end Go.Proofs.YtfogfaagjpebcaaGreatDoor.Pl
namespace Go.Proofs.YtfogfaagjpebcaaGreatDoor.Pl
theorem hdrop_get (s:Bs) (n:Nat) (c:UInt8) (h:s[n]?=some c):s.drop n=c::s.drop (n+1):=by
 obtain⟨h1,h2⟩:=List.getElem?_eq_some_iff.1 h;rw[List.drop_eq_getElem_cons h1,h2]
theorem hbyte (s:Bs) (n:Nat) (c:UInt8) (h:s[n]?=some c):byteAt s n=c.toNat:=by unfold byteAt;rw[h]
theorem hblanks (s:Bs) (n:Nat) (c:UInt8) (hc:s[n]?=some c) (h:isBlank c=false):blanksAt s n=n:=by
 unfold blanksAt blanks;rw[hdrop_get s n c hc,List.takeWhile_cons,if_neg (by rw[h];simp)];rfl
theorem hblank1 (s:Bs) (n:Nat) (c:UInt8) (h0:s[n]?=some 32) (hc:s[n+1]?=some c) (h:isBlank c=false):blanksAt s n=n+1:=by
 unfold blanksAt blanks;rw[hdrop_get s n 32 h0,hdrop_get s (n+1) c hc,List.takeWhile_cons,if_pos (by decide),List.takeWhile_cons,if_neg (by rw[h];simp)];rfl
theorem hend (s:Bs) (n:Nat) (h:n=s.length):blanksAt s n=n:=by
 subst h;unfold blanksAt blanks;rw[List.drop_length];rfl
def kwB (b:Nat):Nat→Nat→List KW
 | _,0=>[]
 | j,r+1=>([97],b+2*j,b+2*j+1)::kwB b (j+1) r
theorem kwB_snoc (b:Nat):∀r j,kwB b j (r+1)=kwB b j r++[([97],b+2*(j+r),b+2*(j+r)+1)]:=by
 intro r
 induction r with
 | zero=>intro j;rfl
 | succ r ih =>
  intro j;rw[kwB,ih (j+1),kwB,List.cons_append,show j+1+r=j+(r+1) by omega]
theorem kwB_drop (b r:Nat):(kwB b 0 (r+1)).dropLast=kwB b 0 r:=by rw[kwB_snoc,List.dropLast_concat]
theorem kwB_last (b r:Nat):(kwB b 0 (r+1)).getLast?=some ([97],b+2*r,b+2*r+1):=by rw[kwB_snoc,List.getLast?_concat,Nat.zero_add]
structure WdAt (s:Bs) (b m:Nat) (c:UInt8):Prop where
 a:∀j,j≤m→s[b+2*j]?=some 97
 dot:∀j,j<m→s[b+2*j+1]?=some 46
 c:s[b+2*m+1]?=some c
theorem word_ab (E:Env) (s:Bs) (n:Nat) (w c:UInt8) (hw:w=97∨w=120∨w=121) (h1:s[n]?=some w) (h2:s[n+1]?=some c) (hc:c=93∨c=46∨c=32):word E s n = .ok ([w],n+1):=by
 unfold word;have hd:s.drop n=w::c::s.drop (n+2):=by rw[hdrop_get s n _ h1,hdrop_get s (n+1) _ h2]
 have hl:longAt s n=false:=by
  unfold longAt;rw[hd];rcases hw with rfl|rfl|rfl <;> rcases hc with rfl|rfl|rfl <;> rfl
 have hbr:bareRun (w::c::s.drop (n+2))=1:=by
  unfold bareRun;rcases hw with rfl|rfl|rfl <;> rcases hc with rfl|rfl|rfl <;> rfl
 rw[hl,hd,hbr];rfl
theorem keyF_wd (E:Env) {s:Bs} {b m:Nat} (h:WdAt s b m 93):∀(r j f:Nat) (acc:List KW),j+r=m→r<f→keyF E s f (b+2*j) acc = .ok (acc++kwB b j (r+1),b+2*m+1):=by
 intro r
 induction r with
 | zero =>
  intro j f acc h1 h2;obtain⟨f,rfl⟩:∃g,f=g+1:=⟨f-1,by omega⟩
  obtain rfl:j=m:=by omega
  rw[keyF,word_ab E _ _ 97 93 (.inl rfl) (h.a j (Nat.le_refl _)) h.c (.inl rfl)];simp only;rw[hblanks _ _ 93 h.c (by decide),if_neg (by rw[hbyte _ _ _ h.c];decide)];rfl
 | succ r ih =>
  intro j f acc h1 h2;obtain⟨f,rfl⟩:∃g,f=g+1:=⟨f-1,by omega⟩
  have h46:=h.dot j (by omega);have hn:=h.a (j+1) (by omega);rw[keyF,word_ab E _ _ 97 46 (.inl rfl) (h.a j (by omega)) h46 (.inr (.inl rfl))];simp only;rw[hblanks _ _ 46 h46 (by decide),if_pos (show byteAt _ _=46 from hbyte _ _ _ h46),show b+2*j+1+1=b+2*(j+1) from by omega,
   hblanks _ _ 97 hn (by decide),ih (j+1) f _ (by omega) (by omega),List.append_assoc]
  rfl
theorem WdAt.lt {s:Bs} {b m:Nat} {c:UInt8} (h:WdAt s b m c):b+2*m+1<s.length:=(List.getElem?_eq_some_iff.1 h.c).1
theorem keyS_wd (E:Env) {s:Bs} {b m:Nat} (h:WdAt s b m 93):keyS E s b = .ok (kwB b 0 (m+1),b+2*m+1):=by
 unfold keyS;have h1:=keyF_wd E h m 0 (s.length+2) [] (by omega) (by have:=h.lt;omega)
 simpa using h1
structure FrG (g:Gst) (into:Nat):Prop where
 nd:∃nd,g.nds[into]?=some nd∧nd.kind=8∧(nd.keys=[]∨nd.keys=[[120]])∧nd.keys.length≤1∧nd.spots.length≤1∧nd.subs.length≤1
 room:g.nds.length≤3000
 srt:(sortOf g into).1≠0
 len:g.srt.length=g.nds.length
theorem FrG.none {g:Gst} {into:Nat} (h:FrG g into):subOf g.nds into [97] = .no:=by
 obtain⟨nd,h1,_,h3,_⟩:=h.nd;unfold subOf;rw[h1];simp only;rcases h3 with h3|h3 <;> (rw[h3];rfl)
theorem FrG.lt {g:Gst} {into:Nat} (h:FrG g into):into<g.nds.length:=by
 obtain⟨nd,h1,_⟩:=h.nd;exact (List.getElem?_eq_some_iff.1 h1).1
theorem FrG.k8 {g:Gst} {into:Nat} (h:FrG g into):grown8 g into=true:=by
 obtain⟨nd,h1,h2,_,h4,h5,h6⟩:=h.nd;have:=h.room;have hs:=h.srt;unfold grown8 kind8;rw[h1];simp[h2,hs];omega
theorem FrG.rm {g:Gst} {into:Nat} (h:FrG g into):Pl.room g.nds=true:=by
 have:=h.room;unfold Pl.room;simp;omega
theorem put_last (st:Nds) (k into:Nat) (w:Bs) (sp:Nat × Nat) (i:Nat) (h:into<st.length):(putAt (st++[growNd k]) into w sp i)[st.length]?=some (growNd k):=by
 unfold putAt;rw[List.getElem?_modify];simp[show into≠st.length by omega]
theorem put_len (st:Nds) (into:Nat) (w:Bs) (sp:Nat × Nat) (i:Nat):(putAt st into w sp i).length=st.length:=by simp[putAt]
theorem srt_new {g:Gst} (h:g.srt.length=g.nds.length) (k:Nat) (s:Nat × Nat) (t:Nat) (w:Bs) (sp:Nat × Nat) (i:Nat):sortOf (putG (growG g k s) t w sp i) g.nds.length=s∧(putG (growG g k s) t w sp i).srt.length=(putG (growG g k s) t w sp i).nds.length:=by
 refine⟨?_,?_⟩
 · show (g.srt++[s]).getD g.nds.length (0,0)=s;rw[List.getD_eq_getElem?_getD,←h,List.getElem?_append_right (Nat.le_refl _),Nat.sub_self];rfl
 show (g.srt++[s]).length=(putAt (g.nds++[growNd k]) t w sp i).length;simp[putAt,h]
theorem FrG.more {g:Gst} {into:Nat} (h:FrG g into) (s:Nat × Nat) (hs:s.1≠0) (w:Bs) (sp:Nat × Nat) (hl:g.nds.length+1≤3000):FrG (putG (growG g 8 s) into w sp g.nds.length) g.nds.length :=
 ⟨⟨growNd 8,put_last g.nds 8 into w sp g.nds.length h.lt,rfl,.inl rfl,by simp[growNd],by simp[growNd],by simp[growNd]⟩,by
  show (putAt (g.nds++[growNd 8]) into w sp g.nds.length).length≤3000;rw[put_len];simp;omega,by rw[(srt_new h.len 8 s into w sp g.nds.length).1];exact hs,(srt_new h.len 8 s into w sp g.nds.length).2⟩
theorem step_new {g:Gst} {into:Nat} (h:FrG g into) (d a b:Nat) (s:Nat × Nat) (over:Nat→Ov):stepG g into d [97] a b s over=if 256<d+1 then .bad 4 a else .ok (g.nds.length,d+1,putG (growG g 8 s) into [97] (a,b) g.nds.length):=by
 unfold stepG;rw[h.none];simp only;rw[h.k8,h.rm];rfl
theorem wayG_words (s:Nat × Nat) (hs:s.1≠0) (over:Gst→Nat→Nat→Ov) (b:Nat):∀(r j into d:Nat) (g:Gst),FrG g into→d+r≤256→g.nds.length+r≤3000 →
    ∃into' g',wayG s over (kwB b j r) into d g = .ok (into',d+r,g')∧FrG g' into'∧g'.nds.length=g.nds.length+r∧g'.sec=g.sec∧g'.many=g.many∧g'.its=g.its:=by
 intro r
 induction r with
 | zero=>intro j into d g h _ _;exact⟨into,g,rfl,h,rfl,rfl,rfl,rfl⟩
 | succ r ih =>
  intro j into d g h hd hl;refine Z204 ?_;intro hm hlen;obtain⟨into',g',hw,ho,hln,hsc,hmn,hit⟩:=ih (j+1) g.nds.length (d+1) _ hm (by omega) (by rw[hlen];omega);refine⟨into',g',?_,ho,by rw[hln,hlen];omega,hsc,hmn,hit⟩;rw[kwB,wayG,step_new h,if_neg (by omega)];simp only;rw[hw,show d+1+r=d+(r+1) by omega]
theorem wayG_deep (s:Nat × Nat) (hs:s.1≠0) (over:Gst→Nat→Nat→Ov) (b:Nat):∀(r q j into d:Nat) (g:Gst),FrG g into→d+r=256→r<q→g.nds.length+r≤3000 →
    wayG s over (kwB b j q) into d g = .bad 4 (b+2*(j+r)):=by
 intro r
 induction r with
 | zero =>
  intro q j into d g h hd hq _;obtain⟨q,rfl⟩:∃x,q=x+1:=⟨q-1,by omega⟩
  rw[kwB,wayG,step_new h,if_pos (by omega)];rfl
 | succ r ih =>
  intro q j into d g h hd hq hl;obtain⟨q,rfl⟩:∃x,q=x+1:=⟨q-1,by omega⟩
  refine Z204 ?_;intro hm hlen;rw[kwB,wayG,step_new h,if_neg (by omega)];simp only;rw[ih q (j+1) _ (d+1) _ hm (by omega) (by omega) (by rw[hlen];omega),show j+1+r=j+(r+1) by omega]
structure SecG (g:Gst):Prop where
 nd:g.nds[g.sec]?=some (growNd 8)
 srt:(sortOf g g.sec).1≠0
 len:g.srt.length=g.nds.length
theorem tableG_ok {g:Gst} (h:FrG g 0) (b m:Nat) (hm:m≤254) (hl:g.nds.length+m+1≤3000):∃g',tableG g (kwB b 0 (m+1)) = .ok g'∧SecG g'∧g'.dep=m+2∧g'.nds.length=g.nds.length+m+1∧g'.many=g.many+1∧g'.its=g.its:=by
 obtain⟨into,g1,hw,hf,hlen,_,hmn,hit⟩:=wayG_words (2,0) (by decide) ledG b m 0 0 1 g h (by omega) (by omega);have hn:=put_last g1.nds 8 into [97] (b+2*m,b+2*m+1) g1.nds.length hf.lt;obtain⟨g2,hg2⟩:∃x,putG (growG g1 8 (1,0)) into [97] (b+2*m,b+2*m+1) g1.nds.length=x:=⟨_,rfl⟩
 have hl2:g2.nds.length=g1.nds.length+1:=by
  rw[←hg2];show (putAt (g1.nds++[growNd 8]) into _ _ _).length=_;rw[put_len];simp
 replace hn:g2.nds[g1.nds.length]?=some (growNd 8):=by rw[←hg2];exact hn
 have hsl:g2.srt.length=g2.nds.length:=by rw[←hg2];exact (srt_new hf.len 8 (1,0) into _ _ _).2
 refine⟨{ g2 with srt:=g2.srt.set g1.nds.length (1,0),sec:=g1.nds.length,dep:=m+2,many:=g2.many+1 },?_,⟨hn,?_,by show (g2.srt.set _ _).length=g2.nds.length;rw[List.length_set];exact hsl⟩,rfl,by show g2.nds.length=_;omega,by show g2.many+1=_;rw[←hg2];show g1.many+1=_;rw[hmn],by show g2.its=_;rw[←hg2];exact hit⟩
 · unfold tableG;rw[kwB_drop,hw];simp only;rw[kwB_last];simp only;rw[step_new hf,if_neg (by omega),hg2];simp only;rw[show 1+m+1=m+2 by omega]
 show ((g2.srt.set g1.nds.length (1,0)).getD g1.nds.length (0,0)).1≠0;rw[List.getD_eq_getElem?_getD,List.getElem?_set];simp[hsl,hl2]
theorem tableG_deep {g:Gst} (h:FrG g 0) (b m:Nat) (hm:255≤m) (hl:g.nds.length+256≤3000):tableG g (kwB b 0 (m+1)) = .bad 4 (b+2*255):=by
 unfold tableG;rw[kwB_drop];by_cases h5:m=255
 · subst h5;obtain⟨into,g1,hw,hf,_⟩:=wayG_words (2,0) (by decide) ledG b 255 0 0 1 g h (by omega) (by omega);rw[hw];simp only;rw[kwB_last];simp only;rw[step_new hf,if_pos (by omega)]
 rw[wayG_deep (2,0) (by decide) ledG b 255 m 0 0 1 g h (by omega) (by omega) (by omega)]
theorem elem_sec {g:Gst} (i d:Nat) (hi:i<g.nds.length) (hl:g.srt.length=g.nds.length):SecG (elemG g i d) :=
 ⟨by
  show ((g.nds++[growNd 8]).modify i _)[g.nds.length]?=_;rw[List.getElem?_modify];simp[show i≠g.nds.length by omega],by
  show ((g.srt++[(1,0)]).getD g.nds.length (0,0)).1≠0;rw[List.getD_eq_getElem?_getD,←hl,List.getElem?_append_right (Nat.le_refl _),Nat.sub_self];simp,by
  show (g.srt++[(1,0)]).length=((g.nds++[growNd 8]).modify i _).length;simp[hl]⟩
theorem elem_len {g:Gst} (i d:Nat):(elemG g i d).nds.length=g.nds.length+1:=by
 show ((g.nds++[growNd 8]).modify i _).length=_;simp
theorem moreG_ok {g:Gst} (h:FrG g 0) (b m:Nat) (hm:m≤253) (hl:g.nds.length+m+2≤3000):∃g',moreG g (kwB b 0 (m+1)) = .ok g'∧SecG g'∧g'.dep=m+3∧g'.nds.length=g.nds.length+m+2∧g'.many=g.many+1∧g'.its=g.its:=by
 obtain⟨into,g1,hw,hf,hlen,_,hmn,hit⟩:=wayG_words (2,0) (by decide) ledG b m 0 0 1 g h (by omega) (by omega);have hln:(putG (growG g1 7 (4,0)) into [97] (b+2*m,b+2*m+1) g1.nds.length).nds.length=g1.nds.length+1:=by
  show (putAt (g1.nds++[growNd 7]) into _ _ _).length=_;rw[put_len];simp
 have he:=elem_sec (g:=putG (growG g1 7 (4,0)) into [97] (b+2*m,b+2*m+1) g1.nds.length) g1.nds.length (1+m) (by rw[hln];omega) (srt_new hf.len 7 (4,0) into _ _ _).2;refine⟨_,?_,he,?_,by rw[elem_len,hln];omega,by show g1.many+1=_;rw[hmn],hit⟩
 · unfold moreG;rw[kwB_drop,hw];simp only;rw[kwB_last];simp only;rw[hf.none];simp only;rw[if_neg (by omega),hf.k8,hf.rm];rfl
 show 1+m+2=m+3;omega
theorem moreG_deep {g:Gst} (h:FrG g 0) (b m:Nat) (hm:m=254) (hl:g.nds.length+256≤3000):moreG g (kwB b 0 (m+1)) = .bad 4 (b+2*m):=by
 subst hm;obtain⟨into,g1,hw,hf,_⟩:=wayG_words (2,0) (by decide) ledG b 254 0 0 1 g h (by omega) (by omega);unfold moreG;rw[kwB_drop,hw];simp only;rw[kwB_last];simp only;rw[hf.none];simp only;rw[if_pos (by omega)]
end Go.Proofs.YtfogfaagjpebcaaGreatDoor.Pl
namespace Go.Proofs.YtfogfaagjpebcaaGreatDoor.Pl
theorem closed_nl (s:Bs) (k:Nat) (h:s[k]?=some 10):closedS s k = .ok (k+1):=by
 have hb:blanksAt s k=k:=hblanks s k 10 h (by decide);have hc:commentAt s k=k:=by unfold commentAt;rw[hdrop_get s k 10 h];rfl
 unfold closedS;simp only;rw[hb,hc,if_neg (Nat.ne_of_lt (List.getElem?_eq_some_iff.1 h).1),if_pos (show byteAt s k=10 from hbyte s k 10 h)]
theorem closed_end (s:Bs) (k:Nat) (h:k=s.length):closedS s k = .ok k:=by
 have hb:=hend s k h;subst h;have hc:commentAt s s.length=s.length:=by unfold commentAt;rw[List.drop_length];rfl
 unfold closedS;simp only;rw[hb,hc,if_pos rfl]
theorem scal_one (l:Bs) (h:l=[]∨∃r,l=10::r):scalS (49::l) = .ok (4,[49],1):=by
 rcases h with rfl|⟨r,rfl⟩ <;> kernel_rfl
theorem scal_two (l:Bs):scalS (49::93::l) = .ok (4,[49],1):=by kernel_rfl
theorem one_at (E:Env) (hE:E.scal=scalS) (s:Bs) (n f d:Nat) (st:Nds) (h:s[n]?=some 49) (h2:s.drop (n+1)=[]∨(∃r,s.drop (n+1)=10::r)∨∃r,s.drop (n+1)=93::r) (hr:st.length≤20000000) :
    valueF E s (f+1) d n st = .ok (st.length,n+1,st++[leaf 4 [49] n (n+1)]):=by
 have hb:byteAt s n=49:=hbyte s n 49 h;have hs:scalS (s.drop n) = .ok (4,[49],1):=by
  rw[hdrop_get s n 49 h];rcases h2 with h2|h2|⟨r,h2⟩
  · exact scal_one _ (.inl h2)
  · exact scal_one _ (.inr h2)
  rw[h2];exact scal_two r
 rw[valueF];simp only[hb];rw[if_neg (by decide),if_neg (by decide),if_neg (by decide),hE,hs];simp only;rw[if_pos (by simp[Pl.room];omega)]
structure LsAt (s:Bs) (a k:Nat):Prop where
 o:∀j,j<k→s[a+j]?=some 91
 n:s[a+k]?=some 49
 c:∀j,j<k→s[a+k+1+j]?=some 93
theorem gap_self (s:Bs) (n:Nat) (c:UInt8) (hc:s[n]?=some c) (h:c=91∨c=49∨c=93):gapAt s n = .ok n:=by
 apply gapAt_stop;unfold gapStep;rw[hdrop_get s n c hc];have hb:blanks (c::s.drop (n+1))=0:=by
  unfold blanks;rw[List.takeWhile_cons,if_neg (by rcases h with rfl|rfl|rfl <;> decide)];rfl
 rw[hb];rcases h with rfl|rfl|rfl <;> rfl
theorem val_list (E:Env) (s:Bs) (f d n:Nat) (st:Nds) (h:s[n]?=some 91):valueF E s (f+1) d n st=listS (valueF E s f) s d n st:=by
 rw[valueF];simp[hbyte s n 91 h]
theorem lists_at (E:Env) (hE:E.scal=scalS) {s:Bs} {a k:Nat} (h:LsAt s a k) (hk:1≤k):∀(q p f d:Nat) (st:Nds),p+q=k→q<f→d+q≤257→st.length+q≤20000000 →
    ∃i M,valueF E s f d (a+p) st = .ok (i,a+k+1+q,st++M)∧M.length=q+1∧i≤st.length+q∧∀nd∈M,nd.subs.length≤1∧∀u∈nd.subs,u≤st.length+q:=by
 intro q
 induction q with
 | zero =>
  intro p f d st h1 h2 h3 h4;obtain rfl:p=k:=by omega
  obtain⟨f,rfl⟩:∃g,f=g+1:=⟨f-1,by omega⟩
  exact⟨_,_,one_at E hE s (a+p) f d st h.n (.inr (.inr ⟨_,hdrop_get s _ 93 (h.c 0 (by omega))⟩)) (by omega),rfl,Nat.le_refl _,by simp[leaf]⟩
 | succ q ih =>
  intro p f d st h1 h2 h3 h4;obtain⟨f,rfl⟩:∃g,f=g+1:=⟨f-1,by omega⟩
  obtain⟨i,M,hv,hM,hi,hsub⟩:=ih (p+1) f (d+1) st (by omega) (by omega) (by omega) (by omega);rw[val_list _ _ _ _ _ _ (h.o p (by omega))];have hnext:∃c,s[a+p+1]?=some c∧(c=91∨c=49):=by
   by_cases hp:p+1<k
   · exact⟨91,h.o (p+1) hp,.inl rfl⟩
   have e:p+1=k:=by omega
   exact⟨49,by rw[show a+p+1=a+k by omega];exact h.n,.inr rfl⟩
  obtain⟨c,hc,hc2⟩:=hnext;have hg1:gapAt s (a+p+1) = .ok (a+p+1):=gap_self _ _ c hc (by rcases hc2 with rfl|rfl <;> simp);have hcl:=h.c q (by omega);have hg2:gapAt s (a+k+1+q) = .ok (a+k+1+q):=gap_self _ _ _ hcl (by simp);have hnb:¬byteAt s (a+p+1)=93:=by
   rw[hbyte _ _ _ hc];rcases hc2 with rfl|rfl <;> decide
  refine⟨(st++M).length,M++[listNd [i] (a+p) (a+k+1+(q+1))],?_,by simp[hM],by simp[hM],fun nd hnd=>?_⟩;rotate_left
  · rcases List.mem_append.1 hnd with h'|h'
    · exact⟨(hsub nd h').1,fun u hu=>Nat.le_succ_of_le ((hsub nd h').2 u hu)⟩
    obtain rfl:=List.mem_singleton.1 h';refine⟨by simp[listNd],fun u hu=>?_⟩;simp only[listNd,List.mem_singleton]at hu;omega
  unfold listS;rw[if_neg (by omega),hg1];simp only;rw[listF,if_neg hnb,show a+p+1=a+(p+1) by omega,hv];simp only[List.length_nil];rw[if_neg (by omega),hg2];simp only;rw[if_pos (show byteAt _ _=93 from hbyte _ _ _ hcl)];simp only;rw[if_pos (by simp[Pl.room,hM];omega)];simp[listNd,Nat.add_assoc]
theorem lists_deepAt (E:Env) {s:Bs} {a k:Nat} (h:LsAt s a k):∀(r p f d:Nat) (st:Nds),d+r=257→p+r<k→r<f→valueF E s f d (a+p) st = .bad 4 (a+p+r):=by
 intro r
 induction r with
 | zero =>
  intro p f d st h1 h2 h3;obtain⟨f,rfl⟩:∃g,f=g+1:=⟨f-1,by omega⟩
  rw[val_list _ _ _ _ _ _ (h.o p (by omega))];unfold listS;rw[if_pos (by omega)];rfl
 | succ r ih =>
  intro p f d st h1 h2 h3;obtain⟨f,rfl⟩:∃g,f=g+1:=⟨f-1,by omega⟩
  have hv:=ih (p+1) f (d+1) st (by omega) (by omega) (by omega);rw[val_list _ _ _ _ _ _ (h.o p (by omega))];have hc:=h.o (p+1) (by omega);rw[show a+(p+1)=a+p+1 by omega]at hc hv;have hg1:gapAt s (a+p+1) = .ok (a+p+1):=gap_self _ _ 91 hc (.inl rfl);unfold listS;rw[if_neg (by omega),hg1];simp only;rw[listF,if_neg (by rw[hbyte _ _ _ hc];decide),hv];simp only;rw[show a+p+1+r=a+p+(r+1) by omega]
theorem graft_of {M:Nds} {i:Nat} (hi:i≤30000000) (h:∀nd∈M,nd.subs.length≤30000000∧∀u∈nd.subs,u≤30000000):graftOk M i=true:=by
 unfold graftOk;simp only[Bool.and_eq_true,decide_eq_true_eq,List.all_eq_true];exact⟨hi,h⟩
theorem readS_lists (E:Env) (hE:E.scal=scalS) {s:Bs} {a k:Nat} (h:LsAt s a k) (hk:1≤k) (d:Nat) (hd:d+k≤256):∃i M,readS E s a d = .ok (i,a+2*k+1,M)∧M.length=k+1∧graftOk M i=true:=by
 obtain⟨i,M,h1,h2,h3,h4⟩:=lists_at E hE h hk k 0 258 (min d 256+1) [] (by omega) (by omega) (by omega) (by simp;omega);have hkz:k≤256:=by omega
 refine⟨i,M,?_,h2,graft_of (by simp at h3;omega) fun nd hnd=>⟨by have:=(h4 nd hnd).1;omega,fun u hu=>by have:=(h4 nd hnd).2 u hu;simp at this;omega⟩⟩;unfold readS;simp only[Nat.add_zero]at h1;rw[h1,show a+k+1+k=a+2*k+1 by omega];rfl
theorem readS_deep (E:Env) {s:Bs} {a k:Nat} (h:LsAt s a k) (d:Nat) (hd:256<d+k) (hd2:d≤256) (hk:1≤k):readS E s a d = .bad 4 (a+(256-d)):=by
 have h1:=lists_deepAt E h (256-d) 0 258 (min d 256+1) [] (by omega) (by omega) (by omega);unfold readS;simp only[Nat.add_zero]at h1;exact h1
theorem readS_one (E:Env) (hE:E.scal=scalS) (s:Bs) (n d:Nat) (h:s[n]?=some 49) (h2:s.drop (n+1)=[]∨(∃r,s.drop (n+1)=10::r)∨∃r,s.drop (n+1)=93::r):readS E s n d = .ok (0,n+1,[leaf 4 [49] n (n+1)]):=by
 unfold readS;rw[one_at E hE s n 257 _ [] h h2 (by simp)];rfl
theorem blankI_of (s:Bs) (n:Nat) (c:UInt8) (h:s[n]?=some c) (hc:c=91∨c=120∨c=121):isBlankI (s.drop n)=false:=by
 rw[hdrop_get s n c h];rcases hc with rfl|rfl|rfl <;> rfl
theorem pre_one (s:Bs) (n:Nat) (h:s[n]?=some 91):pre (s.drop n) [91]=true:=by rw[hdrop_get s n 91 h];simp[pre]
theorem pre_one' (s:Bs) (n:Nat) (c:UInt8) (h:s[n]?=some c) (hc:c=120∨c=121):pre (s.drop n) [91]=false∧pre (s.drop n) [91,91]=false:=by
 rw[hdrop_get s n c h];rcases hc with rfl|rfl <;> exact⟨by simp[pre],by simp[pre]⟩
theorem pre_two (s:Bs) (n:Nat) (h:s[n]?=some 91) (h2:s[n+1]?=some 91):pre (s.drop n) [91,91]=true:=by rw[hdrop_get s n 91 h,hdrop_get s (n+1) 91 h2];simp[pre]
theorem pre_two' (s:Bs) (n:Nat) (h:s[n]?=some 91) (h2:s[n+1]?=some 97):pre (s.drop n) [91,91]=false:=by rw[hdrop_get s n 91 h,hdrop_get s (n+1) 97 h2];simp[pre]
theorem WdAt.first {s:Bs} {b m:Nat} {c:UInt8} (h:WdAt s b m c):s[b]?=some 97:=h.a 0 (by omega)
theorem words_table (E:Env) {s:Bs} {n m:Nat} (g:Gst) (h0:s[n]?=some 91) (hw:WdAt s (n+1) m 93):wordsG E s n g=match tableG g (kwB (n+1) 0 (m+1)) with
    | .non => .non
    | .bad c p => .bad c p
    | .ok g1 => .ok (0,0,[],g1):=by
 unfold wordsG;simp only;rw[hblanks s n 91 h0 (by decide),blankI_of s n 91 h0 (.inl rfl),pre_two' s n h0 hw.first,pre_one s n h0];refine Z277 ?_;rw[hblanks s (n+1) 97 hw.first (by decide),keyS_wd E hw]
 all_goals (simp only;rfl)
theorem words_more (E:Env) {s:Bs} {n m:Nat} (g:Gst) (h0:s[n]?=some 91) (h1:s[n+1]?=some 91) (hw:WdAt s (n+2) m 93):wordsG E s n g=match moreG g (kwB (n+2) 0 (m+1)) with
    | .non => .non
    | .bad c p => .bad c p
    | .ok g1 => .ok (0,0,[],g1):=by
 unfold wordsG;simp only;rw[hblanks s n 91 h0 (by decide),blankI_of s n 91 h0 (.inl rfl),pre_two s n h0 h1];refine Z277 ?_;rw[hblanks s (n+2) 97 hw.first (by decide),keyS_wd E hw]
 all_goals (simp only;rfl)
structure PrAt (s:Bs) (n:Nat) (c v:UInt8):Prop where
 h0:s[n]?=some c
 h1:s[n+1]?=some 32
 h2:s[n+2]?=some 61
 h3:s[n+3]?=some 32
 h4:s[n+4]?=some v
 cc:c=120∨c=121
 vv:isBlank v=false
theorem keyS_pr (E:Env) {s:Bs} {n:Nat} {c v:UInt8} (h:PrAt s n c v):keyS E s n = .ok ([([c],n,n+1)],n+1):=by
 unfold keyS;rw[keyF,word_ab E s n c 32 (.inr h.cc) h.h0 h.h1 (.inr (.inr rfl))];simp only;rw[hblank1 s (n+1) 61 h.h1 h.h2 (by decide),if_neg (by rw[hbyte s (n+1+1) 61 h.h2];decide)];rfl
theorem pr_blank {s:Bs} {n:Nat} {c v:UInt8} (h:PrAt s n c v):isBlank c=false:=by rcases h.cc with e|e <;> (rw[e];decide)
theorem words_pair (E:Env) {s:Bs} {n:Nat} {c v:UInt8} (g:Gst) (h:PrAt s n c v):wordsG E s n g=match pairG g [([c],n,n+1)] with
    | .non => .non
    | .bad c p => .bad c p
    | .ok (into,d,g1)=>match readS E s (n+4) d with
     | .non => .non
     | .bad c p => .bad c p
     | .ok (root,_,nds) => .ok (into,root,nds,g1):=by
 obtain⟨p1,p2⟩:=pre_one' s n c h.h0 h.cc;unfold wordsG;simp only;rw[hblanks s n c h.h0 (pr_blank h),blankI_of s n c h.h0 (.inr h.cc),p1,p2];simp only[Bool.false_eq_true,if_false];rw[Nat.add_zero,hblanks s n c h.h0 (pr_blank h),keyS_pr E h];simp only;rw[if_neg (by decide),if_neg (by decide),hblank1 s (n+1) 61 h.h1 h.h2 (by decide)];cases pairG g [([c],n,n+1)] with
 | non=>rfl
 | bad c p=>rfl
 | ok r =>
  obtain⟨into,d,g1⟩:=r;simp only;rw[if_pos (show byteAt s (n+1+1)=61 from hbyte s (n+2) 61 h.h2),show n+1+1+1=n+3 by omega,hblank1 s (n+3) v h.h3 h.h4 h.vv]
  all_goals rfl
theorem item_table (E:Env) {s:Bs} {n m k:Nat} (h0:s[n]?=some 91) (hw:WdAt s (n+1) m 93) (hk:closedS s (n+2*m+3) = .ok k):∃it,itemS E s n = .ok it∧it.kind=2∧it.b=k:=by
 refine⟨{ (⟨2,0,0,kwB (n+1) 0 (m+1),0,0,0,[]⟩:It) with a:=n,b:=k },?_,rfl,rfl⟩;have hbody:bodyS E s n = .ok (n+2*m+3,⟨2,0,0,kwB (n+1) 0 (m+1),0,0,0,[]⟩):=by
  unfold bodyS;rw[pre_two' s n h0 hw.first,pre_one s n h0];refine Z277 ?_;unfold headerS;rw[show n+([93]:Bs).length=n+1 from rfl,hblanks s (n+1) 97 hw.first (by decide),keyS_wd E hw];simp only;rw[hblanks s _ 93 hw.c (by decide)];simp only[isF];rw[if_pos hw.c];simp only;rw[show n+1+2*m+1+1=n+2*m+3 by omega]
 unfold itemS;rw[hblanks s n 91 h0 (by decide),hbody];simp only;rw[hk]
theorem item_more (E:Env) {s:Bs} {n m k:Nat} (h0:s[n]?=some 91) (h1:s[n+1]?=some 91) (hw:WdAt s (n+2) m 93) (h2:s[n+2*m+4]?=some 93) (hk:closedS s (n+2*m+5) = .ok k):∃it,itemS E s n = .ok it∧it.kind=3∧it.b=k:=by
 refine⟨{ (⟨3,0,0,kwB (n+2) 0 (m+1),0,0,0,[]⟩:It) with a:=n,b:=k },?_,rfl,rfl⟩;have hbody:bodyS E s n = .ok (n+2*m+5,⟨3,0,0,kwB (n+2) 0 (m+1),0,0,0,[]⟩):=by
  unfold bodyS;rw[pre_two s n h0 h1];simp only[if_true];unfold headerS;rw[show n+([93,93]:Bs).length=n+2 from rfl,hblanks s (n+2) 97 hw.first (by decide),keyS_wd E hw];simp only;rw[hblanks s _ 93 hw.c (by decide)];simp only[isF];rw[if_pos hw.c,show n+2+2*m+1+1=n+2*m+4 by omega,if_pos h2]
 unfold itemS;rw[hblanks s n 91 h0 (by decide),hbody];simp only;rw[hk]
theorem item_pair (E:Env) {s:Bs} {n k root e:Nat} {c v:UInt8} {nds:Nds} (h:PrAt s n c v) (hv:readS E s (n+4) 0 = .ok (root,e,nds)) (hk:closedS s e = .ok k):∃it,itemS E s n = .ok it∧it.kind=1∧it.b=k∧it.ws=[([c],n,n+1)]:=by
 obtain⟨p1,p2⟩:=pre_one' s n c h.h0 h.cc;refine⟨{ (⟨1,0,0,[([c],n,n+1)],n+4,e,root,nds⟩:It) with a:=n,b:=k },?_,rfl,rfl,rfl⟩;have hbody:bodyS E s n = .ok (e,⟨1,0,0,[([c],n,n+1)],n+4,e,root,nds⟩):=by
  unfold bodyS;rw[p1,p2,blankI_of s n c h.h0 (.inr h.cc)];simp only[Bool.false_eq_true,if_false];unfold pairI;rw[keyS_pr E h];simp only;rw[hblank1 s (n+1) 61 h.h1 h.h2 (by decide)];simp only[isF];rw[if_pos (show s[n+1+1]?=some 61 from h.h2)];simp only;rw[show n+1+1+1=n+3 by omega,hblank1 s (n+3) v h.h3 h.h4 h.vv,hv]
 unfold itemS;rw[hblanks s n c h.h0 (pr_blank h),hbody];simp only;rw[hk]
end Go.Proofs.YtfogfaagjpebcaaGreatDoor.Pl
namespace Go.Proofs.YtfogfaagjpebcaaGreatDoor.Pl
def wB:Nat→Bs
 | 0=>[97]
 | m+1=>97::46::wB m
theorem wB_len (m:Nat):(wB m).length=2*m+1:=by
 induction m with
 | zero=>rfl
 | succ m ih=>simp[wB,ih];omega
theorem wB_get (m:Nat):(∀j,j≤m→(wB m)[2*j]?=some 97)∧∀j,j<m→(wB m)[2*j+1]?=some 46:=by
 induction m with
 | zero =>
  refine⟨fun j h=>?_,fun j h=>by omega⟩;obtain rfl:j=0:=by omega
  rfl
 | succ m ih =>
  refine⟨fun j h=>?_,fun j h=>?_⟩
  · cases j with
    | zero=>rfl
    | succ j =>
     rw[wB,show 2*(j+1)=2*j+1+1 by omega,List.getElem?_cons_succ,List.getElem?_cons_succ];exact ih.1 j (by omega)
  cases j with
  | zero=>rfl
  | succ j =>
   rw[wB,show 2*(j+1)+1=2*j+1+1+1 by omega,List.getElem?_cons_succ,List.getElem?_cons_succ];exact ih.2 j (by omega)
theorem at_app (p q:Bs) (j:Nat):(p++q)[p.length+j]?=q[j]?:=by rw[List.getElem?_append_right (by omega),Nat.add_sub_cancel_left]
theorem wd_at (p q:Bs) (m:Nat):WdAt (p++(wB m++93::q)) p.length m 93:=by
 have hl:=wB_len m;refine⟨fun j h=>?_,fun j h=>?_,?_⟩
 · rw[at_app,List.getElem?_append_left (by omega)];exact (wB_get m).1 j h
 · rw[Nat.add_assoc,at_app,List.getElem?_append_left (by omega)];exact (wB_get m).2 j h
 rw[Nat.add_assoc,at_app,List.getElem?_append_right (by omega),hl,Nat.sub_self];rfl
theorem at_behind (p q:Bs) (m j:Nat):(p++(wB m++93::q))[p.length+2*m+2+j]?=q[j]?:=by
 have hl:=wB_len m;rw[show p.length+2*m+2+j=p.length+(2*m+2+j) by omega,at_app,List.getElem?_append_right (by omega),hl,show 2*m+2+j-(2*m+1)=j+1 by omega];rfl
def vB (k:Nat):Bs:=List.replicate k 91++49::List.replicate k 93
theorem vB_len (k:Nat):(vB k).length=2*k+1:=by simp[vB];omega
theorem vB_get (k:Nat):(∀j,j<k→(vB k)[j]?=some 91)∧(vB k)[k]?=some 49∧∀j,j<k→(vB k)[k+1+j]?=some 93:=by
 unfold vB;refine⟨fun j h=>?_,?_,fun j h=>?_⟩
 · rw[List.getElem?_append_left (by simpa using h)];simp[h]
 · rw[List.getElem?_append_right (by simp)];simp
 rw[List.getElem?_append_right (by simp;omega),List.length_replicate,show k+1+j-k=j+1 by omega,List.getElem?_cons_succ];simp[h]
theorem fr0:FrG gst0 0:=⟨⟨growNd 8,rfl,rfl,.inl rfl,by simp[growNd],by simp[growNd],by simp[growNd]⟩,by simp[gst0],by decide,rfl⟩
theorem sec0:SecG gst0:=⟨rfl,by decide,rfl⟩
theorem pairG_new {g:Gst} {c:UInt8} {n:Nat} (h:SecG g):pairG g [([c],n,n+1)] = .ok (g.sec,g.dep,g):=by
 unfold pairG;simp only[List.dropLast_singleton,wayG,List.getLast?_singleton];have hs:subOf g.nds g.sec [c] = .no:=by
  unfold subOf;rw[h.nd];rfl
 rw[hs]
theorem okG_of {g:Gst} (h1:g.nds.length≤3000) (h2:g.many≤10) (h3:g.dep≤1000) (h4:g.its.length≤10):okG g=true:=by
 unfold okG;simp only[Bool.and_eq_true,decide_eq_true_eq];omega
theorem ok0:okG gst0=true:=by decide
theorem itemG_bad {E:Env} {s:Bs} {n:Nat} {g:Gst} {c p:Nat} (h:wordsG E s n g = .bad c p):itemG E s n g = .bad c p:=by unfold itemG;rw[h]
theorem itemG_pr {E:Env} {s:Bs} {n k root e root0:Nat} {c v:UInt8} {g:Gst} {nds nds0:Nds} (h:PrAt s n c v) (hs:SecG g) (hv:readS E s (n+4) g.dep = .ok (root,e,nds)) (hv0:readS E s (n+4) 0 = .ok (root0,e,nds0)) (hk:closedS s e = .ok k)
    (hl:g.nds.length+nds.length≤2900) (hgo:graftOk nds root=true):∃g',itemG E s n g = .ok (k,g')∧(c=120→FrG g' g.sec)∧g'.nds.length=g.nds.length+nds.length∧g'.many=g.many∧g'.dep=g.dep∧g'.its.length=g.its.length+1:=by
 obtain⟨it,hi,hk1,hb,hws⟩:=item_pair E h hv0 hk;have hlt:g.sec<g.nds.length:=(List.getElem?_eq_some_iff.1 hs.nd).1;have hg:(graftG g nds).nds[g.sec]?=some (growNd 8):=by
  show (g.nds++_)[g.sec]?=_;rw[List.getElem?_append_left hlt];exact hs.nd
 have hln:(graftG g nds).nds.length=g.nds.length+nds.length:=by simp[graftG]
 have hso:sortOf (graftG g nds) g.sec=sortOf g g.sec:=by
  show (g.srt++_).getD g.sec (0,0)=g.srt.getD g.sec (0,0);rw[List.getD_eq_getElem?_getD,List.getElem?_append_left (by rw[hs.len];exact hlt),List.getD_eq_getElem?_getD]
 have k8:grown8 (graftG g nds) g.sec=true:=by
  have h1:=hs.srt;unfold grown8 kind8;rw[hg,hso];simp[growNd,h1];omega
 have rm:Pl.room (graftG g nds).nds=true:=by unfold Pl.room;simp;omega
 refine⟨{ putG (graftG g nds) g.sec [c] (n,n+1) (root+g.nds.length) with its:=(graftG g nds).its++[it],ns:=(graftG g nds).ns++[((root+g.nds.length:Nat):Int)] },?_,fun hc=>?_,?_,rfl,rfl,by show (g.its++[it]).length=_;simp⟩
 · unfold itemG;rw[words_pair E g h,pairG_new hs];simp only;rw[hv];simp only;rw[hi];simp only;rw[if_neg (by omega),if_pos hk1,hws];simp only[List.getLast?_singleton];rw[hgo,k8,rm,hb];simp only[Bool.and_self,if_true]
 · subst hc;refine⟨⟨putNd (growNd 8) [120] (n,n+1) (root+g.nds.length),?_,rfl,.inr rfl,by simp[putNd,growNd],by simp[putNd,growNd],by simp[putNd,growNd]⟩,?_,?_,?_⟩
   · show (putAt (graftG g nds).nds g.sec [120] (n,n+1) (root+g.nds.length))[g.sec]?=_;unfold putAt;rw[List.getElem?_modify,hg];simp
   · show (putAt (graftG g nds).nds g.sec [120] (n,n+1) (root+g.nds.length)).length≤3000;rw[put_len,hln];omega
   · show (sortOf (graftG g nds) g.sec).1≠0;rw[hso];exact hs.srt
   show (g.srt++nds.map fun _=>(0,0)).length=(putAt (graftG g nds).nds g.sec [120] (n,n+1) (root+g.nds.length)).length;rw[put_len,hln];simp[hs.len]
 show (putAt (graftG g nds).nds g.sec [c] (n,n+1) (root+g.nds.length)).length=_;rw[put_len,hln]
theorem itemG_tb {E:Env} {s:Bs} {n m k:Nat} {g:Gst} (h0:s[n]?=some 91) (hw:WdAt s (n+1) m 93) (hk:closedS s (n+2*m+3) = .ok k) (hg:FrG g 0) (hm:m≤254) (hl:g.nds.length+m+1≤3000) :
    ∃g',itemG E s n g = .ok (k,g')∧SecG g'∧g'.dep=m+2∧g'.nds.length=g.nds.length+m+1∧g'.many=g.many+1∧g'.its.length=g.its.length+1:=by
 obtain⟨g1,h1,h2,h3,h4,h5,h6⟩:=tableG_ok hg (n+1) m hm hl;obtain⟨it,hi,hk2,hb⟩:=item_table E h0 hw hk;refine⟨{ g1 with its:=g1.its++[it],ns:=g1.ns++[((g1.sec:Nat):Int)] },?_,⟨h2.nd,h2.srt,h2.len⟩,h3,h4,h5,by show (g1.its++[it]).length=_;rw[h6];simp⟩;unfold itemG;rw[words_table E g h0 hw,h1];simp only;rw[hi];simp only;rw[if_neg (by omega),if_neg (by omega),hb]
theorem itemG_mr {E:Env} {s:Bs} {n m k:Nat} {g:Gst} (h0:s[n]?=some 91) (h1:s[n+1]?=some 91) (hw:WdAt s (n+2) m 93) (h2:s[n+2*m+4]?=some 93) (hk:closedS s (n+2*m+5) = .ok k) (hg:FrG g 0) (hm:m≤253) (hl:g.nds.length+m+2≤3000) :
    ∃g',itemG E s n g = .ok (k,g')∧SecG g'∧g'.dep=m+3∧g'.nds.length=g.nds.length+m+2∧g'.many=g.many+1∧g'.its.length=g.its.length+1:=by
 obtain⟨g1,a1,a2,a3,a4,a5,a6⟩:=moreG_ok hg (n+2) m hm hl;obtain⟨it,hi,hk2,hb⟩:=item_more E h0 h1 hw h2 hk;refine⟨{ g1 with its:=g1.its++[it],ns:=g1.ns++[((g1.sec:Nat):Int)] },?_,⟨a2.nd,a2.srt,a2.len⟩,a3,a4,a5,by show (g1.its++[it]).length=_;rw[a6];simp⟩;unfold itemG;rw[words_more E g h0 h1 hw,a1];simp only;rw[hi];simp only;rw[if_neg (by omega),if_neg (by omega),hb]
theorem grownF_bad {E:Env} {s:Bs} {f n c p:Nat} {g:Gst} (hn:n<s.length) (hok:okG g=true) (h:itemG E s n g = .bad c p):grownF E s (f+1) n g = .bad c p:=by rw[grownF,if_pos hn,if_pos hok,h]
theorem grownF_ok {E:Env} {s:Bs} {f n e:Nat} {g g':Gst} (hn:n<s.length) (hok:okG g=true) (h:itemG E s n g = .ok (e,g')):grownF E s (f+1) n g=grownF E s f e g':=by rw[grownF,if_pos hn,if_pos hok,h]
theorem grownF_end {E:Env} {s:Bs} {f n:Nat} {g:Gst} (hn:n=s.length):grownF E s (f+1) n g = .ok g:=by rw[grownF,if_neg (by omega)]
theorem doc1 (E:Env) (m:Nat) (hm:255≤m):grownS E (91::(wB m++[93])) = .bad 4 511:=by
 have hw:WdAt (91::(wB m++[93])) (0+1) m 93:=wd_at [91] [] m;unfold grownS;refine grownF_bad (by simp) ok0 (itemG_bad ?_);rw[words_table E gst0 rfl hw,tableG_deep fr0 (0+1) m hm (by simp[gst0])]
theorem doc2 (E:Env) (hE:E.scal=scalS) (m:Nat) (hm:255≤m):grownS E ([120,32,61,32,49,10,91]++(wB m++93::[10,121,32,61,32,49])) = .bad 4 517:=by
 obtain⟨s,hs⟩:∃s,[120,32,61,32,49,10,91]++(wB m++93::[10,121,32,61,32,49])=s:=⟨_,rfl⟩
 have hw:WdAt s (6+1) m 93:=by rw[←hs];exact wd_at [120,32,61,32,49,10,91] _ m
 have hp:PrAt s 0 120 49:=by rw[←hs];exact⟨rfl,rfl,rfl,rfl,rfl,.inl rfl,by decide⟩
 have h5:s[5]?=some 10:=by rw[←hs];rfl
 have h6:s[6]?=some 91:=by rw[←hs];rfl
 have hr:∀d,readS E s 4 d = .ok (0,5,[leaf 4 [49] 4 5]):=fun d=>readS_one E hE s 4 d hp.h4 (.inr (.inl ⟨_,hdrop_get s 5 10 h5⟩))
 obtain⟨g1,hg1,hf,hln,hmn,hdp,hit⟩:=itemG_pr (g:=gst0) (E:=E) hp sec0 (hr 1) (hr 0) (closed_nl s 5 h5) (by simp[gst0]) (graft_of (by omega) (by simp[leaf]));have hlen:=hw.lt;rw[hs];unfold grownS;rw[grownF_ok (by omega) ok0 hg1,show s.length=(s.length-1)+1 by omega];refine grownF_bad (by omega) (okG_of (by rw[hln];simp[gst0]) (by rw[hmn];simp[gst0]) (by rw[hdp];simp[gst0]) (by rw[hit];simp[gst0])) (itemG_bad ?_);rw[words_table E g1 h6 hw,tableG_deep (hf rfl) (6+1) m hm (by rw[hln];simp[gst0])]
theorem doc3 (E:Env) (hE:E.scal=scalS) (m k:Nat) (hm:m≤254) (hk:k≤300):(256<m+2+k→grownS E (91::(wB m++93::([10,120,32,61,32]++vB k))) = .bad 4 (2*m+8+(254-m))) ∧
    (m+2+k≤256→∃g,grownS E (91::(wB m++93::([10,120,32,61,32]++vB k))) = .ok g):=by
 obtain⟨s,hs⟩:∃s,91::(wB m++93::([10,120,32,61,32]++vB k))=s:=⟨_,rfl⟩
 have hw:WdAt s (0+1) m 93:=by rw[←hs];exact wd_at [91] _ m
 have h0:s[0]?=some 91:=by rw[←hs];rfl
 have hq:∀j,s[2*m+3+j]?=([10,120,32,61,32]++vB k)[j]?:=fun j=>by
  rw[←hs];have:=at_behind [91] ([10,120,32,61,32]++vB k) m j;rw[show ([91]:Bs).length+2*m+2+j=2*m+3+j by simp;omega]at this;exact this
 have hl:LsAt s (2*m+8) k:=by
  have h1:∀j,s[2*m+8+j]?=(vB k)[j]?:=fun j=>by
   rw[show 2*m+8+j=2*m+3+(5+j) by omega,hq];exact at_app [10,120,32,61,32] (vB k) j
  obtain⟨a1,a2,a3⟩:=vB_get k;exact⟨fun j h=>by rw[h1];exact a1 j h,by rw[h1];exact a2,fun j h=>by rw[show 2*m+8+k+1+j=2*m+8+(k+1+j) by omega,h1];exact a3 j h⟩
 have hlen:s.length=2*m+8+(2*k+1):=by rw[←hs];simp[wB_len,vB_len];omega
 obtain⟨v,hv,hvb⟩:∃v,s[2*m+8]?=some v∧isBlank v=false:=by
  by_cases h:k=0
  · subst h;exact⟨49,hl.n,by decide⟩
  exact⟨91,hl.o 0 (by omega),by decide⟩
 have hp:PrAt s (2*m+4) 120 v:=⟨hq 1,hq 2,hq 3,hq 4,hv,.inl rfl,hvb⟩
 obtain⟨g1,hg1,hsec,hdep,hln,hmn,hit⟩:=itemG_tb (g:=gst0) (E:=E) h0 hw (closed_nl s (0+2*m+3) (by rw[Nat.zero_add];exact hq 0)) fr0 hm (by simp[gst0];omega);have hln1:g1.nds.length=m+2:=by rw[hln];simp[gst0];omega
 have hok1:okG g1=true:=okG_of (by omega) (by rw[hmn];simp[gst0]) (by omega) (by rw[hit];simp[gst0]);rw[show 0+2*m+3+1=2*m+4 by omega]at hg1;have hgo':grownS E s=grownF E s (s.length-1+1) (2*m+4) g1:=by
  unfold grownS;rw[grownF_ok (by omega) ok0 hg1,show s.length-1+1=s.length by omega]
 rw[hs];refine⟨fun hd=>?_,fun hd=>?_⟩
 · rw[hgo'];refine grownF_bad (by omega) hok1 (itemG_bad ?_);have hk1:1≤k:=by omega
   have hv2:readS E s (2*m+4+4) g1.dep = .bad 4 (2*m+8+(254-m)):=by
    have h1:=readS_deep E hl g1.dep (by rw[hdep];omega) (by rw[hdep];omega) hk1;rw[h1,hdep,show 256-(m+2)=254-m by omega]
   rw[words_pair E g1 hp,pairG_new hsec];simp only;rw[hv2]
 have hr:∀d,d+k≤256→∃i M,readS E s (2*m+4+4) d = .ok (i,2*m+8+2*k+1,M)∧M.length=k+1∧graftOk M i=true:=fun d hdk=>by
  by_cases h:k=0
  · subst h;exact⟨0,_,readS_one E hE s (2*m+8) d hl.n (.inl (List.drop_eq_nil_of_le (by omega))),rfl,graft_of (by omega) (by simp[leaf])⟩
  exact readS_lists E hE hl (by omega) d hdk
 obtain⟨i,M,hr1,hM,hgo⟩:=hr g1.dep (by rw[hdep];omega);obtain⟨i0,M0,hr0,_⟩:=hr 0 (by omega);obtain⟨g2,hg2,_⟩:=itemG_pr (E:=E) hp hsec hr1 hr0 (closed_end s _ (by omega)) (by omega) hgo;exact⟨g2,by rw[hgo',grownF_ok (by omega) hok1 hg2,show s.length-1=(s.length-2)+1 by omega];exact grownF_end (by omega)⟩
theorem doc4 (E:Env):grownS E (91::91::(wB 254++93::[93])) = .bad 4 510:=by
 have hw:WdAt (91::91::(wB 254++93::[93])) (0+2) 254 93:=wd_at [91,91] [93] 254;unfold grownS;refine grownF_bad (by simp) ok0 (itemG_bad ?_);rw[words_more E gst0 rfl rfl hw,moreG_deep fr0 (0+2) 254 rfl (by simp[gst0])]
theorem doc5 (E:Env) (hE:E.scal=scalS) (m:Nat) (hm:m≤253):∃g,grownS E (91::91::(wB m++93::[93,10,120,32,61,32,49])) = .ok g:=by
 obtain⟨s,hs⟩:∃s,91::91::(wB m++93::[93,10,120,32,61,32,49])=s:=⟨_,rfl⟩
 have hw:WdAt s (0+2) m 93:=by rw[←hs];exact wd_at [91,91] _ m
 have h0:s[0]?=some 91:=by rw[←hs];rfl
 have h1:s[1]?=some 91:=by rw[←hs];rfl
 have hq:∀j,s[2*m+4+j]?=([93,10,120,32,61,32,49]:Bs)[j]?:=fun j=>by
  rw[←hs];have:=at_behind [91,91] [93,10,120,32,61,32,49] m j;rw[show ([91,91]:Bs).length+2*m+2+j=2*m+4+j by simp;omega]at this;exact this
 have hlen:s.length=2*m+11:=by rw[←hs];simp[wB_len]
 have hp:PrAt s (2*m+6) 120 49:=⟨hq 2,hq 3,hq 4,hq 5,hq 6,.inl rfl,by decide⟩
 obtain⟨g1,hg1,hsec,hdep,hln,hmn,hit⟩:=itemG_mr (g:=gst0) (E:=E) h0 h1 hw (by rw[Nat.zero_add];exact hq 0) (closed_nl s (0+2*m+5) (by rw[Nat.zero_add];exact hq 1)) fr0 hm (by simp[gst0];omega);have hln1:g1.nds.length=m+3:=by rw[hln];simp[gst0];omega
 have hok1:okG g1=true:=okG_of (by omega) (by rw[hmn];simp[gst0]) (by omega) (by rw[hit];simp[gst0]);have hr:∀d,readS E s (2*m+6+4) d = .ok (0,2*m+6+4+1,[leaf 4 [49] (2*m+6+4) (2*m+6+4+1)]):=fun d=>readS_one E hE s _ d hp.h4 (.inl (List.drop_eq_nil_of_le (by omega)))
 obtain⟨g2,hg2,_⟩:=itemG_pr (E:=E) hp hsec (hr g1.dep) (hr 0) (closed_end s _ (by omega)) (by simp;omega) (graft_of (by omega) (by simp[leaf]));rw[hs];refine⟨g2,?_⟩;unfold grownS;rw[grownF_ok (by omega) ok0 hg1,show 0+2*m+5+1=2*m+6 by omega,show s.length=(s.length-1)+1 by omega,grownF_ok (by omega) hok1 hg2,show s.length-1=(s.length-2)+1 by omega];exact grownF_end (by omega)
end Go.Proofs.YtfogfaagjpebcaaGreatDoor.Pl
