/-
 The walks and plain laws that the claim rests on, part 39.
-/
import Derived.Test.YtkplelejagpkmaaGreatDoorP03
import Derived.Test.YtkplelejagpkmaaGreatDoorP04
import Derived.Test.YtkplelejagpkmaaGreatDoorP35
import Derived.Test.YtkplelejagpkmaaGreatDoorP38
set_option maxHeartbeats 16000000
set_option linter.all false
set_option linter.unusedVariables false
set_option linter.unusedSimpArgs false
namespace Go.Proofs.YtkplelejagpkmaaGreatDoor.Pl
def wrW (w:Bs):Bs:=if bareW w then w else wrS w
theorem bare_not {c:UInt8} (h:isBare c=true):c≠34∧c≠39∧c≠46∧¬isGap c:=by
 unfold isGap;refine⟨fun e=>?_,fun e=>?_,fun e=>?_,fun e=>?_⟩
 · subst e;revert h;decide
 · subst e;revert h;decide
 · subst e;revert h;decide
 rcases e with e|e|e|e|e <;> (subst e;revert h;decide)
theorem wrB_head (c:UInt8):∃x r,wrB c=x::r∧x≠34:=by
 unfold wrB;by_cases h34:c=34
 · subst h34;exact⟨92,[34],by decide,by decide⟩
 repeat' split
 all_goals first|exact⟨_,_,rfl,by decide⟩|exact⟨_,_,rfl,h34⟩
theorem long_wr (w:Bs) (c:UInt8) (r:Bs) (hc:c≠34):long (wrW w++c::r)=false:=by
 unfold wrW
 split
 · rename_i h
   unfold bareW at h;simp only[Bool.and_eq_true,Bool.not_eq_true',List.all_eq_true]at h;cases w with
   | nil=>cases h.1
   | cons a w =>
    have ha:=bare_not (h.2 a (List.mem_cons_self ..));unfold long
    split
    · rename_i e;simp only[List.cons_append,List.cons.injEq]at e;exact absurd e.1 ha.1
    · rename_i e;simp only[List.cons_append,List.cons.injEq]at e;exact absurd e.1 ha.2.1
    rfl
 unfold wrS;cases w with
 | nil =>
  unfold long
  split
  · rename_i e;simp at e;exact absurd e.1 hc
  · rename_i e;simp at e
  rfl
 | cons a w =>
  obtain⟨x,q,e1,e2⟩:=wrB_head a;unfold long
  split
  · rename_i e;rw[List.flatMap_cons,e1]at e;simp at e;exact absurd e.1 e2
  · rename_i e;simp at e
  rfl
theorem bareRun_app (w:Bs) (hw:w.all isBare=true) (c:UInt8) (r:Bs) (hc:isBare c=false):bareRun (w++c::r)=w.length:=by
 unfold bareRun
 induction w with
 | nil=>rw[List.nil_append,List.takeWhile_cons,if_neg (by rw[hc];simp)]
 | cons a w ih =>
  rw[List.all_cons,Bool.and_eq_true]at hw;rw[List.cons_append,List.takeWhile_cons,if_pos hw.1,List.length_cons,ih hw.2,List.length_cons]
theorem word_wr (s:Bs) (n:Nat) (w:Bs) (c:UInt8) (r:Bs) (hd:s.drop n=wrW w++c::r) (hc:c≠34) (hb:isBare c=false):word (envT tab0) s n = .ok (w,n+(wrW w).length):=by
 have hl:=long_wr w c r hc;unfold word longAt;rw[hd,hl,if_neg (by simp)];unfold wrW at hl ⊢;cases hw:bareW w with
 | true =>
  rw[if_pos rfl];unfold bareW at hw;simp only[Bool.and_eq_true,Bool.not_eq_true']at hw;rw[bareRun_app w hw.2 c r hb];have:w.length≠0:=fun e=>by
   have:=List.eq_nil_of_length_eq_zero e;rw[this]at hw;cases hw.1
  rw[if_neg this];simp
 | false =>
  rw[hw]at hl;simp only[Bool.false_eq_true,if_false]at hl ⊢;have h0:bareRun (wrS w++c::r)=0:=by
   unfold bareRun wrS;rw[List.cons_append,List.takeWhile_cons,if_neg (by decide)];rfl
  rw[h0,if_pos rfl];show (match strS tab0 (wrS w++c::r) with|.non=>_|.bad c p=>_|.ok (t,k)=>_)=_;rw[strS_wr w (c::r) hl]
theorem key_wr (s:Bs) (n:Nat) (w:Bs) (c:UInt8) (r:Bs) (hd:s.drop n=wrW w++c::r) (hc:c≠34) (hb:isBare c=false) (h46:byteAt s (blanksAt s (n+(wrW w).length))≠46) :
    keyS (envT tab0) s n = .ok ([(w,n,n+(wrW w).length)],n+(wrW w).length):=by
 unfold keyS keyF;rw[word_wr s n w c r hd hc hb];simp only;rw[if_neg h46];rfl
def tabT:List (Bs × Bs)→Bs
 | []=>[125]
 | (w,v)::rest=>wrW w++(32::61::32::(v++(32::(if rest.isEmpty then [125] else 44::32::tabT rest))))
inductive PlacedT (E:Env) (t:Nat):List (Bs × Bs)→List Nat→Nds→Prop
 | nil (st:Nds):PlacedT E t [] [] st
 | cons (w v:Bs) (rest:List (Bs × Bs)) (root b0:Nat) (nds st:Nds) (l:List Nat) (h:valueF E v 258 2 0 [] = .ok (root,v.length,nds)) (hb:t<b0)
     (hr:∀(j:Nat) y,nds[j]?=some y→∃x,st[b0+j]?=some x∧SN b0 x y) (ht:PlacedT E t rest l st):PlacedT E t ((w,v)::rest) ((b0+root)::l) st
theorem PlacedT.keep {E:Env} {t:Nat} {items:List (Bs × Bs)} {l:List Nat} {st st':Nds} (h:PlacedT E t items l st) (hk:∀(j:Nat) x,t<j→st[j]?=some x→st'[j]?=some x):PlacedT E t items l st':=by
 induction h with
 | nil=>exact .nil _
 | cons w v rest root b0 nds st l h hb hr _ ih =>
  exact .cons w v rest root b0 nds st' l h hb (fun j y hy=>by
   obtain⟨x,hx,q⟩:=hr j y hy;exact⟨x,hk _ _ (by omega) hx,q⟩) (ih hk)
def PairOk (it:Bs × Bs):Prop:=∃root nds,valueF (envT tab0) it.2 258 2 0 [] = .ok (root,it.2.length,nds)
theorem findIdx_none {l:List Bs} {w:Bs} (h:w ∉ l):l.findIdx? (fun x=>x==w)=none:=by
 rw[List.findIdx?_eq_none_iff];intro x hx;simp only[beq_eq_false_iff_ne];intro e;exact h (e ▸ hx)
theorem findIdx_some {l:List Bs} {w:Bs} (h:w∈l):∃j,l.findIdx? (fun x=>x==w)=some j∧j<l.length:=by
 cases hf:l.findIdx? (fun x=>x==w) with
 | none =>
  rw[List.findIdx?_eq_none_iff]at hf;have:=hf w h;simp at this
 | some j =>
  refine⟨j,rfl,?_⟩;have:=List.findIdx?_eq_some_iff_getElem.1 hf;exact this.1
theorem blanks_one {s:Bs} {n:Nat} {c:UInt8} {r:Bs} (h:s.drop n=32::c::r) (hc:¬isGap c):blanksAt s n=n+1:=by
 unfold blanksAt;rw[h];have:blanks (32::c::r)=1+blanks (c::r):=by unfold blanks;rw[List.takeWhile_cons,if_pos (by decide)];simp;omega
 rw[this,blanks_not c r hc]
theorem blanks_none {s:Bs} {n:Nat} {c:UInt8} {r:Bs} (h:s.drop n=c::r) (hc:¬isGap c):blanksAt s n=n:=by
 unfold blanksAt;rw[h,blanks_not c r hc];rfl
theorem stops_tab (c:UInt8) (hc:c=44∨c=125) (r:Bs):Stops (32::c::r):=by
 right;refine⟨32,c::r,rfl,by decide,fun _ d t' e=>?_⟩;cases e;rcases hc with rfl|rfl <;> decide
section
variable (s:Bs) (hs:s.length≤20000000)
include hs
theorem pair_read (t n:Nat) (w v:Bs) (root:Nat) (nds:Nds) (hv:valueF (envT tab0) v 258 2 0 [] = .ok (root,v.length,nds)) (c:UInt8) (hc:c=44∨c=125) (r:Bs)
    (hd:s.drop n=wrW w++(32::61::32::(v++(32::c::r)))) (hn:n≤s.length) (st:Nds) (hw:WF st) (hl:st.length≤n) (nd:Nd) (hnd:st[t]?=some nd) (hk:nd.kind=8) (hno:w ∉ nd.keys) :
    ∃st1,pairS (envT tab0) (valueF (envT tab0) s 257) s t n 1 st = .ok (n+(wrW w).length+3+v.length,putAt st1 t w (n,n+(wrW w).length) (st.length+root)) ∧
     WF (putAt st1 t w (n,n+(wrW w).length) (st.length+root))∧st1.length≤n+(wrW w).length+3+v.length∧st.length≤st1.length∧Keep st.length st st1∧(∀(j:Nat) y,nds[j]?=some y→∃x,st1[st.length+j]?=some x∧SN st.length x y):=by
 have htl:t<st.length:=(List.getElem?_eq_some_iff.1 hnd).1;have hlen:=congrArg List.length hd;rw[List.length_drop]at hlen;simp only[List.length_append,List.length_cons]at hlen;have hd1:s.drop (n+(wrW w).length)=32::61::32::(v++(32::c::r)):=by rw[←List.drop_drop,hd];simp
 have hb1:=blanks_one hd1 (by unfold isGap;decide);have hd2:s.drop (n+(wrW w).length+1)=61::32::(v++(32::c::r)):=by rw[←List.drop_drop,hd1];rfl
 have h61:byteAt s (n+(wrW w).length+1)=61:=byteAt_drop hd2;have hkey:=key_wr s n w 32 _ hd (by decide) (by decide) (by rw[hb1,h61];decide);obtain⟨a,q,ev,hva,_⟩:=value_head tab0 v 257 2 root nds hv;have hd3:s.drop (n+(wrW w).length+1+1)=32::a::(q++(32::c::r)):=by rw[←List.drop_drop,hd2,ev];rfl
 have hb2:=blanks_one hd3 hva;have hd4:s.drop (n+(wrW w).length+1+1+1)=v++(32::c::r):=by rw[←List.drop_drop,hd3,ev];rfl
 have hway:way t [(w,n,n+(wrW w).length)] t 1 st = .ok (t,1,st):=by
  unfold way;have:subOf st t w = .no:=by
   unfold subOf;rw[hnd];simp only;rw[findIdx_none hno]
  rw[this]
 obtain⟨st1,hv1,hrs,hok⟩:=valueF_there (envT_ok tab0) (s:=s) (a:=n+(wrW w).length+1+1+1) (st:=st) hv hs ⟨_,stops_tab c hc r,hd4⟩ (by omega) 257 (by omega) (by omega) hw (by omega);have hnd1:st1[t]?=some nd:=(hok.keep t htl).trans hnd;have hle:=hok.len;have hlo:=hok.lo;have hhi:=hok.hi;refine⟨st1,?_,hok.wf.put t (st.length+root) w (n,n+(wrW w).length) nd hnd1 (fun x hx=>by have:=(hw t nd hnd).lt x hx;omega) hhi,by omega,by omega,hok.keep,fun j y hy=>hrs.at' j y (by simpa using hy)⟩;unfold pairS;rw[hkey];simp only;rw[hway];simp only;rw[hb1,if_pos h61,hb2,hv1];simp only;rw[show [(w,n,n+(wrW w).length)].getLast?=some (w,n,n+(wrW w).length) from rfl];simp only;rw[kind8_ok hok.wf (by omega) t nd hnd1 hk,if_pos rfl]
theorem pair_twice (t n:Nat) (w v:Bs) (c:UInt8) (r:Bs) (hd:s.drop n=wrW w++(32::61::r)) (st:Nds) (hw:WF st) (nd:Nd) (hnd:st[t]?=some nd) (hk:nd.kind=8) (hin:w∈nd.keys) :
    pairS (envT tab0) (valueF (envT tab0) s 257) s t n 1 st = .bad 5 n:=by
 have hd1:s.drop (n+(wrW w).length)=32::61::r:=by rw[←List.drop_drop,hd];simp
 have hb1:=blanks_one hd1 (by unfold isGap;decide);have hd2:s.drop (n+(wrW w).length+1)=61::r:=by rw[←List.drop_drop,hd1];rfl
 have h61:byteAt s (n+(wrW w).length+1)=61:=byteAt_drop hd2;have hkey:=key_wr s n w 32 _ hd (by decide) (by decide) (by rw[hb1,h61];decide);obtain⟨j,hj,hjl⟩:=findIdx_some hin;have hwn:=hw t nd hnd;have hsl:=(hwn.len hk).1;obtain⟨x,hx⟩:∃x,nd.subs[j]?=some x:=⟨_,List.getElem?_eq_getElem (by omega)⟩
 have hxl:=hwn.lt x (List.mem_of_getElem? hx);have hway:way t [(w,n,n+(wrW w).length)] t 1 st = .bad 5 n:=by
  unfold way;have:subOf st t w = .yes x:=by
   unfold subOf;rw[hnd];simp only;rw[hj];simp only;rw[hx];simp only;rw[if_pos hxl]
  rw[this]
 unfold pairS;rw[hkey];simp only;rw[hway]
end
def tabAt:List (Bs × Bs)→Nat
 | []=>0
 | (w,v)::rest=>(wrW w).length+3+v.length+1+2+tabAt rest
theorem tab_read (s:Bs) (hs:s.length≤20000000) (t:Nat):∀(items:List (Bs × Bs)) (n f:Nat) (st:Nds) (r:Bs) (nd:Nd),items≠[]→s.drop n=tabT items++r→n≤s.length→(∀it∈items,PairOk it)→WF st→st.length≤n→items.length<f →
    st[t]?=some nd→nd.kind=8→(items.map (·.1)).Nodup→(∀it∈items,it.1 ∉ nd.keys) →
    ∃l e st' nd',tabF (envT tab0) (valueF (envT tab0) s 257) s t 1 f n st = .ok (e,st')∧e+1=n+(tabT items).length∧WF st'∧st'.length≤e∧st.length≤st'.length∧st'[t]?=some nd'∧nd'.kind=8∧nd'.keys=nd.keys++items.map (·.1)∧nd'.subs=nd.subs++l ∧
     (∀(j:Nat) x,t<j→st[j]?=some x→st'[j]?=some x)∧PlacedT (envT tab0) t items l st':=by
 intro items
 induction items with
 | nil=>intro n f st r nd h;exact absurd rfl h
 | cons it rest ih =>
  intro n f st r nd _ hd hn hok hw hl hf hnd hk hdis hno;cases f with
  | zero=>omega
  | succ f =>
   obtain⟨w,v⟩:=it;obtain⟨root,nds,hv⟩:=hok _ (List.mem_cons_self ..);simp only at hv;have htl:t<st.length:=(List.getElem?_eq_some_iff.1 hnd).1;cases rest with
   | nil =>
    have hd':s.drop n=wrW w++(32::61::32::(v++(32::125::r))):=by rw[hd];simp[tabT]
    obtain⟨st1,h1,h2,h3,h4,h5,h6⟩:=pair_read s hs t n w v root nds hv 125 (.inr rfl) r hd' hn st hw hl nd hnd hk (hno _ (List.mem_cons_self ..));have hd2:s.drop (n+(wrW w).length+3+v.length)=32::125::r:=by
     rw[←List.drop_drop,←List.drop_drop,←List.drop_drop,hd'];simp
    have hb:=blanks_one hd2 (by unfold isGap;decide);have h125:byteAt s (n+(wrW w).length+3+v.length+1)=125:=by
     have:s.drop (n+(wrW w).length+3+v.length+1)=125::r:=by rw[←List.drop_drop,hd2];rfl
     exact byteAt_drop this
    have hnd1:st1[t]?=some nd:=(h5 t htl).trans hnd;refine⟨[st.length+root],n+(wrW w).length+3+v.length+1,_,putNd nd w (n,n+(wrW w).length) (st.length+root),?_,by simp[tabT];omega,h2,by unfold putAt;simp;omega,by unfold putAt;simp;omega,by rw[get_put,if_pos rfl,hnd1];rfl,hk,rfl,rfl,fun j x hj hx=>?_,?_⟩
    · unfold tabF;rw[h1];simp only;rw[hb,if_pos h125]
    · rw[get_put,if_neg (by omega)];exact (h5 j (List.getElem?_eq_some_iff.1 hx).1).trans hx
    refine .cons w v [] root st.length nds _ [] hv htl (fun j y hy=>?_) (.nil _);obtain⟨x,hx,q⟩:=h6 j y hy;exact⟨x,by rw[get_put,if_neg (by omega)];exact hx,q⟩
   | cons it2 rest2 =>
    have hd':s.drop n=wrW w++(32::61::32::(v++(32::44::(32::(tabT (it2::rest2)++r))))):=by rw[hd];simp[tabT]
    obtain⟨st1,h1,h2,h3,h4,h5,h6⟩:=pair_read s hs t n w v root nds hv 44 (.inl rfl) _ hd' hn st hw hl nd hnd hk (hno _ (List.mem_cons_self ..));have hd2:s.drop (n+(wrW w).length+3+v.length)=32::44::(32::(tabT (it2::rest2)++r)):=by
     rw[←List.drop_drop,←List.drop_drop,←List.drop_drop,hd'];simp
    have hb:=blanks_one hd2 (by unfold isGap;decide);have hd3:s.drop (n+(wrW w).length+3+v.length+1)=44::(32::(tabT (it2::rest2)++r)):=by rw[←List.drop_drop,hd2];rfl
    have h44:byteAt s (n+(wrW w).length+3+v.length+1)=44:=byteAt_drop hd3;have hd4:s.drop (n+(wrW w).length+3+v.length+1+1)=32::(tabT (it2::rest2)++r):=by rw[←List.drop_drop,hd3];rfl
    obtain⟨a,q,e1,ha⟩:∃a q,tabT (it2::rest2)++r=a::q∧¬isGap a:=by
     obtain⟨w2,v2⟩:=it2;unfold tabT wrW
     split
     · rename_i hb
       unfold bareW at hb;simp only[Bool.and_eq_true,Bool.not_eq_true',List.all_eq_true]at hb;cases w2 with
       | nil=>cases hb.1
       | cons a w3=>exact⟨a,_,rfl,(bare_not (hb.2 a (List.mem_cons_self ..))).2.2.2⟩
     exact⟨34,_,rfl,by unfold isGap;decide⟩
    have hb3:=blanks_one (hd4.trans (by rw[e1])) ha;have hd5:s.drop (n+(wrW w).length+3+v.length+1+1+1)=tabT (it2::rest2)++r:=by rw[←List.drop_drop,hd4];rfl
    have hlen:=congrArg List.length hd';rw[List.length_drop]at hlen;simp only[List.length_append,List.length_cons]at hlen;have hnd1:st1[t]?=some nd:=(h5 t htl).trans hnd;have hnd2:(putAt st1 t w (n,n+(wrW w).length) (st.length+root))[t]?=some (putNd nd w (n,n+(wrW w).length) (st.length+root)):=by rw[get_put,if_pos rfl,hnd1];rfl
    have hplen:(putAt st1 t w (n,n+(wrW w).length) (st.length+root)).length=st1.length:=by unfold putAt;simp
    have hdis':w ∉ ((it2::rest2).map (·.1))∧((it2::rest2).map (·.1)).Nodup:=by rw[List.map_cons,List.nodup_cons]at hdis;exact hdis
    obtain⟨l,e,st',nd',i1,i2,i3,i4,i5,i6,i7,i8,i9,i10,i11⟩:=ih (n+(wrW w).length+3+v.length+1+1+1) f _ r (putNd nd w (n,n+(wrW w).length) (st.length+root)) (by simp) hd5 (by omega) (fun it hit=>hok it (List.mem_cons_of_mem _ hit)) h2 (by rw[hplen];omega) (by simp only[List.length_cons]at hf ⊢;omega) hnd2 hk hdis'.2
     (fun it hit hin=>by
      rcases List.mem_append.1 (show it.1∈nd.keys++[w] from hin) with h|h
      · exact hno it (List.mem_cons_of_mem _ hit) h
      simp only[List.mem_singleton]at h;exact hdis'.1 (h ▸ List.mem_map_of_mem hit))
    rw[hplen]at i5;have hk2:∀(j:Nat) x,t<j→st1[j]?=some x→st'[j]?=some x:=fun j x hj hx=>i10 j x hj (by rw[get_put,if_neg (by omega)];exact hx)
    refine⟨(st.length+root)::l,e,st',nd',?_,?_,i3,i4,by omega,i6,i7,?_,?_,fun j x hj hx=>hk2 j x hj ((h5 j (List.getElem?_eq_some_iff.1 hx).1).trans hx),?_⟩
    · unfold tabF;rw[h1];simp only;rw[hb,if_neg (by rw[h44];decide),if_pos h44,hb3];exact i1
    · rw[i2];simp[tabT];omega
    · rw[i8];show nd.keys++[w]++_=_;simp
    · rw[i9];show nd.subs++[st.length+root]++l=_;simp
    refine .cons w v _ root st.length nds _ l hv htl (fun j y hy=>?_) i11;obtain⟨x,hx,q⟩:=h6 j y hy;exact⟨x,hk2 _ _ (by omega) hx,q⟩
theorem tab_twice (s:Bs) (hs:s.length≤20000000) (t:Nat):∀(items:List (Bs × Bs)) (w v:Bs) (rest:List (Bs × Bs)) (n f:Nat) (st:Nds) (r:Bs) (nd:Nd),s.drop n=tabT (items++(w,v)::rest)++r→n≤s.length→(∀it∈items,PairOk it)→WF st→st.length≤n→items.length<f →
    st[t]?=some nd→nd.kind=8→(items.map (·.1)).Nodup→(∀it∈items,it.1 ∉ nd.keys)→w∈nd.keys++items.map (·.1) →
    tabF (envT tab0) (valueF (envT tab0) s 257) s t 1 f n st = .bad 5 (n+tabAt items):=by
 intro items
 induction items with
 | nil =>
  intro w v rest n f st r nd hd hn _ hw hl hf hnd hk _ _ hin;cases f with
  | zero=>omega
  | succ f =>
   have hd':∃q,s.drop n=wrW w++(32::61::q):=⟨_,by rw[hd,List.nil_append];unfold tabT;simp only[List.append_assoc,List.cons_append];rfl⟩
   obtain⟨q,hd'⟩:=hd';unfold tabF;rw[pair_twice s hs t n w v 0 q hd' st hw nd hnd hk (by simpa using hin)];rfl
 | cons it items ih =>
  intro w v rest n f st r nd hd hn hok hw hl hf hnd hk hdis hno hin;cases f with
  | zero=>omega
  | succ f =>
   obtain⟨w1,v1⟩:=it;obtain⟨root,nds,hv⟩:=hok _ (List.mem_cons_self ..);simp only at hv;have htl:t<st.length:=(List.getElem?_eq_some_iff.1 hnd).1;have hne:(items++(w,v)::rest).isEmpty=false:=by cases items <;> rfl
   have hd':s.drop n=wrW w1++(32::61::32::(v1++(32::44::(32::(tabT (items++(w,v)::rest)++r))))):=by
    rw[hd,List.cons_append]
    conv=>lhs;unfold tabT
    rw[hne];simp
   obtain⟨st1,h1,h2,h3,h4,h5,h6⟩:=pair_read s hs t n w1 v1 root nds hv 44 (.inl rfl) _ hd' hn st hw hl nd hnd hk (hno _ (List.mem_cons_self ..));have hd2:s.drop (n+(wrW w1).length+3+v1.length)=32::44::(32::(tabT (items++(w,v)::rest)++r)):=by
    rw[←List.drop_drop,←List.drop_drop,←List.drop_drop,hd'];simp
   have hb:=blanks_one hd2 (by unfold isGap;decide);have hd3:s.drop (n+(wrW w1).length+3+v1.length+1)=44::(32::(tabT (items++(w,v)::rest)++r)):=by rw[←List.drop_drop,hd2];rfl
   have h44:byteAt s (n+(wrW w1).length+3+v1.length+1)=44:=byteAt_drop hd3;have hd4:s.drop (n+(wrW w1).length+3+v1.length+1+1)=32::(tabT (items++(w,v)::rest)++r):=by rw[←List.drop_drop,hd3];rfl
   obtain⟨a,q,e1,ha⟩:∃a q,tabT (items++(w,v)::rest)++r=a::q∧¬isGap a:=by
    obtain⟨w2,v2,t2,e⟩:∃w2 v2 t2,items++(w,v)::rest=(w2,v2)::t2:=by
     cases items with
     | nil=>exact⟨_,_,_,rfl⟩
     | cons i is=>exact⟨i.1,i.2,_,rfl⟩
    rw[e];unfold tabT wrW
    split
    · rename_i hb
      unfold bareW at hb;simp only[Bool.and_eq_true,Bool.not_eq_true',List.all_eq_true]at hb;cases w2 with
      | nil=>cases hb.1
      | cons a w3=>exact⟨a,_,rfl,(bare_not (hb.2 a (List.mem_cons_self ..))).2.2.2⟩
    exact⟨34,_,rfl,by unfold isGap;decide⟩
   have hb3:=blanks_one (hd4.trans (by rw[e1])) ha;have hd5:s.drop (n+(wrW w1).length+3+v1.length+1+1+1)=tabT (items++(w,v)::rest)++r:=by rw[←List.drop_drop,hd4];rfl
   have hlen:=congrArg List.length hd';rw[List.length_drop]at hlen;simp only[List.length_append,List.length_cons]at hlen;have hnd1:st1[t]?=some nd:=(h5 t htl).trans hnd;have hnd2:(putAt st1 t w1 (n,n+(wrW w1).length) (st.length+root))[t]?=some (putNd nd w1 (n,n+(wrW w1).length) (st.length+root)):=by rw[get_put,if_pos rfl,hnd1];rfl
   have hplen:(putAt st1 t w1 (n,n+(wrW w1).length) (st.length+root)).length=st1.length:=by unfold putAt;simp
   have hdis':w1 ∉ (items.map (·.1))∧(items.map (·.1)).Nodup:=by rw[List.map_cons,List.nodup_cons]at hdis;exact hdis
   have:=ih w v rest (n+(wrW w1).length+3+v1.length+1+1+1) f _ r (putNd nd w1 (n,n+(wrW w1).length) (st.length+root)) hd5 (by omega) (fun it hit=>hok it (List.mem_cons_of_mem _ hit)) h2 (by rw[hplen];omega) (by simp only[List.length_cons]at hf;omega) hnd2 hk hdis'.2
    (fun it hit hin=>by
     rcases List.mem_append.1 (show it.1∈nd.keys++[w1] from hin) with h|h
     · exact hno it (List.mem_cons_of_mem _ hit) h
     simp only[List.mem_singleton]at h;exact hdis'.1 (h ▸ List.mem_map_of_mem hit))
    (by
     show w∈(nd.keys++[w1])++items.map (·.1)
     simpa using hin)
   unfold tabF;rw[h1];simp only;rw[hb,if_neg (by rw[h44];decide),if_pos h44,hb3,this];simp only[tabAt];congr 1;omega
end Go.Proofs.YtkplelejagpkmaaGreatDoor.Pl
namespace Go.Proofs.YtkplelejagpkmaaGreatDoor.Pl
theorem listT_len (dr:Bool) (items:List Item3):items.length≤(listT dr items).length:=by
 induction items with
 | nil=>simp
 | cons it rest ih =>
  obtain⟨a,v,b⟩:=it;unfold listT
  split
  · rename_i h
    simp only[Bool.and_eq_true,List.isEmpty_iff]at h;rw[h.1];simp;omega
  simp;omega
theorem tabT_len (items:List (Bs × Bs)):items.length≤(tabT items).length:=by
 induction items with
 | nil=>simp
 | cons it rest ih =>
  obtain⟨w,v⟩:=it;unfold tabT
  split
  · rename_i h
    rw[List.isEmpty_iff]at h;rw[h];simp;omega
  simp;omega
theorem list_law (T) (dr:Bool) (items:List Item3) (r:Bs) (hs:(91::listT dr items++r).length≤20000000) (hok:∀it∈items,ItemOk3 T it) :
    ∃root l nds nd,readS (envT T) (91::listT dr items++r) 0 0 = .ok (root,(91::listT dr items).length,nds)∧nds[root]?=some nd∧nd.kind=7∧nd.subs=l∧nd.keys=[]∧nd.sp=((0:Int),(((91::listT dr items).length:Nat):Int))∧Placed (envT T) items 1 l nds:=by
 obtain⟨s,hse⟩:∃s,91::listT dr items++r=s:=⟨_,rfl⟩
 rw[hse]at hs ⊢;have hlen:=listT_len dr items;have hl:s.length=1+(listT dr items).length+r.length:=by rw[←hse];simp;omega
 have hd:s.drop 1=listT dr items++r:=by rw[←hse];rfl
 have h91:byteAt s 0=91:=by rw[←hse];rfl
 have hg:=gapAt_of (s:=s) (n:=1) (k:=listGap items) (by rw[hd];exact list_gap T dr items hok r);obtain⟨l,e,st',h1,h2,h3,h4,_,_,h5⟩:=list_read T dr s hs items 1 (s.length+2) [] [] r hd (by omega) hok (fun i nd h=>by simp at h) (by simp) (by simp;omega) (by omega);have hroom:=room_ok (st:=st') (by omega);refine⟨st'.length,l,st'++[listNd l 0 (e+1)],listNd l 0 (e+1),?_,by simp,rfl,rfl,rfl,?_,h5.keep fun j x hx=>by
  rw[List.getElem?_append_left (List.getElem?_eq_some_iff.1 hx).1];exact hx⟩
 · unfold readS;rw[show min 0 256+1=1 from rfl,show (258:Nat)=257+1 from rfl]
   conv=>lhs;unfold valueF
   simp only;rw[h91,if_neg (by decide),if_pos rfl];unfold listS;rw[if_neg (by decide),show 0+1=1 from rfl,hg];simp only;rw[h1];simp only;rw[hroom,if_pos rfl];simp only[List.nil_append,List.length_cons];rw[show e+1=(listT dr items).length+1 by omega]
 show (((0:Nat):Int),((e+1:Nat):Int))=_;rw[show e+1=(91::listT dr items).length by simp;omega];rfl
theorem table_law (items:List (Bs × Bs)) (hs:(123::tabT items).length≤20000000) (hok:∀it∈items,PairOk it) (hdis:(items.map (·.1)).Nodup) :
    ∃l nds nd,readS (envT tab0) (123::tabT items) 0 0 = .ok (0,(123::tabT items).length,nds)∧nds[0]?=some nd∧nd.kind=8∧nd.subs=l∧nd.keys=items.map (·.1)∧PlacedT (envT tab0) 0 items l nds:=by
 obtain⟨s,hse⟩:∃s,123::tabT items=s:=⟨_,rfl⟩
 rw[hse]at hs ⊢;have hlen:=tabT_len items;have hl:s.length=1+(tabT items).length:=by rw[←hse];simp;omega
 have hd:s.drop 1=tabT items:=by rw[←hse];rfl
 have h123:byteAt s 0=123:=by rw[←hse];rfl
 have hw0:WF ([]:Nds):=fun i nd h=>by simp at h
 have hw1:WF ([]++[tabNd]):=hw0.app _ ⟨fun _=>⟨rfl,rfl⟩,List.Pairwise.nil,fun x hx=>(by cases hx),fun h=>absurd rfl h⟩;have key:∃l e st' nd',(if byteAt s (blanksAt s 1)=125 then Res.ok (blanksAt s 1,([]:Nds)++[tabNd]) else tabF (envT tab0) (valueF (envT tab0) s 257) s ([]:Nds).length 1 (s.length+2) (blanksAt s 1) ([]++[tabNd])) = .ok (e,st')∧e+1=s.length∧WF st'∧st'.length≤e ∧
     st'[0]?=some nd'∧nd'.kind=8∧nd'.keys=items.map (·.1)∧nd'.subs=l∧PlacedT (envT tab0) 0 items l st':=by
  cases items with
  | nil =>
   have hd':s.drop 1=125::[]:=hd;have hb:=blanks_none hd' (by unfold isGap;decide);refine⟨[],1,[]++[tabNd],tabNd,?_,by rw[hl];rfl,hw1,Nat.le_refl _,rfl,rfl,rfl,rfl,.nil _⟩;have h125:byteAt s 1=125:=byteAt_drop hd';rw[hb,if_pos h125]
  | cons it rest =>
   obtain⟨w,v⟩:=it;obtain⟨a,q,e1,ha,h125⟩:∃a q,tabT ((w,v)::rest)=a::q∧¬isGap a∧a≠125:=by
    unfold tabT wrW
    split
    · rename_i hb
      unfold bareW at hb;simp only[Bool.and_eq_true,Bool.not_eq_true',List.all_eq_true]at hb;cases w with
      | nil=>cases hb.1
      | cons a w3 =>
       have hba:=hb.2 a (List.mem_cons_self ..);exact⟨a,_,rfl,(bare_not hba).2.2.2,fun e=>by (subst e;revert hba;decide)⟩
    exact⟨34,_,rfl,by unfold isGap;decide,by decide⟩
   have hb:=blanks_none (hd.trans e1) ha;have hne:¬byteAt s 1=125:=by
    rw[byteAt_drop (hd.trans e1)];intro h;exact h125 (UInt8.toNat_inj.1 (by rw[h];rfl))
   obtain⟨l,e,st',nd',i1,i2,i3,i4,_,i6,i7,i8,i9,_,i11⟩:=tab_read s hs 0 ((w,v)::rest) 1 (s.length+2) ([]++[tabNd]) [] tabNd (by simp) (by rw[hd];simp) (by omega) hok hw1 (by simp) (by omega) rfl rfl hdis (fun it _ h=>by cases h);refine⟨l,e,st',nd',?_,by omega,i3,i4,i6,i7,by rw[i8];rfl,by rw[i9];rfl,i11⟩;rw[hb,if_neg hne];exact i1
 obtain⟨l,e,st',nd',k1,k2,k3,k4,k5,k6,k7,k8,k9⟩:=key;have h8:=kind8_ok k3 (by omega) 0 nd' k5 k6;refine⟨l,st'.modify 0 (fun nd=>{ nd with sp:=(((0:Nat):Int),((e+1:Nat):Int)) }),{ nd' with sp:=(((0:Nat):Int),((e+1:Nat):Int)) },?_,by rw[get_modify,if_pos rfl,k5];rfl,k6,k8,k7,k9.keep fun j x hj hx=>by
  rw[get_modify,if_neg (by omega)];exact hx⟩
 unfold readS;rw[show min 0 256+1=1 from rfl,show (258:Nat)=257+1 from rfl]
 conv=>lhs;unfold valueF
 simp only;rw[h123,if_neg (by decide),if_neg (by decide),if_pos rfl];unfold tableS;rw[if_neg (by decide),if_pos (by rfl),show 0+1=1 from rfl];simp only;rw[k1];simp only;rw[show ([]:Nds).length=0 from rfl,h8,if_pos rfl,k2]
theorem table_twice (items:List (Bs × Bs)) (w v:Bs) (rest:List (Bs × Bs)) (hs:(123::tabT (items++(w,v)::rest)).length≤20000000) (hok:∀it∈items,PairOk it) (hdis:(items.map (·.1)).Nodup) (hin:w∈items.map (·.1)) :
    readS (envT tab0) (123::tabT (items++(w,v)::rest)) 0 0 = .bad 5 (1+tabAt items):=by
 obtain⟨s,hse⟩:∃s,123::tabT (items++(w,v)::rest)=s:=⟨_,rfl⟩
 rw[hse]at hs ⊢;have hlen:=tabT_len (items++(w,v)::rest);have hl:s.length=1+(tabT (items++(w,v)::rest)).length:=by rw[←hse];simp;omega
 have hd:s.drop 1=tabT (items++(w,v)::rest):=by rw[←hse];rfl
 have h123:byteAt s 0=123:=by rw[←hse];rfl
 have hw0:WF ([]:Nds):=fun i nd h=>by simp at h
 have hw1:WF ([]++[tabNd]):=hw0.app _ ⟨fun _=>⟨rfl,rfl⟩,List.Pairwise.nil,fun x hx=>(by cases hx),fun h=>absurd rfl h⟩;simp only[List.length_append,List.length_cons]at hlen;obtain⟨a,q,e1,ha,h125⟩:∃a q,tabT (items++(w,v)::rest)=a::q∧¬isGap a∧a≠125:=by
  obtain⟨w2,v2,t2,e⟩:∃w2 v2 t2,items++(w,v)::rest=(w2,v2)::t2:=by
   cases items with
   | nil=>exact⟨_,_,_,rfl⟩
   | cons i is=>exact⟨i.1,i.2,_,rfl⟩
  rw[e];unfold tabT wrW
  split
  · rename_i hb
    unfold bareW at hb;simp only[Bool.and_eq_true,Bool.not_eq_true',List.all_eq_true]at hb;cases w2 with
    | nil=>cases hb.1
    | cons a w3 =>
     have hba:=hb.2 a (List.mem_cons_self ..);exact⟨a,_,rfl,(bare_not hba).2.2.2,fun e=>by (subst e;revert hba;decide)⟩
  exact⟨34,_,rfl,by unfold isGap;decide,by decide⟩
 have hb:=blanks_none (hd.trans e1) ha;have hne:¬byteAt s 1=125:=by
  rw[byteAt_drop (hd.trans e1)];intro h;exact h125 (UInt8.toNat_inj.1 (by rw[h];rfl))
 have ht:=tab_twice s hs 0 items w v rest 1 (s.length+2) ([]++[tabNd]) [] tabNd (by rw[hd];simp) (by omega) hok hw1 (by simp) (by omega) rfl rfl hdis (fun it _ h=>by cases h) (by show w∈[]++_;simpa using hin);unfold readS;rw[show min 0 256+1=1 from rfl,show (258:Nat)=257+1 from rfl]
 conv=>lhs;unfold valueF
 simp only;rw[h123,if_neg (by decide),if_neg (by decide),if_pos rfl];unfold tableS;rw[if_neg (by decide),if_pos (by rfl),show 0+1=1 from rfl];simp only;rw[hb,if_neg hne,show ([]:Nds).length=0 from rfl,ht]
end Go.Proofs.YtkplelejagpkmaaGreatDoor.Pl
namespace Go.Proofs.YtkplelejagpkmaaGreatDoor.Pl
def gapOf (n:Nat):Bs:=gaps6.getD (n % 6) []
theorem gapOf_mem (n:Nat):gapOf n∈gaps6:=by
 unfold gapOf;have h:n % 6<gaps6.length:=Nat.mod_lt _ (by decide);rw[List.getD_eq_getElem?_getD,List.getElem?_eq_getElem h];exact List.getElem_mem h
def item1 (it:Item3):Bs:=it.1++(it.2.1++(it.2.2++[44]))
theorem listT_plain (items:List Item3):listT false items=items.flatMap item1++[32,93]:=by
 induction items with
 | nil=>rfl
 | cons it rest ih =>
  obtain⟨a,v,b⟩:=it;have h1:listT false ((a,v,b)::rest)=a++(v++(b++44::listT false rest)):=by
   conv=>lhs;unfold listT
   simp
  rw[List.flatMap_cons,h1,ih];simp[item1]
theorem listT_drop (items:List Item3) (h:items≠[]):listT true items=(items.flatMap item1).take ((items.flatMap item1).length-1)++[32,93]:=by
 induction items with
 | nil=>exact absurd rfl h
 | cons it rest ih =>
  obtain⟨a,v,b⟩:=it;rw[List.flatMap_cons];cases rest with
  | nil =>
   unfold listT item1;simp only[List.isEmpty_nil,Bool.and_self,if_true,List.flatMap_nil,List.append_nil];rw[show (a++(v++(b++[44])))=(a++(v++b))++[44] by simp];rw[List.length_append,List.length_singleton,Nat.add_sub_cancel,List.take_left']
   · simp
   rfl
  | cons it2 rest2 =>
   have hne:(it2::rest2).flatMap item1≠[]:=by
    rw[List.flatMap_cons];unfold item1;simp
   have hpos:=List.length_pos_iff.2 hne;unfold listT;simp only[List.isEmpty_cons,Bool.false_and,Bool.false_eq_true,if_false];rw[ih (by simp)];obtain⟨X,hX⟩:∃X,(it2::rest2).flatMap item1=X:=⟨_,rfl⟩
   rw[hX]at hpos ⊢;have hY:List.take ((item1 (a,v,b)++X).length-1) (item1 (a,v,b)++X)=item1 (a,v,b)++X.take (X.length-1):=by
    rw[List.take_append,List.length_append,show (item1 (a,v,b)).length+X.length-1-(item1 (a,v,b)).length=X.length-1 by omega,List.take_of_length_le (by omega)]
   rw[hY];simp[item1]
def fromsL:Nat→List Item3→List Nat
 | _,[]=>[]
 | n,it::rest=>(n+it.1.length)::fromsL (n+(item1 it).length) rest
theorem fromsL_app (n:Nat) (items:List Item3) (it:Item3):fromsL n (items++[it])=fromsL n items++[n+(items.flatMap item1).length+it.1.length]:=by
 induction items generalizing n with
 | nil=>simp[fromsL]
 | cons x rest ih =>
  rw[List.cons_append,fromsL,fromsL,ih,List.flatMap_cons,List.length_append];simp;omega
theorem fromsL_le (n:Nat) (items:List Item3):∀(i fr:Nat),(fromsL n items)[i]?=some fr→fr≤n+(items.flatMap item1).length:=by
 induction items generalizing n with
 | nil=>intro i fr h;simp[fromsL]at h
 | cons x rest ih =>
  intro i fr h;rw[List.flatMap_cons,List.length_append];have hx:x.1.length≤(item1 x).length:=by unfold item1;simp
  cases i with
  | zero=>simp[fromsL]at h;omega
  | succ i =>
   have:=ih (n+(item1 x).length) i fr (by simpa [fromsL]using h);omega
theorem Placed.at' {E:Env} {items:List Item3} {n:Nat} {l:List Nat} {st:Nds} (h:Placed E items n l st):∀(i:Nat) it,items[i]?=some it→∃(root b0:Nat) (nds:Nds) (fr:Nat),valueF E it.2.1 258 2 0 [] = .ok (root,it.2.1.length,nds)∧l[i]?=some (b0+root)∧(fromsL n items)[i]?=some fr ∧
    (∀(j:Nat) y,nds[j]?=some y→∃x,st[b0+j]?=some x∧SN b0 x y)∧∃nd,st[b0+root]?=some nd∧nd.sp=((fr:Int),((fr+it.2.1.length:Nat):Int)):=by
 induction h with
 | nil=>intro i it h;simp at h
 | cons a v b rest n root b0 nds st l h hr hs _ ih =>
  intro i it hi;cases i with
  | zero =>
   simp at hi;subst hi;exact⟨root,b0,nds,n+a.length,h,rfl,rfl,hr,hs⟩
  | succ i =>
   obtain⟨root',b',nds',fr',h1,h2,h3,h4⟩:=ih i it (by simpa using hi);refine⟨root',b',nds',fr',h1,by simpa using h2,?_,h4⟩;rw[fromsL,List.getElem?_cons_succ,show n+(item1 (a,v,b)).length=n+a.length+v.length+b.length+1 by simp[item1];omega];exact h3
theorem Placed.len {E:Env} {items:List Item3} {n:Nat} {l:List Nat} {st:Nds} (h:Placed E items n l st):l.length=items.length:=by
 induction h with
 | nil=>rfl
 | cons _ _ _ _ _ _ _ _ _ _ _ _ _ _ ih=>simp[ih]
theorem PlacedT.len {E:Env} {t:Nat} {items:List (Bs × Bs)} {l:List Nat} {st:Nds} (h:PlacedT E t items l st):l.length=items.length:=by
 induction h with
 | nil=>rfl
 | cons _ _ _ _ _ _ _ _ _ _ _ _ ih=>simp[ih]
theorem PlacedT.at' {E:Env} {t:Nat} {items:List (Bs × Bs)} {l:List Nat} {st:Nds} (h:PlacedT E t items l st):∀(i:Nat) it,items[i]?=some it→∃(root b0:Nat) (nds:Nds),valueF E it.2 258 2 0 [] = .ok (root,it.2.length,nds)∧l[i]?=some (b0+root) ∧
    (∀(j:Nat) y,nds[j]?=some y→∃x,st[b0+j]?=some x∧SN b0 x y):=by
 induction h with
 | nil=>intro i it h;simp at h
 | cons w v rest root b0 nds st l h hb hr _ ih =>
  intro i it hi;cases i with
  | zero=>simp at hi;subst hi;exact⟨root,b0,nds,h,rfl,hr⟩
  | succ i =>
   obtain⟨root',b',nds',h1,h2,h3⟩:=ih i it (by simpa using hi);exact⟨root',b',nds',h1,by simpa using h2,h3⟩
def pair1 (it:Bs × Bs):Bs:=wrW it.1++(32::61::32::(it.2++[32]))
def tabU:List (Bs × Bs)→Bs
 | []=>[]
 | it::rest=>pair1 it++(if rest.isEmpty then [] else 44::32::tabU rest)
theorem tabT_U (items:List (Bs × Bs)):tabT items=tabU items++[125]:=by
 induction items with
 | nil=>rfl
 | cons it rest ih =>
  obtain⟨w,v⟩:=it;unfold tabT tabU pair1;cases rest with
  | nil=>simp
  | cons x xs=>simp[ih]
theorem tabU_app (items:List (Bs × Bs)) (it:Bs × Bs):tabU (items++[it])=tabU items++(if items.isEmpty then [] else [44,32])++pair1 it:=by
 induction items with
 | nil=>simp[tabU]
 | cons x rest ih =>
  rw[List.cons_append];unfold tabU;cases rest with
  | nil=>simp[tabU]
  | cons y ys =>
   rw[ih];simp
theorem tabAt_U (items:List (Bs × Bs)):tabAt items=(tabU items).length+(if items.isEmpty then 0 else 2):=by
 induction items with
 | nil=>rfl
 | cons x rest ih =>
  obtain⟨w,v⟩:=x;cases rest with
  | nil=>simp[tabAt,tabU,pair1];omega
  | cons y ys =>
   have h1:tabU ((w,v)::y::ys)=pair1 (w,v)++(44::32::tabU (y::ys)):=rfl;have h2:tabAt ((w,v)::y::ys)=(wrW w).length+3+v.length+1+2+tabAt (y::ys):=rfl;have h3:tabAt (y::ys)=(tabU (y::ys)).length+2:=ih;have h4:(pair1 (w,v)).length=(wrW w).length+3+v.length+1:=by simp[pair1];omega
   rw[h1,h2,h3,List.length_append,h4];simp only[List.length_cons,List.isEmpty_cons,Bool.false_eq_true,if_false];omega
end Go.Proofs.YtkplelejagpkmaaGreatDoor.Pl
namespace Go.Proofs.YtkplelejagpkmaaGreatDoor
open Go.RowKit
abbrev getB (l:List ByteArray) (j:Nat):ByteArray:=l.getD j ByteArray.empty
def pairsOf (l ws:List ByteArray) (k:Nat):List (Pl.Bs × Pl.Bs):=(List.range k).map fun j=>(bs (getB ws j),bs (getB l j))
theorem pairsOf_len (l ws:List ByteArray) (k:Nat):(pairsOf l ws k).length=k:=by simp[pairsOf]
theorem pairsOf_succ (l ws:List ByteArray) (k:Nat):pairsOf l ws (k+1)=pairsOf l ws k++[(bs (getB ws k),bs (getB l k))]:=by
 unfold pairsOf;rw[List.range_succ,List.map_append];rfl
theorem pairsOf_at (l ws:List ByteArray) (n j:Nat) (hj:j<n):(pairsOf l ws n)[j]?=some (bs (getB ws j),bs (getB l j)):=by
 unfold pairsOf;rw[List.getElem?_map,List.getElem?_range hj];rfl
theorem tabU_succ (l ws:List ByteArray) (k:Nat):Pl.tabU (pairsOf l ws (k+1))=Pl.tabU (pairsOf l ws k)++(if k=0 then [] else [44,32])++Pl.pair1 (bs (getB ws k),bs (getB l k)):=by
 rw[pairsOf_succ,Pl.tabU_app];cases k with
 | zero=>rfl
 | succ k =>
  have:(pairsOf l ws (k+1)).isEmpty=false:=by rw[pairsOf_succ];simp
  rw[this];rfl
def Twice (ws:List ByteArray) (p:Nat):Prop:=∃q,q<p∧getB ws q=getB ws p
def TwAt (l ws:List ByteArray) (k:Nat) (v:Int):Prop:=(v = -1∧∀p,p<k→¬Twice ws p)∨∃p,p<k∧Twice ws p∧(∀q,q<p→¬Twice ws q)∧v=((1+Pl.tabAt (pairsOf l ws p):Nat):Int)
theorem nodup_of (l ws:List ByteArray):∀k,(∀p,p<k→¬Twice ws p)→((pairsOf l ws k).map (·.1)).Nodup:=by
 intro k
 induction k with
 | zero=>intro _;exact List.nodup_nil
 | succ k ih =>
  intro h;rw[pairsOf_succ,List.map_append,List.nodup_append];refine⟨ih fun p hp=>h p (by omega),by simp,fun a ha b hb e=>?_⟩;simp only[List.map_cons,List.map_nil,List.mem_singleton]at hb;subst hb e;obtain⟨it,hit,hit2⟩:=List.mem_map.1 ha;obtain⟨q,hq,rfl⟩:=List.mem_map.1 hit;rw[List.mem_range]at hq;exact h k (by omega) ⟨q,hq,bs_inj hit2⟩
theorem TwAt.all {l ws:List ByteArray} {k:Nat} {v:Int} (h:TwAt l ws k v):(v = -1∧((pairsOf l ws k).map (·.1)).Nodup) ∨
    ∃p w x rest,p<k∧v=((1+Pl.tabAt (pairsOf l ws p):Nat):Int)∧pairsOf l ws k=pairsOf l ws p++(w,x)::rest∧((pairsOf l ws p).map (·.1)).Nodup∧w∈(pairsOf l ws p).map (·.1):=by
 rcases h with⟨h1,h2⟩|⟨p,h1,⟨q,hq,he⟩,h3,h4⟩
 · exact .inl ⟨h1,nodup_of l ws k h2⟩
 right;obtain⟨m,rfl⟩:∃m,k=p+1+m:=⟨k-p-1,by omega⟩
 have hsplit:∀m,∃rest,pairsOf l ws (p+1+m)=pairsOf l ws p++(bs (getB ws p),bs (getB l p))::rest:=by
  intro m
  induction m with
  | zero=>exact⟨[],by rw[Nat.add_zero,pairsOf_succ]⟩
  | succ m ih =>
   obtain⟨rest,hr⟩:=ih;exact⟨rest++[_],by rw[show p+1+(m+1)=(p+1+m)+1 by omega,pairsOf_succ,hr,List.append_assoc,List.cons_append]⟩
 obtain⟨rest,hr⟩:=hsplit m;refine⟨p,_,_,rest,h1,h4,hr,nodup_of l ws p h3,?_⟩;rw[←he];refine List.mem_map.2 ⟨(bs (getB ws q),bs (getB l q)),?_,rfl⟩;exact List.mem_map.2 ⟨q,List.mem_range.2 hq,rfl⟩
def TwIn (l ws:List ByteArray) (k m:Nat) (v:Int):Prop:=(v = -1∧(∀p,p<k→¬Twice ws p)∧∀q,q<m→getB ws q≠getB ws k)∨∃p,p≤k∧Twice ws p∧(∀q,q<p→¬Twice ws q)∧v=((1+Pl.tabAt (pairsOf l ws p):Nat):Int)
theorem TwAt.begins {l ws:List ByteArray} {k:Nat} {v:Int} (h:TwAt l ws k v):TwIn l ws k 0 v :=
 h.elim (fun ⟨a,b⟩ => .inl ⟨a,b,fun q hq=>by omega⟩) (fun ⟨p,a,b⟩ => .inr ⟨p,by omega,b⟩)
theorem TwIn.ends {l ws:List ByteArray} {k:Nat} {v:Int} (h:TwIn l ws k k v):TwAt l ws (k+1) v :=
 h.elim (fun ⟨a,b,c⟩ => .inl ⟨a,fun p hp ht=>by
  by_cases hpk:p=k
  · subst hpk;obtain⟨q,hq,he⟩:=ht;exact c q hq he
  exact b p (by omega) ht⟩) (fun ⟨p,a,b⟩ => .inr ⟨p,by omega,b⟩)
theorem TwIn.same {l ws:List ByteArray} {k m:Nat} {v:Int} (h:TwIn l ws k m v) (hm:m<k) (hne:getB ws m≠getB ws k∨0≤v):TwIn l ws k (m+1) v:=by
 rcases h with⟨a,b,c⟩|h
 · rcases hne with hne|hne
   · refine .inl ⟨a,b,fun q hq=>?_⟩;by_cases hqm:q=m
     · subst hqm;exact hne
     exact c q (by omega)
   omega
 exact .inr h
theorem TwIn.found {l ws:List ByteArray} {k m:Nat} {v:Int} (h:TwIn l ws k m v) (hm:m<k) (he:getB ws m=getB ws k) (hv:v<0):TwIn l ws k (m+1) ((1+Pl.tabAt (pairsOf l ws k):Nat):Int):=by
 rcases h with⟨_,b,_⟩|⟨p,_,_,_,h4⟩
 · exact .inr ⟨k,Nat.le_refl _,⟨m,hm,he⟩,b,rfl⟩
 omega
end Go.Proofs.YtkplelejagpkmaaGreatDoor
