/-
 The walks and plain laws that the claim rests on, part 40.
-/
import Derived.Test.YtkplelejagpkmaaGreatDoorP02
import Derived.Test.YtkplelejagpkmaaGreatDoorP07
import Derived.Test.YtkplelejagpkmaaGreatDoorP13
import Derived.Test.YtkplelejagpkmaaGreatDoorP20
import Derived.Test.YtkplelejagpkmaaGreatDoorP33
set_option maxHeartbeats 16000000
set_option linter.all false
set_option linter.unusedVariables false
set_option linter.unusedSimpArgs false
namespace Go.Proofs.YtkplelejagpkmaaGreatDoor
open Go.RowKit Go.Joins
theorem tk_bare (c:UInt8) (w:World) :
    Calls Tryz.prog 45 #[.int .u8 c.toNat] w fun e w'=>e = .returned (.bool (Pl.isBare c))∧w=w':=by
 go_enter Tryz.func45,Tryz.ntmps45
 go_wp2
 all_goals go_ret
 all_goals (refine⟨ret_bool ?_,rfl⟩;rw[Bool.eq_iff_iff];simp[Pl.isBare];try omega)
theorem bareRun_more (l:List UInt8) (a k:Nat) (h:a+k<l.length) (hk:k≤Pl.bareRun (l.drop a)) (hb:Pl.isBare (l[a+k]'h)=true):k+1≤Pl.bareRun (l.drop a):=by
 induction k generalizing a with
 | zero =>
  have:l.drop a=l[a]'(by omega)::l.drop (a+1):=List.drop_eq_getElem_cons (by omega);have hb':Pl.isBare l[a]=true:=hb;rw[this];unfold Pl.bareRun;rw[List.takeWhile_cons,if_pos hb'];simp
 | succ k ih =>
  have e:l.drop a=l[a]'(by omega)::l.drop (a+1):=List.drop_eq_getElem_cons (by omega);rw[e]at hk ⊢;unfold Pl.bareRun at hk ⊢;rw[List.takeWhile_cons]at hk ⊢
  split at hk
  · rename_i h1
    rw[if_pos h1];have:=ih (a+1) (by omega) (by unfold Pl.bareRun;simp at hk;omega) (by simpa [show a+1+k=a+(k+1) from by omega]using hb);unfold Pl.bareRun at this;simp;omega
  simp at hk
theorem bareRun_stop (l:List UInt8) (a k:Nat) (hk:k≤Pl.bareRun (l.drop a)) (hb:∀h:a+k<l.length,Pl.isBare (l[a+k]'h)=false):Pl.bareRun (l.drop a)=k:=by
 induction k generalizing a with
 | zero =>
  by_cases h:a<l.length
  · have:l.drop a=l[a]'h::l.drop (a+1):=List.drop_eq_getElem_cons h;have hb':Pl.isBare l[a]=false:=hb h;rw[this];unfold Pl.bareRun;rw[List.takeWhile_cons,if_neg (by rw[hb'];simp)];rfl
  rw[List.drop_eq_nil_of_le (by omega)];rfl
 | succ k ih =>
  by_cases h:a<l.length
  · have e:l.drop a=l[a]'h::l.drop (a+1):=List.drop_eq_getElem_cons h;rw[e]at hk ⊢;unfold Pl.bareRun at hk ⊢;rw[List.takeWhile_cons]at hk ⊢
    split at hk
    · rename_i h1
      rw[if_pos h1];have:=ih (a+1) (by unfold Pl.bareRun;simp at hk;omega) (fun h=>by have:=hb (by omega);simpa [show a+1+k=a+(k+1) from by omega]using this);unfold Pl.bareRun at this;simp;omega
    simp at hk
  rw[List.drop_eq_nil_of_le (by omega)]at hk;simp[Pl.bareRun]at hk
def WordPost (s:ByteArray) (w:World) (x:Pl.Res (Pl.Bs × Nat)) (e:Ending) (w':World):Prop :=
 match x with
 | .non=>True
 | .ok (t,m)=>e = .returned (.tuple #[strV t,.int .i64 m,f0])∧m≤s.size∧Gr w w'
 | .bad c p=>(∃m:Nat,e = .returned (.tuple #[.string ⟨#[]⟩,.int .i64 m,fv c p]))∧c≠0∧Gr w w'
def EnvStr (T:Nat→UInt8 × UInt8) (E:Pl.Env):Prop:=E.str=Pl.strS T
theorem extract_take (s:ByteArray) (n k:Nat):s.extract n (n+k)=⟨(((bs s).drop n).take k).toArray⟩:=by
 apply ByteArray.ext;apply Array.toList_inj.1;rw[Lib.extract_data,show n+k-n=k from by omega]
set_option maxRecDepth 100000 in
theorem tk_word (T:Nat→UInt8 × UInt8) (E:Pl.Env) (hE:EnvStr T E) (s:ByteArray) (i:Int) (n:Nat) (hi:i=n) (hn:n≤s.size) (hs:s.size≤20000000) (X:Pl.Res (Pl.Bs × Nat)) (hX:Pl.word E (bs s) n=X) (hne:X ≠ .non) (w:World) (hQ:QW T w) :
    Calls Tryz.prog 114 #[.string s,.int .i64 i] w (WordPost s w X):=by
 have HQW:=Lib.hid hQ;clear hQ;subst hi;unfold Pl.word at hX;cases hl:Pl.longAt (bs s) n
 · rw[hl]at hX;simp only[Bool.false_eq_true,if_false]at hX;have HL:=Lib.hid hl;have HX:=Lib.hid hX;have hrl:=Pl.takeWhile_length_le Pl.isBare ((bs s).drop n);rw[List.length_drop,bs_length]at hrl;clear hl hX;go_enter Tryz.func114,Tryz.ntmps114;go_wp2_with (go_at_call 76;refine (tq_Long s _ n rfl hn hs _).mono ?_;rw[HL.out];rintro e w1 ⟨rfl,rfl⟩)
   go_loopw [5] (fun v wr=>∃k:Nat,v = .int .i64 (n+k:Nat)∧k≤Pl.bareRun ((bs s).drop n)∧wr=w.alloc (.cells #[.int .i64 0,.int .i64 0] 31)) (fun v _=>s.size-(intOf v).toNat)
   case atStart=>exact⟨0,rfl,by omega,rfl⟩
   case round =>
    obtain⟨k,rfl,hk,rfl⟩:=hrel;have hk':k≤s.size-n:=Nat.le_trans hk hrl;by_cases hgo:∃hlt:n+k<s.size,Pl.isBare s[n+k]=true
    · obtain⟨hlt,hb⟩:=hgo;have hd1:decide ((n:Int)+(k:Int)<(s.size:Int))=true:=by simp;omega
      have hk1:(0:Int)≤(n:Int)+(k:Int):=by omega
      have hk2:(n:Int)+(k:Int)<(s.size:Int):=by omega
      have hk3:((n:Int)+(k:Int)).toNat=n+k:=by omega
      have hmr:=bareRun_more (bs s) n k (by rw[bs_length];exact hlt) hk hb;have HB:=Lib.hid hb;clear hb;go_wp2_with (go_at_call 45;refine (tk_bare _ _).mono ?_;rw[HB.out];rintro e w1 ⟨rfl,rfl⟩)
      go_roundw
      case rel=>exact⟨k+1,by go_num,hmr,trivial⟩
      case measure=>simp[intOf];omega
    have hst:=bareRun_stop (bs s) n k hk (fun h=>by
     cases hb:Pl.isBare ((bs s)[n+k]'h) with
     | false=>rfl
     | true=>exact absurd ⟨by rw[←bs_length];exact h,hb⟩ hgo)
    have hstop:(¬n+k<s.size)∨(∃hlt:n+k<s.size,Pl.isBare s[n+k]=false):=by
     by_cases hlt:n+k<s.size
     · refine .inr ⟨hlt,?_⟩;cases hb:Pl.isBare s[n+k] with
       | false=>rfl
       | true=>exact absurd ⟨hlt,hb⟩ hgo
     exact .inl hlt
    have HX2:=HX.out;rw[hst]at HX2;clear hgo hst hk;by_cases hk0:k=0
    · subst hk0;simp only[if_true]at HX2;rw[hE]at HX2;cases hstr:Pl.strS T ((bs s).drop n) with
      | non=>rw[hstr]at HX2;exact absurd HX2.symm hne
      | ok r =>
       obtain⟨t,m⟩:=r;rw[hstr]at HX2;simp only at HX2;have HSTR:=Lib.hid hstr;have HXX:=Lib.hid HX2;clear hstr HX2;rcases hstop with hlt|⟨hlt,hb⟩
       · exfalso;have h9:=HSTR.out;rw[List.drop_eq_nil_of_le (by rw[bs_length];omega)]at h9;cases h9
       all_goals first
        | (have hb':Pl.isBare s[n]=false:=hb;have hd1:decide ((n:Int)<(s.size:Int))=true:=by { simp;omega };have HB:=Lib.hid hb';clear hb hb';have hk1:(0:Int)≤(n:Int):=by { omega };have hk2:(n:Int)<(s.size:Int):=by { omega })
        | (have hd1:decide ((n:Int)<(s.size:Int))=false:=by { simp;omega };skip)
       all_goals
        go_wp2_with (first|(go_at_call 45;refine (tk_bare _ _).mono ?_;rw[HB.out];rintro e w1 ⟨rfl,rfl⟩)|(go_at_call 59;refine (tq_Read T s _ n rfl hn hs _ HSTR.out (by simp) _ (HQW.out.gr Gr.auto)).mono ?_;rintro e w1 ⟨rfl,hm1,hm2,g1⟩;simp only[f0];obtain⟨hc1,hf1,hz1⟩:=g1.use;simp only[World.size_alloc]at hz1;have p0:w1.cell? ⟨w.heap.size,0,none⟩=some (.int .i64 0):=(hc1 _ _ (by simp)).trans (by simp);have p1:w1.cell? ⟨w.heap.size,1,none⟩=some (.int .i64 0):=(hc1 _ _ (by simp)).trans (by simp);have p2:w1.frozen? ⟨w.heap.size,0,none⟩=false:=(hf1 _ _ (by simp)).trans (by simp[go_sem]);have p3:w1.frozen? ⟨w.heap.size,1,none⟩=false:=(hf1 _ _ (by simp)).trans (by simp[go_sem]);have hlw:w.heap.size<w1.heap.size:=hz1;clear hc1 hf1));refine bodyPost_ret (v := .tuple #[strV t,.int .i64 (n+m:Nat),f0]) (by simp[results,Tryz.results114,go_sem,p0,p1,p2,p3,hlw]) rfl ?_;rw[←HXX.out];exact⟨rfl,hm1,Gr.auto⟩
      | bad c p =>
       rw[hstr]at HX2;simp only at HX2;have HSTR:=Lib.hid hstr;have HXX:=Lib.hid HX2;clear hstr HX2;rcases hstop with hlt|⟨hlt,hb⟩
       all_goals first
        | (have hb':Pl.isBare s[n]=false:=hb;have hd1:decide ((n:Int)<(s.size:Int))=true:=by { simp;omega };have HB:=Lib.hid hb';clear hb hb';have hk1:(0:Int)≤(n:Int):=by { omega };have hk2:(n:Int)<(s.size:Int):=by { omega })
        | (have hd1:decide ((n:Int)<(s.size:Int))=false:=by { simp;omega };skip)
       all_goals
        go_wp2_with (first|(go_at_call 45;refine (tk_bare _ _).mono ?_;rw[HB.out];rintro e w1 ⟨rfl,rfl⟩)|(go_at_call 59;refine (tq_Read T s _ n rfl hn hs _ HSTR.out (by simp) _ (HQW.out.gr Gr.auto)).mono ?_;rintro e w1 ⟨rfl,hm1,g1⟩;obtain⟨hc1,hf1,hz1⟩:=g1.use;simp only[World.size_alloc]at hz1;have p0:w1.cell? ⟨w.heap.size,0,none⟩=some (.int .i64 0):=(hc1 _ _ (by simp)).trans (by simp);have p1:w1.cell? ⟨w.heap.size,1,none⟩=some (.int .i64 0):=(hc1 _ _ (by simp)).trans (by simp);have p2:w1.frozen? ⟨w.heap.size,0,none⟩=false:=(hf1 _ _ (by simp)).trans (by simp[go_sem]);have p3:w1.frozen? ⟨w.heap.size,1,none⟩=false:=(hf1 _ _ (by simp)).trans (by simp[go_sem]);have hlw:w.heap.size<w1.heap.size:=hz1;clear hc1 hf1));refine bodyPost_ret (v := .tuple #[.string ⟨#[]⟩,.int .i64 0,fv c (n+p)]) (by simp[results,Tryz.results114,go_sem,p0,p1,p2,p3,hlw]) rfl ?_;rw[←HXX.out];exact⟨⟨0,rfl⟩,hm1,Gr.auto⟩
    rw[if_neg hk0]at HX2;have HXX:=Lib.hid HX2;clear HX2;have hd4:decide ((n:Int)<(n:Int)+(k:Int))=true:=by simp;omega
    have hk4:(n:Int)+(k:Int)≤(s.size:Int):=by omega
    have hk1:(0:Int)≤(n:Int)+(k:Int):=by omega
    have hk3:((n:Int)+(k:Int)).toNat=n+k:=by omega
    have hk5:(n:Int)≤(n:Int)+(k:Int):=by omega
    have hk6:(0:Int)≤(n:Int):=by omega
    rcases hstop with hlt|⟨hlt,hb⟩
    all_goals first
     | (have HB:=Lib.hid hb;have hd1:decide ((n:Int)+(k:Int)<(s.size:Int))=true:=by { simp;omega };clear hb;have hk2:(n:Int)+(k:Int)<(s.size:Int):=by { omega })
     | (have hd1:decide ((n:Int)+(k:Int)<(s.size:Int))=false:=by { simp;omega };skip)
    all_goals
     go_wp2_with (first|(go_at_call 45;refine (tk_bare _ _).mono ?_;rw[HB.out];rintro e w1 ⟨rfl,rfl⟩))
     go_region
     all_goals go_wp2_with fail
     all_goals
      refine bodyPost_ret (v := .tuple #[.string (s.extract n (n+k)),.int .i64 (n+k:Nat),f0]) (by simp[results,Tryz.results114,go_sem]) rfl ?_;rw[←HXX.out];refine⟨by rw[extract_take],by omega,Gr.auto⟩
 rw[hl]at hX;simp only[if_true]at hX;subst hX;have HL:=Lib.hid hl;have h3:n+2≤s.size:=by
  have hl':Pl.long ((bs s).drop n)=true:=hl;rw[long_pre,Bool.or_eq_true]at hl';rcases hl' with h|h
  all_goals
   have:=Pl.pre_length _ _ h;rw[List.length_drop,bs_length]at this;simp at this;omega
 clear hl;go_enter Tryz.func114,Tryz.ntmps114;go_wp2_with (go_at_call 76;refine (tq_Long s _ n rfl hn hs _).mono ?_;rw[HL.out];rintro e w1 ⟨rfl,rfl⟩)
 go_region
 all_goals go_wp2_with fail
 all_goals
  refine bodyPost_ret (v := .tuple #[.string ⟨#[]⟩,.int .i64 (n+2:Nat),f0]) (by simp[results,Tryz.results114,go_sem]) rfl ⟨rfl,h3,Gr.auto⟩
end Go.Proofs.YtkplelejagpkmaaGreatDoor
namespace Go.Proofs.YtkplelejagpkmaaGreatDoor
open Go.RowKit Go.Shelf Go.Joins
attribute [local go_sem] Oper.semAt_some
variable {Tb:Nat→UInt8 × UInt8}
structure GW (T:Nat→UInt8 × UInt8) (base:Nat) (w:World):Prop where
 int:IntW w
 q:QW T w
 es:4<base
 sh:0<base
 rad:3<base
 max:1<base
 err:2<base
 pow:5<base
theorem GW.st {base:Nat} {w w':World} {F F':Nat→Prop} (h:GW Tb base w) (g:St F F' w w') (hF:∀k,F k→base≤k):GW Tb base w':=by
 have hc:∀ {b o:Nat} {v},b<base→w.cell? ⟨b,o,none⟩=some v→w'.cell? ⟨b,o,none⟩=some v:=fun hb e=>((g.use _ (Lib.lt_of_cell e) (fun hf=>by have:=hF _ hf;simp only at this;omega)).1 _).trans e
 obtain⟨m,hm⟩:=h.int.max;obtain⟨ep,he⟩:=h.int.err;obtain⟨ev,hev,hev2⟩:=h.q.es;refine⟨?_,⟨⟨ev,hc h.es hev,hev2⟩,fun j v hj=>hc h.sh (h.q.sh j v hj)⟩,h.es,h.sh,h.rad,h.max,h.err,h.pow⟩;refine⟨fun j v hj=>hc h.rad (h.int.rad j v hj),⟨m,hc h.max hm⟩,⟨ep,hc h.err he⟩,?_⟩;have hp:=h.int.pow;have hgn:Tryz.prog.globalNamed "internal/strconv.uint64pow10" = some 5:=by kernel_rfl
 unfold Lib.TabIs World.var? at hp ⊢;rw[hgn]at hp ⊢;simp only[Option.bind_some]at hp ⊢;have hlt:5<w.heap.size:=by
  rcases Nat.lt_or_ge 5 w.heap.size with h'|h'
  · exact h'
  rw[Array.getElem?_eq_none h']at hp;cases hp
 rw[g.block _ hlt (fun hf=>by have:=hF _ hf;have:=h.pow;omega)];exact hp
theorem GW.gr {base:Nat} {w w':World} (h:GW Tb base w) (g:Gr w w'):GW Tb base w':=h.st (F:=fun _=>False) (F':=fun _=>False) (g.st) (fun _ e=>e.elim)
def RK (R:Nat) (w:World):Prop:=∃a b c d,w.heap[R]?=some (.cells #[a,b,c,d] 66 (0,0))
theorem RdV.rk {w:World} {R B base:Nat} {s:ByteArray} {root:Int} {nv:Value} {L:List NdR} {own:Nat→Nat} (h:RdV w R B base s root nv L own):RK R w:=⟨_,_,_,_,h.blk⟩
theorem RK.gr {R:Nat} {w w':World} (h:RK R w) (g:Gr w w'):RK R w':=by
 obtain⟨a,b,c,d,h⟩:=h;exact⟨a,b,c,d,(g.block (Array.getElem?_eq_some_iff.1 h).1).trans h⟩
theorem RK.set {R:Nat} {w:World} (h:RK R w) {b o:Nat} (hb:b≠R) (v:Value):RK R (w.setCell ⟨b,o,none⟩ v):=by
 obtain⟨x,y,z,u,h⟩:=h;exact⟨x,y,z,u,by rw[Below.heap_setCell _ _ _ _ (Ne.symm hb)];exact h⟩
theorem RK.drew {R:Nat} {w:World} (h:RK R w):RK R w.drew:=h
def ValPost (s:ByteArray) (R B base:Nat) (root:Int) (own:Nat→Nat) (w:World) (X:Pl.Res (Nat × Nat × Pl.Nds)) (e:Ending) (w':World):Prop :=
 match X with
 | .non=>True
 | .bad c p=>e = .returned (.tuple #[.int .i64 0,.int .i64 0,fv c p])∧c≠0∧∃F',St (FV own) F' w w'∧RK R w'
 | .ok (i,n,st')=>e = .returned (.tuple #[.int .i64 i,.int .i64 n,f0])∧n≤s.size∧i<st'.length ∧
     ∃nv' L' own',RdV w' R B base s root nv' L' own'∧L'.map (·.nd)=st'∧St (FV own) (FV own') w w'∧(∀k,own' k≠0→own k≠0∨w.heap.size≤k)
abbrev nilV:Value := .slice none 0 0
def leafR (k:Nat) (t:Pl.Bs) (a b:Nat):NdR:=⟨Pl.leaf k t a b,nilV,nilV,nilV⟩
theorem leaf_node (w W:World) (R B base:Nat) (s:ByteArray) (root:Int) (nv:Value) (L:List NdR) (own:Nat→Nat) (h:RdV w R B base s root nv L own) (g:Gr w W) (hr:Pl.room (L.map (·.nd))=true)
    (k:Nat) (h8:k≠8) (t:ByteArray) (a b:Nat) (kk:Int) (hkk:kk=k) (b':Int) (hb:b'=b) :
    Calls Tryz.prog 58 #[.pointer (some ⟨R,0,none⟩),.agg #[.int .u8 kk,.string t,nilV,nilV,nilV,.int .i64 a,.int .i64 b']] W fun e w' =>
     e = .returned (.int .i64 L.length)∧∃nv' own',RdV w' R B base s root nv' (L++[leafR k (bs t) a b]) own'∧St (FV own) (FV own') w w'∧(∀k,own' k≠0→own k≠0∨W.heap.size≤k)∧St (FV own) (FV own') W w':=by
 have hl:L.length≤30000000:=by simp[Pl.room]at hr;omega
 subst hb hkk;refine (tv_node W R B base s root nv L own (h.gr g) hl (leafR k (bs t) a b) rfl rfl rfl rfl rfl rfl (rowC_of (nilRow _ _ _ _)) (fun e=>absurd e h8) (fun k e=>by simp[leafR,Value.ownBlock]at e) k t nilV nilV nilV a b ?_).mono ?_
 · simp[ndV,leafR,Pl.leaf,bs]
 rintro e w' ⟨rfl,nv',own',h1,h2,h3⟩;have h2':St (FV own) (FV own') W w':=by
  refine⟨h2.os,h2.tape,h2.output,h2.size,fun k hk hn=>h2.block k hk (fun e=>e.elim hn (fun e=>by simp[leafR,Value.ownBlock]at e)),fun k hk=>?_⟩;rcases h2.own k hk with (e|e)|e
  · exact .inl e
  · simp[leafR,Value.ownBlock]at e
  exact .inr e
 refine⟨rfl,nv',own',h1,(g.st).trans h2',fun k hk=>?_,h2'⟩;rcases h3 k hk with e|e|e
 · exact .inl e
 · simp[leafR,Value.ownBlock]at e
 exact .inr e
def FX (b:Nat) (x y:Value) (w:World):Prop:=w.cell? ⟨b,0,none⟩=some x∧w.cell? ⟨b,1,none⟩=some y∧(∀o,w.frozen? ⟨b,o,none⟩=false)∧b<w.heap.size
theorem FX.gr {b:Nat} {x y:Value} {w w':World} (h:FX b x y w) (g:Gr w w'):FX b x y w' :=
 ⟨(g.use.1 _ _ h.2.2.2).trans h.1,(g.use.1 _ _ h.2.2.2).trans h.2.1,fun o=>(g.use.2.1 _ _ h.2.2.2).trans (h.2.2.1 o),Nat.lt_of_lt_of_le h.2.2.2 g.size⟩
theorem FX.st {b:Nat} {x y:Value} {w w':World} {F F':Nat→Prop} (h:FX b x y w) (g:St F F' w w') (hb:¬F b):FX b x y w' :=
 ⟨((g.use _ h.2.2.2 hb).1 _).trans h.1,((g.use _ h.2.2.2 hb).1 _).trans h.2.1,fun o=>((g.use _ h.2.2.2 hb).2 _).trans (h.2.2.1 o),Nat.lt_of_lt_of_le h.2.2.2 g.size⟩
theorem FX.set {b:Nat} {x y:Value} {w:World} (h:FX b x y w) (x' y':Value):FX b x' y' ((w.setCell ⟨b,0,none⟩ x').setCell ⟨b,1,none⟩ y'):=by
 obtain⟨h0,h1,hf,hl⟩:=h;refine⟨?_,?_,fun o=>by simp[hf],by simpa using hl⟩
 · rw[World.cell?_setCell_other _ _ _ _ (by simp),World.cell?_setCell_same' _ _ _ (by rw[h0];rfl)]
 rw[World.cell?_setCell_same' _ _ _ (by rw[World.cell?_setCell_other _ _ _ _ (by simp),h1];rfl)]
theorem FX.new (w:World) (x y:Value) (T:TypeId):FX w.heap.size x y (w.alloc (.cells #[x,y] T)):=⟨by simp,by simp,fun o=>by simp[go_sem],by simp⟩
set_option maxRecDepth 100000 in
theorem tv_text (E:Pl.Env) (hE:EnvStr Tb E) (w:World) (R B base:Nat) (s:ByteArray) (root:Int) (nv:Value) (L:List NdR) (own:Nat→Nat) (h:RdV w R B base s root nv L own) (hgw:GW Tb base w) (hs:s.size≤20000000)
    (i d:Int) (n:Nat) (hi:i=n) (hn:n≤s.size) (X:Pl.Res (Nat × Nat × Pl.Nds))
    (hX:(match E.str ((bs s).drop n) with
     | .non => .non
     | .bad c p => .bad c (n+p)
     | .ok (t,m)=>if Pl.room (L.map (·.nd)) then .ok ((L.map (·.nd)).length,n+m,L.map (·.nd)++[Pl.leaf 3 t n (n+m)]) else .non:Pl.Res (Nat × Nat × Pl.Nds))=X) (hne:X ≠ .non) :
    Calls Tryz.prog 40 #[.pointer (some ⟨R,0,none⟩),.int .i64 i,.int .i64 d] w (ValPost s R B base root own w X):=by
 subst hi;rw[show E.str=Pl.strS Tb from hE]at hX;obtain⟨c0,c1,c2,c3,fz⟩:=h.cells;have hR:=h.R_lt;have H:=Lib.hid h;cases hq:Pl.strS Tb ((bs s).drop n) with
 | non=>rw[hq]at hX;exact absurd hX.symm hne
 | bad c p =>
  rw[hq]at hX;subst hX;have HQ:=Lib.hid (fun W (g:Gr w W)=>tq_Read Tb s n n rfl hn hs _ hq (by simp) W (hgw.q.gr g));clear hgw;clear hne hq fz c0 c1 c3 h;go_enter Tryz.func40,Tryz.ntmps40;go_wp2_with fail;refine (HQ.out _ Gr.auto).mono ?_;rintro e w1 ⟨rfl,hc,g1⟩;have hc':¬(c:Int)=0:=by omega
  have hnp:((n+p:Nat):Int)=(n:Int)+(p:Int):=by simp
  have hF1:=(FX.new w (.int .i64 0) (.int .i64 0) 31).gr g1;have hF2:=Lib.hid (hF1.set (.int .i64 c) (.int .i64 (n+p:Nat)));obtain⟨f1,f2,f3,f4⟩:=hF1;go_wp2_with fail;refine (tv_fine_no c (n+p) hc' _).mono ?_;rintro e w2 ⟨rfl,g2⟩;obtain⟨q0,q1,qf,hl2⟩:=hF2.out.gr g2;go_wp2_with fail
  go_region
  all_goals go_wp2_with fail
  exact bodyPost_ret (v := .tuple #[.int .i64 0,.int .i64 0,fv c (n+p)]) (by simp[results,Tryz.results40,go_sem,q0,q1,qf,hl2]) rfl ⟨rfl,hc,FV own,St.auto,H.out.rk.gr Gr.auto⟩
 | ok r =>
  obtain⟨t,m⟩:=r;rw[hq]at hX;simp only at hX;cases hr:Pl.room (L.map (·.nd)) with
  | false=>rw[hr,if_neg (by simp)]at hX;exact absurd hX.symm hne
  | true =>
  rw[hr,if_pos rfl]at hX;subst hX;have HQ:=Lib.hid (fun W (g:Gr w W)=>tq_Read Tb s n n rfl hn hs _ hq (by simp) W (hgw.q.gr g));clear hgw;have HR:=Lib.hid hr;have hnR:Hid (¬FV own w.heap.size):=h.not_new (Nat.le_refl _);clear hne hq fz c0 c1 c3 h hr;go_enter Tryz.func40,Tryz.ntmps40;go_wp2_with fail;refine (HQ.out _ Gr.auto).mono ?_;rintro e w1 ⟨rfl,hnm,hm,g1⟩;have hF1:=(FX.new w (.int .i64 0) (.int .i64 0) 31).gr g1;have hF2:=Lib.hid (hF1.set (.int .i64 0) (.int .i64 0));obtain⟨f1,f2,f3,f4⟩:=hF1;have hnp:((n+m:Nat):Int)=(n:Int)+(m:Int):=by simp
  go_wp2_with fail;refine (tv_fine_yes _).mono ?_;rintro e w2 ⟨rfl,g2⟩;have hF3:=hF2.out.gr g2;have hG2:Gr w w2:=by
   refine Gr.trans (Gr.setCell (Gr.setCell (((Gr.refl w).alloc _).trans g1) (Nat.le_refl _) _) (Nat.le_refl _) _) g2
  clear g2 hF2 g1 f1 f2 f3 f4;go_wp2_with fail;have hS:FX w.heap.size (.int .i64 0) (.int .i64 0) w2.drew:=hF3.gr (Gr.refl _).drew;refine Reg.begin' (W:=fun i=>i != 11) (S:=FX w.heap.size (.int .i64 0) (.int .i64 0)) (by kernel_rfl) ?_;refine Reg.ty 0 ?_;refine Reg.ty 1 ?_;refine Reg.ty 2 ?_;refine Reg.ty 3 ?_;refine Reg.ty 4 ?_;refine Reg.ty 5 ?_;refine Reg.ty 7 ?_;refine Reg.tl 8 hS ?_ (hy:=by intro w hSw;obtain⟨q0,q1,qf,ql⟩:=hSw;go_simp;try with_reducible rfl);refine Reg.on 6 ?_;go_simp;refine (leaf_node w w2.drew R B base s root nv L own H.out hG2.drew HR.out 3 (by omega) ⟨t.toArray⟩ n (n+m) 3 rfl _ hnp.symm).mono ?_;rintro e w3 ⟨rfl,nv',own',hr3,hst3,hown3,hst3'⟩;have hF4:=hS.st hst3' hnR.out;refine⟨by first|exact hF4|exact fun _=>hF4|exact fun _ _=>hF4,?_⟩;refine Reg.pt ?_;refine Reg.ty 9 ?_;refine Reg.ty 10 ?_;obtain⟨p0,p1,pf,pl⟩:=hF4;have hn3:¬FV own' w.heap.size:=by
   intro hf;rcases hown3 _ hf with e|e
   · exact hnR.out e
   have:=hS.2.2.2;omega
  have H3:=Lib.hid hr3;have HS3:=Lib.hid hst3;have HO3:=Lib.hid hown3;clear hr3 hst3 hown3 hst3';refine Reg.on 11 ?_;go_simp;refine Reg.done (by kernel_rfl) ?_ _;go_wp2_with fail;refine bodyPost_ret (v := .tuple #[.int .i64 L.length,.int .i64 (n+m:Nat),f0]) (by simp[results,Tryz.results40,go_sem,p0,p1,pf,pl]) rfl ?_;refine⟨by simp,hnm,by simp,nv',_,own',(H3.out.setCell hn3 _).setCell hn3 _,by simp[leafR,bs],?_,fun k hk=>(HO3.out k hk).imp id (fun e=>Nat.le_trans hG2.size e)⟩;exact (HS3.out.setCell (.inr (Nat.le_refl _)) _).setCell (.inr (Nat.le_refl _)) _
end Go.Proofs.YtkplelejagpkmaaGreatDoor
