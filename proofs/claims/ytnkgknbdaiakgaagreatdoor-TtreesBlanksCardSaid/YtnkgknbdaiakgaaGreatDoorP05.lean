/- The proof's part 05. -/
import Derived.Test.YtnkgknbdaiakgaaGreatDoorP07
import Derived.RangeFuncNested
import Derived.RangeFuncBound
set_option maxHeartbeats 16000000
set_option linter.all false
namespace Go.Proofs.YtnkgknbdaiakgaaGreatDoor.Reg
open Go.Proofs.Tryz Go
section
variable {P:Program}{au:Array Oper}{Q:Exit->Act->World->Prop}{md:Region.Mode}{S:World->Prop}{W:Nat->Bool}
def anyW(P:Program)(md:Region.Mode)(au:Array Oper)(Q:Exit->Act->World->Prop)(W:Nat->Bool)(S:World->Prop):Nat->Array Bool->Act->World->Prop
 |0,l,a,w=>Region.ready md au l=[]/\Q .normal a w
 | n+1,l,a,w=>(Region.ready md au l=[]->Q .normal a w) /\
  ∀i∈Region.ready md au l,wpOp P au Q i (λ a' w'=>(W i=true->S w->S w')/\anyW P md au Q W S n (l.setIfInBounds i true) a' w') a w
theorem Ob5:∀(n:Nat)(l:Array Bool)(a:Act)(w:World),anyW P md au Q W S n l a w->wpAny P md au Q n l a w
 |0,_,_,_,h=>h
 |n+1,_,_,_,h=>⟨h.1,λ i hi=>wpOp_mono (λ a' w' h'=>Ob5 n _ a' w' h'.2) (h.2 i hi)⟩
def O46(md:Region.Mode)(au:Array Oper)(l:Array Bool):Prop :=
 ∀j o,au[j]?=some o->l.getD j false=true->∀e∈o.after,Region.binds md e=true->l.getD e.on false=true
def O6b(md:Region.Mode)(au:Array Oper)(l:Array Bool):Bool :=
 (List.range au.size).all λ j=>match au[j]? with
  |none=>true
  |some o => !l.getD j false || o.after.all λ e => !Region.binds md e || l.getD e.on false
theorem Ogg{l:Array Bool}(h:O6b md au l=true):O46 md au l:=by
 intro j o ho hl e he hb;unfold O6b at h;rw[U1g]at h;have h1:=h j (List.mem_range.2 (U8.1 ho).1);simp only[ho,hl,Bool.not_true,U3r]at h1;have h2:=(Array.all_eq_true_iff_forall_mem.1 h1) e he
 simpa [hb]using h2
theorem O46.more{l:Array Bool}(h:O46 md au l){j:Nat}(hj:j∈Region.ready md au l):O46 md au (l.setIfInBounds j true):=by
 intro k o ho hl e he hb;by_cases KZ:j=k;subst KZ;obtain⟨_,o',K',bz⟩:=mem_ready.1 hj;rw[ho]at K';cases K';exact getD_set_true (bz e he hb)
 rw[getD_set_ne false KZ]at hl;exact getD_set_true (h k o ho hl e he hb)
def O47(md:Region.Mode)(au:Array Oper)(i:Nat):Nat->Nat->Bool
 |0,_=>false
 | n+1,j=>match au[j]? with
  |none=>false
  |some o=>o.after.any λ e=>Region.binds md e&&(e.on==i || O47 md au i n e.on)
theorem Oey{i:Nat}:∀(n j:Nat)(l:Array Bool) o,O46 md au l->au[j]?=some o->(∀e∈o.after,Region.binds md e=true->l.getD e.on false=true)->O47 md au i n j=true->l.getD i false=true:=by
 intro n
 induction n with
 |zero=>intro j l o _ _ _ h;cases h
 |succ n ih =>
  intro j l o hc ho bz h;unfold O47 at h;rw[ho]at h;simp only[Array.any_eq_true']at h;obtain⟨e,he,hb⟩:=h;simp only[Uf,Bool.or_eq_true,U1v]at hb;have h1:=bz e he hb.1;rcases hb.2 with h2|h2
  rw[h2]at h1;exact h1
  have hn:O47 md au i n e.on=true:=h2;cases n with
  |zero=>cases hn
  |succ n =>
   cases il:au[e.on]? with
   |none=>unfold O47 at hn;rw[il]at hn;cases hn
   |some o2=>exact ih e.on l o2 hc il (hc e.on o2 il h1) hn
def Oax(md:Region.Mode)(au:Array Oper)(W:Nat->Bool)(i:Nat):Bool:=(List.range au.size).all λ j=>W j || O47 md au i 12 j
theorem first{i:Nat}{oi:Oper}{v:Value}(hi:au[i]?=some oi)(pn:∀(j:Nat)(o:Oper) cs b,au[j]?=some o->o.op ≠ .select cs b)
    (hQ:∀c a w,Q (.panic c) (a.put oi.dst v) w->Q (.panic c) a w)(po:Oax md au W i=true) :
    ∀(n:Nat)(l:Array Bool)(a:Act)(w:World),O46 md au l ->
     (∀j oj,au[j]?=some oj->j≠i->l.getD j true=false->(∀e∈oj.after,Region.binds md e=true->e.on≠i)->oi.apart au oj=true) ->
     i∈Region.ready md au l->YieldsIf P au S oi v a->S w ->
     anyW P md au Q W S n (l.setIfInBounds i true) (a.put oi.dst v) w->anyW P md au Q W S (n+1) l a w:=by
 intro n
 induction n with
 |zero =>
  intro l a w _ _ hr hy hS H;refine⟨λ h=>(by rw[h]at hr;cases hr),λ j hj=>?_⟩;by_cases eJ:j=i;subst eJ;exact hy.wpOp hi hS ⟨λ _ h=>h,H⟩
  have:=ready_mono hj eJ;rw[H.1]at this;cases this
 |succ n ih =>
  intro l a w cX bm hr hy hS H;refine⟨λ h=>(by rw[h]at hr;cases hr),λ j hj=>?_⟩;by_cases eJ:j=i;subst eJ;exact hy.wpOp hi hS ⟨λ _ h=>h,H⟩
  refine Z234 ?_;intro h1 kY oj oU bz mL;have xa:∀e∈oj.after,Region.binds md e=true->e.on≠i:=λ e he hb sE=>by
   have h2:=bz e he hb;rw[sE,mL]at h2;cases h2
  have NN:W j=true:=by
   cases hw:W j with
   |true=>rfl
   |false =>
    unfold Oax at po;rw[U1g]at po;have h2:=po j (List.mem_range.2 (U8.1 oU).1);rw[hw,U3r]at h2;have h3:=Oey 12 j l oj cX oU bz h2;rw[mL]at h3;cases h3
  have h2:=wpOp_putIf oU (bm j oj oU eJ kY xa) (λ cs b=>pn i oi cs b hi) (λ cs b=>pn j oj cs b oU) hQ hy h1;have lf:∀k ok,au[k]?=some ok->k≠i->(l.setIfInBounds j true).getD k true=false->(∀e∈ok.after,Region.binds md e=true->e.on≠i)->oi.apart au ok=true:=λ k ok hk FR B9 qZ=>by
   refine bm k ok hk FR ?_ qZ;by_cases ru:j=k;subst ru;exact kY
   rw[getD_set_ne true ru]at B9;exact B9
  refine wpOp_mono (λ a' w' h3=>⟨h3.2.1,ih (l.setIfInBounds j true) a' w' (cX.more hj) lf (ready_mono hr (U2k eJ)) h3.1 (h3.2.1 NN hS) ?_⟩) h2;rw[Array.setIfInBounds_comm _ _ eJ];exact h3.2.2
theorem Ogh{i:Nat}{oi:Oper}{v:Value}(hi:au[i]?=some oi)(pn:∀(j:Nat)(o:Oper) cs b,au[j]?=some o->o.op ≠ .select cs b)
    (hQ:∀c a w,Q (.panic c) (a.put oi.dst v) w->Q (.panic c) a w) :
    ∀(n:Nat)(l:Array Bool)(a:Act)(w:World),
     (∀j oj,au[j]?=some oj->j≠i->l.getD j true=false->(∀e∈oj.after,Region.binds md e=true->e.on≠i)->oi.apart au oj=true) ->
     i∈Region.ready md au l->YieldsIf P au (λ _=>True) oi v a ->
     anyW P md au Q W S n (l.setIfInBounds i true) (a.put oi.dst v) w->anyW P md au Q W S (n+1) l a w:=by
 intro n
 induction n with
 |zero =>
  intro l a w _ hr hy H;refine⟨λ h=>(by rw[h]at hr;cases hr),λ j hj=>?_⟩;by_cases eJ:j=i;subst eJ;exact hy.wpOp hi U2d ⟨λ _ h=>h,H⟩
  have:=ready_mono hj eJ;rw[H.1]at this;cases this
 |succ n ih =>
  intro l a w bm hr hy H;refine⟨λ h=>(by rw[h]at hr;cases hr),λ j hj=>?_⟩;by_cases eJ:j=i;subst eJ;exact hy.wpOp hi U2d ⟨λ _ h=>h,H⟩
  refine Z234 ?_;intro h1 kY oj oU bz mL;have xa:∀e∈oj.after,Region.binds md e=true->e.on≠i:=λ e he hb sE=>by
   have h2:=bz e he hb;rw[sE,mL]at h2;cases h2
  have h2:=wpOp_putIf oU (bm j oj oU eJ kY xa) (λ cs b=>pn i oi cs b hi) (λ cs b=>pn j oj cs b oU) hQ hy h1;have lf:∀k ok,au[k]?=some ok->k≠i->(l.setIfInBounds j true).getD k true=false->(∀e∈ok.after,Region.binds md e=true->e.on≠i)->oi.apart au ok=true:=λ k ok hk FR B9 qZ=>by
   refine bm k ok hk FR ?_ qZ;by_cases ru:j=k;subst ru;exact kY
   rw[getD_set_ne true ru]at B9;exact B9
  refine wpOp_mono (λ a' w' h3=>⟨h3.2.1,ih (l.setIfInBounds j true) a' w' lf (ready_mono hr (U2k eJ)) h3.1 ?_⟩) h2;rw[Array.setIfInBounds_comm _ _ eJ];exact h3.2.2
theorem takeY{i:Nat}{oi:Oper}{v:Value}{n:Nat}{l:Array Bool}{a:Act}{w:World}(hi:au[i]?=some oi)
    (hs:Region.noSelect au=true)(hf:Region.free md au l i=true)(hr:(Region.ready md au l).contains i=true)
    (hQ:∀c a w,Q (.panic c) (a.put oi.dst v) w->Q (.panic c) a w)(dG:Region.wanted oi (yielded au a.tmps)=true)(hy:∀w,(execOp a.eval oi).run P w = .ok (.value v) w)
    (h:anyW P md au Q W S n (l.setIfInBounds i true) (a.put oi.dst v) w):anyW P md au Q W S (n+1) l a w :=
 Ogh hi (Region.noSelect_spec hs) hQ n l a w (Region.free_spec hi hf) (by simpa using hr) (.inl ⟨dG,λ w _=>hy w⟩) h
theorem take{i:Nat}{oi:Oper}{v:Value}{n:Nat}{l:Array Bool}{a:Act}{w:World}(hi:au[i]?=some oi)
    (hs:Region.noSelect au=true)(hl:Oax md au W i=true)(hc:O6b md au l=true)(hf:Region.free md au l i=true)(hr:(Region.ready md au l).contains i=true)
    (hQ:∀c a w,Q (.panic c) (a.put oi.dst v) w->Q (.panic c) a w)(hS:S w)(dG:Region.wanted oi (yielded au a.tmps)=true)(hy:∀w,S w->(execOp a.eval oi).run P w = .ok (.value v) w)
    (h:anyW P md au Q W S n (l.setIfInBounds i true) (a.put oi.dst v) w):anyW P md au Q W S (n+1) l a w :=
 first hi (Region.noSelect_spec hs) hQ hl n l a w (Ogg hc) (Region.free_spec hi hf) (by simpa using hr) (.inl ⟨dG,hy⟩) hS h
theorem skip{i:Nat}{oi:Oper}{n:Nat}{l:Array Bool}{a:Act}{w:World}(hi:au[i]?=some oi)
    (hs:Region.noSelect au=true)(hf:Region.free md au l i=true)(hr:(Region.ready md au l).contains i=true)
    (hQ:∀c a w,Q (.panic c) (a.put oi.dst undef) w->Q (.panic c) a w)(dG:Region.wanted oi (yielded au a.tmps)=false)
    (h:anyW P md au Q W S n (l.setIfInBounds i true) (a.put oi.dst undef) w):anyW P md au Q W S (n+1) l a w :=
 Ogh hi (Region.noSelect_spec hs) hQ n l a w (Region.free_spec hi hf) (by simpa using hr) (.inr ⟨dG,rfl⟩) h
theorem all{rs:List Nat}{n:Nat}{l:Array Bool}{a:Act}{w:World}(hr:Region.ready md au l=rs)(a8:rs≠[])
    (h:∀i∈rs,wpOp P au Q i (λ a' w'=>(W i=true->S w->S w')/\anyW P md au Q W S n (l.setIfInBounds i true) a' w') a w):anyW P md au Q W S (n+1) l a w :=
 ⟨λ h0=>absurd (hr ▸ h0) a8,hr ▸ h⟩
theorem one{i:Nat}{o:Oper}{K:Act->World->Prop}{a:Act}{w:World}(ho:au[i]?=some o)(hw:Region.wanted o (yielded au a.tmps)=true)(h:Oper.wp P o a w K Q):wpOp P au Q i K a w:=by
 unfold wpOp;simp only[ho,hw,U1j];exact .inl h
theorem done{l:Array Bool}{a:Act}{w:World}(hr:Region.ready md au l=[])(h:Q .normal a w):∀n,anyW P md au Q W S n l a w
 |0=>⟨hr,h⟩
 |_+1=>⟨λ _=>h,by rw[hr];simp⟩
theorem begin'{id:Nat}{a:Act}{w:World}(hm:P.follows .mixedOrders=true)(h:anyW P .any au Q W S au.size (Array.replicate au.size false) a w.drew):(Code.region id au true).wp P Q a w :=
 wp_region_any hm (Ob5 _ _ _ _ h)
end
end Go.Proofs.YtnkgknbdaiakgaaGreatDoor.Reg
namespace Go.Proofs.YtnkgknbdaiakgaaGreatDoor.Reg
open Go.Proofs.Tryz Go Go.RowKit
section
variable {P:Program}{au:Array Oper}{Q:Exit->Act->World->Prop}{md:Region.Mode}{S:World->Prop}{W:Nat->Bool}
theorem ty(i:Nat){oi:Oper}{v:Value}{n:Nat}{l:Array Bool}{a b:Act}{w:World}(h:anyW P md au Q W S n (l.setIfInBounds i true) b w)
    (hi:au[i]?=some oi:=by rfl)(hs:Region.noSelect au=true:=by kernel_rfl)(hf:Region.free md au l i=true:=by kernel_rfl)(hr:(Region.ready md au l).contains i=true:=by kernel_rfl)
    (hQ:∀c a w,Q (.panic c) (a.put oi.dst v) w->Q (.panic c) a w:=by exact λ _ _ _ h=>h)(dG:Region.wanted oi (yielded au a.tmps)=true:=by rfl)
    (hy:∀w,(execOp a.eval oi).run P w = .ok (.value v) w:=by (intro w;go_simp;try with_reducible rfl))(hb:a.put oi.dst v=b:=by ((try simp only[Act.put,U3h,U2s,U36,U28,U26,U2e]);try rfl)):anyW P md au Q W S (n+1) l a w:=by
 subst hb;exact takeY hi hs hf hr hQ dG hy h
theorem tl(i:Nat){oi:Oper}{v:Value}{n:Nat}{l:Array Bool}{a b:Act}{w:World}(hS:S w)(h:anyW P md au Q W S n (l.setIfInBounds i true) b w)
    (hi:au[i]?=some oi:=by rfl)(hs:Region.noSelect au=true:=by kernel_rfl)(hl:Oax md au W i=true:=by kernel_rfl)(hc:O6b md au l=true:=by kernel_rfl)(hf:Region.free md au l i=true:=by kernel_rfl)(hr:(Region.ready md au l).contains i=true:=by kernel_rfl)
    (hQ:∀c a w,Q (.panic c) (a.put oi.dst v) w->Q (.panic c) a w:=by exact λ _ _ _ h=>h)(dG:Region.wanted oi (yielded au a.tmps)=true:=by rfl)
    (hy:∀w,S w->(execOp a.eval oi).run P w = .ok (.value v) w)(hb:a.put oi.dst v=b:=by ((try simp only[Act.put,U3h,U2s,U36,U28,U26,U2e]);try rfl)):anyW P md au Q W S (n+1) l a w:=by
 subst hb;exact take hi hs hl hc hf hr hQ hS dG hy h
theorem sk(i:Nat){oi:Oper}{n:Nat}{l:Array Bool}{a b:Act}{w:World}(h:anyW P md au Q W S n (l.setIfInBounds i true) b w)
    (hi:au[i]?=some oi:=by rfl)(hs:Region.noSelect au=true:=by kernel_rfl)(hf:Region.free md au l i=true:=by kernel_rfl)(hr:(Region.ready md au l).contains i=true:=by kernel_rfl)
    (hQ:∀c a w,Q (.panic c) (a.put oi.dst undef) w->Q (.panic c) a w:=by exact λ _ _ _ h=>h)(dG:Region.wanted oi (yielded au a.tmps)=false:=by rfl)
    (hb:a.put oi.dst undef=b:=by ((try simp only[Act.put,U3h,U2s,U36,U28,U26,U2e]);try rfl)):anyW P md au Q W S (n+1) l a w:=by
 subst hb;exact skip hi hs hf hr hQ dG h
end
section
variable {P:Program}{au:Array Oper}{Q:Exit->Act->World->Prop}{md:Region.Mode}{S:World->Prop}{W:Nat->Bool}
theorem on(i:Nat){oi:Oper}{n:Nat}{l:Array Bool}{a:Act}{w:World}(h:Oper.wp P oi a w (λ a' w'=>(W i=true->S w->S w')/\anyW P md au Q W S n (l.setIfInBounds i true) a' w') Q)
    (hi:au[i]?=some oi:=by rfl)(hr:Region.ready md au l=[i]:=by kernel_rfl)(hw:Region.wanted oi (yielded au a.tmps)=true:=by rfl):anyW P md au Q W S (n+1) l a w :=
 all hr (by simp) λ j hj=>by obtain rfl:=U13.1 hj;exact one hi hw h
theorem pt{n:Nat}{l:Array Bool}{a b:Act}{w:World}(h:anyW P md au Q W S n l b w)(hb:a=b:=by ((try simp only[Act.put,U28,U26,U2e]);rfl)):anyW P md au Q W S n l a w:=by
 subst hb;exact h
end
end Go.Proofs.YtnkgknbdaiakgaaGreatDoor.Reg
namespace Go.Proofs.YtnkgknbdaiakgaaGreatDoor
open Pl Go.Proofs.Tryz Go.RowKit
def Oe8{β : Type}(C:Nat->Prop)(J : β -> World->Prop):Prop :=
 ∀s W W' dP,J s W->W.grownBy W' dP->(∀r,dP=some r->C r)->J s W'
def Ob1(C:Nat->Prop)(A B:World):Prop:=∀r,C r->B.heap[r]?=A.heap[r]?
def O85{β : Type}(C:Nat->Prop)(B:Nat)(I : β -> World->Prop):Prop :=
 ∀s W W' dP,I s W->W.grownBy W' dP->(∀r,dP=some r->C r\/(B<=r/\∃o:Obj,W.heap[r]?=some o/\o.isCells=false))->I s W'
theorem O85.from{β : Type}{C:Nat->Prop}{B:Nat}{I : β -> World->Prop}(h:O85 C B I):OwnFrom B I:=λ s W W' dP hs hg hr=>h s W W' dP hs hg (λ r e => .inr (hr r e))
def Vch{α : Type}(F:Fence)(n:Nat)(P:Program)(g:Nat)(lb:Array Value)(mT : α -> Array Value)(S Sp:List α -> Prop)(N:Nat)(C:Nat->Prop)(w:World):Prop :=
 ∀(l:Nat)(J Jx:List α -> World->Prop)(W:World),Below w.heap.size w W->Oe8 C J->Oe8 C Jx ->
  (∀pre x W1,J pre W1->pre.length<N->YieldAt F (n-1) P l (mT x) W1 λ e W' =>
   (e = .returned (.bool true)/\J (pre++[x]) W'/\Ob1 C W1 W')\/(e = .returned (.bool false)/\Jx (pre++[x]) W')) ->
  J [] W ->
  CallsIn F n P g (#[.func (.yield l) #[] #[]]++lb) W λ e W'=>(∃v,e = .returned v)/\((∃xs,S xs/\J xs W')\/(∃pre,Sp pre/\Jx pre W'))
theorem O9t{α : Type}{F:Fence}{n:Nat}{P:Program}{g:Operand}{ps:Array Tmp}{assign body:Code}{Q:Exit->Act->World->Prop}{a:Act}{w:World}
    {C:Nat->Prop} (hC:∀r,C r->r<w.heap.size)
    (sy:F.round=none)(h1:1<=n){gf:Nat}{lb:Array Value}(hg:a.eval g = .func (.func gf) #[] lb)(FS:F.fn gf)(eg:∀args w,(callFunc gf args).run P w = .ok (.enter gf args) w)
    {mT : α -> Array Value} {S Sp:List α -> Prop} {N:Nat} (FT:Vch F (n-1) P gf lb mT S Sp N C w) (NO:∀x,(mT x).size=ps.size)
    (I:List α -> World->Prop)(Ix:Code->List α -> World->Prop)(hI:O85 C w.heap.size I)(xb:∀c,O85 C w.heap.size (Ix c))(h0:I [] w)(a₁ : α -> Act)
    (sG:∀(l:Nat)(x : α)(W:World)(K:Act->World->Prop),K (a₁ x) W ->
     assign.wpIn (F.inRound l) (n-1-1) P (Exit.then K (λ _ _ _=>False)) { tmps:=(ps.zip (mT x)).foldl (λ t (p,v)=>t.setIfInBounds p v) a.tmps,defers:=[] } W)
    (pp:∀(l:Nat)(pre:List α)(x : α)(W:World),I pre W->pre.length<N->body.wpIn (F.inRound l) (n-1-1) P (ownPostK (Ob1 C) I Ix (pre++[x]) W) (a₁ x) W)
    (Ba:∀(D:Nat)(xs:List α)(W:World),w.heap.size<=D->S xs->I xs W->W.heap[D]?=some (.deferred (some []))->Q .normal { a with defers:={ target := .collected D,args:=#[] }::a.defers } W)
    (fg:∀(D:Nat)(c:Code)(pre:List α)(W:World),w.heap.size<=D->Sp pre->Ix c pre W->W.heap[D]?=some (.deferred (some []))->c.wpIn F n P Q { a with defers:={ target := .collected D,args:=#[] }::a.defers } W) :
    (Code.rangeFunc g ps assign body).wpIn F n P Q a w:=by
 have oI:=hI.from
 have oX:=λ c=>(xb c).from
 refine wpIn_rangeFunc λ fn FU=>?_
 rw[sy];obtain⟨kx,iZ⟩:∃kx:LoopState->Option Code->Loop,kx=λ st pe=>{ state:=st,pending:=pe,fn,tmps:=a.tmps,params:=ps,assign,body,defers:=w.heap.size }:=⟨_,rfl⟩
 obtain⟨W1,aQ⟩:=ExZ ((w.alloc (.deferred (some []))).alloc (.loop (kx .ready none)))
 have AV:W1.heap[w.heap.size+1]?=some (.loop (kx .ready none)):=by
  have e:=World.alloc_heap_new (w.alloc (.deferred (some []))) (.loop (kx .ready none));rw[Uv,aQ]at e;exact e
 have Bb:W1.heap[w.heap.size]?=some (.deferred (some [])):=by
  rw[<-aQ];exact (Below.heap_alloc _ _ _ (by simp)).trans (World.alloc_heap_new w _)
 have Bc:I [] W1:=by rw[<-aQ];exact oI.alloc _ (oI.alloc _ h0)
 have bA:Below w.heap.size w W1:=by
  rw[<-aQ];exact ((Below.refl _ w).alloc (U2 _) _).alloc (by simp) _
 have iH:∀{A B:World}{dP:Option Nat}{k:Nat}{o:Obj},A.grownBy B dP->(∀r,dP=some r->C r)->w.heap.size<=k->A.heap[k]?=some o->B.heap[k]?=some o :=
  λ mV hr hk ho=>(mV.block _ (U8.1 ho).1 (λ e=>by have:=hC _ (hr _ e.symm);omega)).trans ho
 have Bd:∀(W:World)(l:Nat)(o':Obj),w.heap.size<=l->Ob1 C W (W.putObj l o') :=
  λ W l o' hl r hr=>World.putObj_heap_other (by have:=hC r hr;omega)
 refine⟨w.heap.size+1,[{ target := .collected w.heap.size,args:=#[] }],W1,{ target := .fn (.func gf) lb,args:=#[.func (.yield (w.heap.size+1)) #[] #[]] },W1,gf,
  #[.func (.yield (w.heap.size+1)) #[] #[]]++lb,W1,?_,?_,?_,?_,λ _=>h1,?_⟩
 rw[<-aQ,iZ];exact run_enterLoop_outer _ _ _ _ _
 ·simp only[resolve,hg];simp[go_sem]
 intro f' L0;simp[Target.leads]at L0;subst L0;exact FS
 ·simp[invoke,go_sem,eg]
 refine (FT (w.heap.size+1)
  (λ pre W=>I pre W/\W.heap[w.heap.size+1]?=some (.loop (kx .ready none))/\W.heap[w.heap.size]?=some (.deferred (some [])))
  (λ pre W=>∃c,Ix c pre W/\W.heap[w.heap.size+1]?=some (.loop (kx .done (some c)))/\W.heap[w.heap.size]?=some (.deferred (some [])))
  W1 bA
  (λ s A B dP hs mV hr=>⟨hI s A B dP hs.1 mV (λ r e => .inl (hr r e)),iH mV hr (by omega) hs.2.1,iH mV hr (U2 _) hs.2.2⟩)
  (λ s A B dP hs mV hr=>by
   obtain⟨c,hc,hl,hk⟩:=hs;exact⟨c,xb c s A B dP hc mV (λ r e => .inl (hr r e)),iH mV hr (by omega) hl,iH mV hr (U2 _) hk⟩)
  ?_ ⟨Bc,AV,Bb⟩).mono ?_
 ·-- a round
  rintro pre x W ⟨hi,hl,hk⟩ ao;have aa:w.heap.size+1<W.heap.size:=(U8.1 hl).1;have hy:=run_yield (P:=P) (args:=mT x) hl (by rw[iZ];exact NO x);rw[iZ]at hy;refine⟨fn,_,assign,body,hy,roundIn_of_wpIn FU (sG _ x W _ ⟨_,run_beginRound hl (by rw[iZ]),?_⟩)⟩;obtain⟨W2,dU⟩:=ExZ (W.putObj (w.heap.size+1) (.loop { kx .ready none with state := .busy }))
  have eA:W2.heap[w.heap.size+1]?=some (.loop { kx .ready none with state := .busy }):=by rw[<-dU];exact World.putObj_heap_same aa
  have cb:W2.heap[w.heap.size]?=some (.deferred (some [])):=by rw[<-dU];exact (World.putObj_heap_other (by omega)).trans hk
  have ei:I pre W2:=by rw[<-dU];exact oI.putObj _ hi (by omega) hl rfl
  have fh:Ob1 C W W2:=by rw[<-dU];exact Bd _ _ _ (by omega)
  show body.wpIn _ _ _ _ _ (W.putObj (w.heap.size+1) (.loop { kx .ready none with state := .busy }));rw[dU];refine wpIn_mono (pp _ pre x _ ei ao) ?_;have fin:∀(fF:Option Code)(W3:World),KeepsOthers W2 W3 ->
      W3.heap[w.heap.size+1]?=some (.loop { kx .ready none with state := .busy }) /\
      (Instr.endRound (w.heap.size+1) fF).run P W3 = .ok (.bool fF.isNone) (W3.putObj (w.heap.size+1) (.loop (kx (if fF.isNone then .ready else .done) fF))) /\
      (W3.putObj (w.heap.size+1) (.loop (kx (if fF.isNone then .ready else .done) fF))).heap[w.heap.size+1]?=some (.loop (kx (if fF.isNone then .ready else .done) fF)) /\
      (W3.putObj (w.heap.size+1) (.loop (kx (if fF.isNone then .ready else .done) fF))).heap[w.heap.size]?=some (.deferred (some [])):=λ fF W3 fw=>by
   have jK:=fw.same _ _ eA rfl;have e:=run_endRound (P:=P) fF jK;rw[iZ]at e jK⊢;exact⟨jK,e,World.putObj_heap_same (U8.1 jK).1,(World.putObj_heap_other (by omega)).trans (fw.same _ _ cb rfl)⟩
  have pq:∀(c:Code)(W3:World),KeepsOthers W2 W3->Ix c (pre++[x]) W3->∃b W4,(Instr.endRound (w.heap.size+1) (some c)).run P W3 = .ok b W4/\b = .bool false/\Ix c (pre++[x]) W4/\W4.heap[w.heap.size+1]?=some (.loop (kx .done (some c)))/\W4.heap[w.heap.size]?=some (.deferred (some [])):=λ c W3 fw hx=>by
   obtain⟨jK,hr,FW,mS⟩:=fin (some c) W3 fw;exact⟨_,_,hr,rfl,(oX c).putObj _ hx (by omega) jK rfl,FW,mS⟩
  rintro e a3 W3 hp;cases e with
  |normal =>
   obtain⟨fw,FY,NP⟩:=hp;obtain⟨jK,hr,FW,mS⟩:=fin none W3 fw;exact⟨_,_,hr,.inl ⟨rfl,⟨oI.putObj _ NP (by omega) jK rfl,FW,mS⟩,λ r FZ=>((Bd _ _ _ (by omega)) r FZ).trans ((FY r FZ).trans (fh r FZ))⟩⟩
  |ret =>
   obtain⟨b,W4,hr,rfl,h4⟩:=pq .ret W3 hp.1 hp.2;exact⟨_,_,hr,.inr ⟨rfl,.ret,h4⟩⟩
  |exit id =>
   obtain⟨b,W4,hr,rfl,h4⟩:=pq (.exit id) W3 hp.1 hp.2;exact⟨_,_,hr,.inr ⟨rfl,.exit id,h4⟩⟩
  |goto t =>
   obtain⟨b,W4,hr,rfl,h4⟩:=pq (.goto t) W3 hp.1 hp.2;exact⟨_,_,hr,.inr ⟨rfl,.goto t,h4⟩⟩
  |panic ch=>exact hp.elim
  |outgrown=>exact hp.elim
 -- behind the iterator
 rintro e W2 ⟨⟨v,rfl⟩,(⟨xs,hS,hi,hl,hk⟩|⟨pre,NQ,c,hi,hl,hk⟩)⟩;exact⟨none,_,by have:=run_endLoop (P:=P) hl (by rw[iZ];simp);rw[iZ]at this;exact this,Ba _ xs _ (U2 _) hS (oI.putObj _ hi (by omega) hl rfl) ((World.putObj_heap_other (by omega)).trans hk)⟩
 exact⟨some c,_,by have:=run_endLoop (P:=P) hl (by rw[iZ];simp);rw[iZ]at this;exact this,fg _ c pre _ (U2 _) NQ ((oX c).putObj _ hi (by omega) hl rfl) ((World.putObj_heap_other (by omega)).trans hk)⟩
