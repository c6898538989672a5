/- The proof's part 05. -/
import Derived.Test.YtnkgknbdaiakgaaGreatDoorQ06
import Derived.RangeFuncNested
import Derived.RangeFuncBound
set_option maxHeartbeats 16000000
set_option linter.all false
namespace Go.Proofs.YtnkgknbdaiakgaaGreatDoor.Reg
open Go.Proofs.Tryz Go
section
variable {P:Program}{aw:Array Oper}{Q:Exit->Act->World->Prop}{md:Region.Mode}{S:World->Prop}{W:Nat->Bool}
def anyW(P:Program)(md:Region.Mode)(aw:Array Oper)(Q:Exit->Act->World->Prop)(W:Nat->Bool)(S:World->Prop):Nat->Array Bool->Act->World->Prop
 |0,l,a,w=>Region.ready md aw l=[]/\Q .normal a w
 | n+1,l,a,w=>(Region.ready md aw l=[]->Q .normal a w) /\
  ∀i∈Region.ready md aw l,wpOp P aw Q i (λ a' w'=>(W i=true->S w->S w')/\anyW P md aw Q W S n (l.setIfInBounds i true) a' w') a w
theorem Oay:∀(n:Nat)(l:Array Bool)(a:Act)(w:World),anyW P md aw Q W S n l a w->wpAny P md aw Q n l a w
 |0,_,_,_,h=>h
 |n+1,_,_,_,h=>⟨h.1,λ i hi=>wpOp_mono (λ a' w' h'=>Oay n _ a' w' h'.2) (h.2 i hi)⟩
def O49(md:Region.Mode)(aw:Array Oper)(l:Array Bool):Prop :=
 ∀j o,aw[j]?=some o->l.getD j false=true->∀e∈o.after,Region.binds md e=true->l.getD e.on false=true
def O66(md:Region.Mode)(aw:Array Oper)(l:Array Bool):Bool :=
 (List.range aw.size).all λ j=>match aw[j]? with
  |none=>true
  |some o => !l.getD j false || o.after.all λ e => !Region.binds md e || l.getD e.on false
theorem Og7{l:Array Bool}(h:O66 md aw l=true):O49 md aw l:=by
 intro j o ho hl e he hb;unfold O66 at h;rw[U2k]at h;have h1:=h j (List.mem_range.2 (U18.1 ho).1);simp only[ho,hl,Bool.not_true,U4p]at h1;have h2:=(Array.all_eq_true_iff_forall_mem.1 h1) e he
 simpa [hb]using h2
theorem O49.more{l:Array Bool}(h:O49 md aw l){j:Nat}(hj:j∈Region.ready md aw l):O49 md aw (l.setIfInBounds j true):=by
 intro k o ho hl e he hb;by_cases Mj:j=k;subst Mj;obtain⟨_,o',Mk,aT⟩:=mem_ready.1 hj;rw[ho]at Mk;cases Mk;exact getD_set_true (aT e he hb)
 rw[getD_set_ne false Mj]at hl;exact getD_set_true (h k o ho hl e he hb)
def O4a(md:Region.Mode)(aw:Array Oper)(i:Nat):Nat->Nat->Bool
 |0,_=>false
 | n+1,j=>match aw[j]? with
  |none=>false
  |some o=>o.after.any λ e=>Region.binds md e&&(e.on==i || O4a md aw i n e.on)
theorem Oep{i:Nat}:∀(n j:Nat)(l:Array Bool) o,O49 md aw l->aw[j]?=some o->(∀e∈o.after,Region.binds md e=true->l.getD e.on false=true)->O4a md aw i n j=true->l.getD i false=true:=by
 intro n
 induction n with
 |zero=>intro j l o _ _ _ h;cases h
 |succ n ih =>
  intro j l o hc ho aT h;unfold O4a at h;rw[ho]at h;simp only[Array.any_eq_true']at h;obtain⟨e,he,hb⟩:=h;simp only[U1h,Bool.or_eq_true,U2z]at hb;have h1:=aT e he hb.1;rcases hb.2 with h2|h2
  rw[h2]at h1;exact h1
  have hn:O4a md aw i n e.on=true:=h2;cases n with
  |zero=>cases hn
  |succ n =>
   cases kz:aw[e.on]? with
   |none=>unfold O4a at hn;rw[kz]at hn;cases hn
   |some o2=>exact ih e.on l o2 hc kz (hc e.on o2 kz h1) hn
def Oap(md:Region.Mode)(aw:Array Oper)(W:Nat->Bool)(i:Nat):Bool:=(List.range aw.size).all λ j=>W j || O4a md aw i 12 j
theorem first{i:Nat}{oi:Oper}{v:Value}(hi:aw[i]?=some oi)(qi:∀(j:Nat)(o:Oper) cs b,aw[j]?=some o->o.op≠.select cs b)(hQ:∀c a w,Q (.panic c) (a.put oi.dst v) w->Q (.panic c) a w)(qj:Oap md aw W i=true):∀(n:Nat)(l:Array Bool)(a:Act)(w:World),O49 md aw l ->(∀j oj,aw[j]?=some oj->j≠i->l.getD j true=false->(∀e∈oj.after,Region.binds md e=true->e.on≠i)->oi.apart aw oj=true) ->i∈Region.ready md aw l->YieldsIf P aw S oi v a->S w ->anyW P md aw Q W S n (l.setIfInBounds i true) (a.put oi.dst v) w->anyW P md aw Q W S (n+1) l a w:=by
 intro n
 induction n with
 |zero =>
  intro l a w _ _ hr hy hS H;refine⟨λ h=>(by rw[h]at hr;cases hr),λ j hj=>?_⟩;by_cases dY:j=i;subst dY;exact hy.wpOp hi hS ⟨λ _ h=>h,H⟩
  have:=ready_mono hj dY;rw[H.1]at this;cases this
 |succ n ih =>
  intro l a w cA bD hr hy hS H;refine⟨λ h=>(by rw[h]at hr;cases hr),λ j hj=>?_⟩;by_cases dY:j=i;subst dY;exact hy.wpOp hi hS ⟨λ _ h=>h,H⟩
  refine Z235 ?_;intro h1 lA oj pS aT nD;have yo:∀e∈oj.after,Region.binds md e=true->e.on≠i:=λ e he hb tR=>by
   have h2:=aT e he hb;rw[tR,nD]at h2;cases h2
  have PX:W j=true:=by
   cases hw:W j with
   |true=>rfl
   |false =>
    unfold Oap at qj;rw[U2k]at qj;have h2:=qj j (List.mem_range.2 (U18.1 pS).1);rw[hw,U4p]at h2;have h3:=Oep 12 j l oj cA pS aT h2;rw[nD]at h3;cases h3
  have h2:=wpOp_putIf pS (bD j oj pS dY lA yo) (λ cs b=>qi i oi cs b hi) (λ cs b=>qi j oj cs b pS) hQ hy h1;have lG:∀k ok,aw[k]?=some ok->k≠i->(l.setIfInBounds j true).getD k true=false->(∀e∈ok.after,Region.binds md e=true->e.on≠i)->oi.apart aw ok=true:=λ k ok hk Hx C2 oF=>by
   refine bD k ok hk Hx ?_ oF;by_cases sG:j=k;subst sG;exact lA
   rw[getD_set_ne true sG]at C2;exact C2
  refine wpOp_mono (λ a' w' h3=>⟨h3.2.1,ih (l.setIfInBounds j true) a' w' (cA.more hj) lG (ready_mono hr (U3l dY)) h3.1 (h3.2.1 PX hS) ?_⟩) h2;rw[Array.setIfInBounds_comm _ _ dY];exact h3.2.2
theorem Og8{i:Nat}{oi:Oper}{v:Value}(hi:aw[i]?=some oi)(qi:∀(j:Nat)(o:Oper) cs b,aw[j]?=some o->o.op≠.select cs b)(hQ:∀c a w,Q (.panic c) (a.put oi.dst v) w->Q (.panic c) a w):∀(n:Nat)(l:Array Bool)(a:Act)(w:World),(∀j oj,aw[j]?=some oj->j≠i->l.getD j true=false->(∀e∈oj.after,Region.binds md e=true->e.on≠i)->oi.apart aw oj=true) ->i∈Region.ready md aw l->YieldsIf P aw (λ _=>True) oi v a ->anyW P md aw Q W S n (l.setIfInBounds i true) (a.put oi.dst v) w->anyW P md aw Q W S (n+1) l a w:=by
 intro n
 induction n with
 |zero =>
  intro l a w _ hr hy H;refine⟨λ h=>(by rw[h]at hr;cases hr),λ j hj=>?_⟩;by_cases dY:j=i;subst dY;exact hy.wpOp hi U3f ⟨λ _ h=>h,H⟩
  have:=ready_mono hj dY;rw[H.1]at this;cases this
 |succ n ih =>
  intro l a w bD hr hy H;refine⟨λ h=>(by rw[h]at hr;cases hr),λ j hj=>?_⟩;by_cases dY:j=i;subst dY;exact hy.wpOp hi U3f ⟨λ _ h=>h,H⟩
  refine Z235 ?_;intro h1 lA oj pS aT nD;have yo:∀e∈oj.after,Region.binds md e=true->e.on≠i:=λ e he hb tR=>by
   have h2:=aT e he hb;rw[tR,nD]at h2;cases h2
  have h2:=wpOp_putIf pS (bD j oj pS dY lA yo) (λ cs b=>qi i oi cs b hi) (λ cs b=>qi j oj cs b pS) hQ hy h1;have lG:∀k ok,aw[k]?=some ok->k≠i->(l.setIfInBounds j true).getD k true=false->(∀e∈ok.after,Region.binds md e=true->e.on≠i)->oi.apart aw ok=true:=λ k ok hk Hx C2 oF=>by
   refine bD k ok hk Hx ?_ oF;by_cases sG:j=k;subst sG;exact lA
   rw[getD_set_ne true sG]at C2;exact C2
  refine wpOp_mono (λ a' w' h3=>⟨h3.2.1,ih (l.setIfInBounds j true) a' w' lG (ready_mono hr (U3l dY)) h3.1 ?_⟩) h2;rw[Array.setIfInBounds_comm _ _ dY];exact h3.2.2
theorem takeY{i:Nat}{oi:Oper}{v:Value}{n:Nat}{l:Array Bool}{a:Act}{w:World}(hi:aw[i]?=some oi)(hs:Region.noSelect aw=true)(hf:Region.free md aw l i=true)(hr:(Region.ready md aw l).contains i=true)(hQ:∀c a w,Q (.panic c) (a.put oi.dst v) w->Q (.panic c) a w)(dL:Region.wanted oi (yielded aw a.tmps)=true)(hy:∀w,(execOp a.eval oi).run P w=.ok (.value v) w)(h:anyW P md aw Q W S n (l.setIfInBounds i true) (a.put oi.dst v) w):anyW P md aw Q W S (n+1) l a w :=
 Og8 hi (Region.noSelect_spec hs) hQ n l a w (Region.free_spec hi hf) (by simpa using hr) (.inl ⟨dL,λ w _=>hy w⟩) h
theorem take{i:Nat}{oi:Oper}{v:Value}{n:Nat}{l:Array Bool}{a:Act}{w:World}(hi:aw[i]?=some oi)(hs:Region.noSelect aw=true)(hl:Oap md aw W i=true)(hc:O66 md aw l=true)(hf:Region.free md aw l i=true)(hr:(Region.ready md aw l).contains i=true)(hQ:∀c a w,Q (.panic c) (a.put oi.dst v) w->Q (.panic c) a w)(hS:S w)(dL:Region.wanted oi (yielded aw a.tmps)=true)(hy:∀w,S w->(execOp a.eval oi).run P w=.ok (.value v) w)(h:anyW P md aw Q W S n (l.setIfInBounds i true) (a.put oi.dst v) w):anyW P md aw Q W S (n+1) l a w :=
 first hi (Region.noSelect_spec hs) hQ hl n l a w (Og7 hc) (Region.free_spec hi hf) (by simpa using hr) (.inl ⟨dL,hy⟩) hS h
theorem skip{i:Nat}{oi:Oper}{n:Nat}{l:Array Bool}{a:Act}{w:World}(hi:aw[i]?=some oi)(hs:Region.noSelect aw=true)(hf:Region.free md aw l i=true)(hr:(Region.ready md aw l).contains i=true)(hQ:∀c a w,Q (.panic c) (a.put oi.dst undef) w->Q (.panic c) a w)(dL:Region.wanted oi (yielded aw a.tmps)=false)(h:anyW P md aw Q W S n (l.setIfInBounds i true) (a.put oi.dst undef) w):anyW P md aw Q W S (n+1) l a w :=
 Og8 hi (Region.noSelect_spec hs) hQ n l a w (Region.free_spec hi hf) (by simpa using hr) (.inr ⟨dL,rfl⟩) h
theorem all{rs:List Nat}{n:Nat}{l:Array Bool}{a:Act}{w:World}(hr:Region.ready md aw l=rs)(a8:rs≠[])(h:∀i∈rs,wpOp P aw Q i (λ a' w'=>(W i=true->S w->S w')/\anyW P md aw Q W S n (l.setIfInBounds i true) a' w') a w):anyW P md aw Q W S (n+1) l a w :=
 ⟨λ h0=>absurd (hr ▸ h0) a8,hr ▸ h⟩
theorem one{i:Nat}{o:Oper}{K:Act->World->Prop}{a:Act}{w:World}(ho:aw[i]?=some o)(hw:Region.wanted o (yielded aw a.tmps)=true)(h:Oper.wp P o a w K Q):wpOp P aw Q i K a w:=by
 unfold wpOp;simp only[ho,hw,U2o];exact .inl h
theorem done{l:Array Bool}{a:Act}{w:World}(hr:Region.ready md aw l=[])(h:Q .normal a w):∀n,anyW P md aw Q W S n l a w
 |0=>⟨hr,h⟩
 |_+1=>⟨λ _=>h,by rw[hr];simp⟩
theorem begin'{id:Nat}{a:Act}{w:World}(hm:P.follows .mixedOrders=true)(h:anyW P .any aw Q W S aw.size (Array.replicate aw.size false) a w.drew):(Code.region id aw true).wp P Q a w :=
 wp_region_any hm (Oay _ _ _ _ h)
end
end Go.Proofs.YtnkgknbdaiakgaaGreatDoor.Reg
namespace Go.Proofs.YtnkgknbdaiakgaaGreatDoor.Reg
open Go.Proofs.Tryz Go Go.RowKit
section
variable {P:Program}{aw:Array Oper}{Q:Exit->Act->World->Prop}{md:Region.Mode}{S:World->Prop}{W:Nat->Bool}
theorem ty(i:Nat){oi:Oper}{v:Value}{n:Nat}{l:Array Bool}{a b:Act}{w:World}(h:anyW P md aw Q W S n (l.setIfInBounds i true) b w)(hi:aw[i]?=some oi:=by rfl)(hs:Region.noSelect aw=true:=by kernel_rfl)(hf:Region.free md aw l i=true:=by kernel_rfl)(hr:(Region.ready md aw l).contains i=true:=by kernel_rfl)
    (hQ:∀c a w,Q (.panic c) (a.put oi.dst v) w->Q (.panic c) a w:=by exact λ _ _ _ h=>h)(dL:Region.wanted oi (yielded aw a.tmps)=true:=by rfl)
    (hy:∀w,(execOp a.eval oi).run P w=.ok (.value v) w:=by (intro w;go_simp;try with_reducible rfl))(hb:a.put oi.dst v=b:=by ((try simp only[Act.put,U4g,U3v,U45,U37,U34,U38]);try rfl)):anyW P md aw Q W S (n+1) l a w:=by
 subst hb;exact takeY hi hs hf hr hQ dL hy h
theorem tl(i:Nat){oi:Oper}{v:Value}{n:Nat}{l:Array Bool}{a b:Act}{w:World}(hS:S w)(h:anyW P md aw Q W S n (l.setIfInBounds i true) b w)(hi:aw[i]?=some oi:=by rfl)(hs:Region.noSelect aw=true:=by kernel_rfl)(hl:Oap md aw W i=true:=by kernel_rfl)(hc:O66 md aw l=true:=by kernel_rfl)(hf:Region.free md aw l i=true:=by kernel_rfl)(hr:(Region.ready md aw l).contains i=true:=by kernel_rfl)
    (hQ:∀c a w,Q (.panic c) (a.put oi.dst v) w->Q (.panic c) a w:=by exact λ _ _ _ h=>h)(dL:Region.wanted oi (yielded aw a.tmps)=true:=by rfl)
    (hy:∀w,S w->(execOp a.eval oi).run P w=.ok (.value v) w)(hb:a.put oi.dst v=b:=by ((try simp only[Act.put,U4g,U3v,U45,U37,U34,U38]);try rfl)):anyW P md aw Q W S (n+1) l a w:=by
 subst hb;exact take hi hs hl hc hf hr hQ hS dL hy h
theorem sk(i:Nat){oi:Oper}{n:Nat}{l:Array Bool}{a b:Act}{w:World}(h:anyW P md aw Q W S n (l.setIfInBounds i true) b w)(hi:aw[i]?=some oi:=by rfl)(hs:Region.noSelect aw=true:=by kernel_rfl)(hf:Region.free md aw l i=true:=by kernel_rfl)(hr:(Region.ready md aw l).contains i=true:=by kernel_rfl)
    (hQ:∀c a w,Q (.panic c) (a.put oi.dst undef) w->Q (.panic c) a w:=by exact λ _ _ _ h=>h)(dL:Region.wanted oi (yielded aw a.tmps)=false:=by rfl)
    (hb:a.put oi.dst undef=b:=by ((try simp only[Act.put,U4g,U3v,U45,U37,U34,U38]);try rfl)):anyW P md aw Q W S (n+1) l a w:=by
 subst hb;exact skip hi hs hf hr hQ dL h
end
section
variable {P:Program}{aw:Array Oper}{Q:Exit->Act->World->Prop}{md:Region.Mode}{S:World->Prop}{W:Nat->Bool}
theorem on(i:Nat){oi:Oper}{n:Nat}{l:Array Bool}{a:Act}{w:World}(h:Oper.wp P oi a w (λ a' w'=>(W i=true->S w->S w')/\anyW P md aw Q W S n (l.setIfInBounds i true) a' w') Q)(hi:aw[i]?=some oi:=by rfl)(hr:Region.ready md aw l=[i]:=by kernel_rfl)(hw:Region.wanted oi (yielded aw a.tmps)=true:=by rfl):anyW P md aw Q W S (n+1) l a w :=
 all hr Yb λ j hj=>by obtain rfl:=U20.1 hj;exact one hi hw h
theorem pt{n:Nat}{l:Array Bool}{a b:Act}{w:World}(h:anyW P md aw Q W S n l b w)(hb:a=b:=by ((try simp only[Act.put,U37,U34,U38]);rfl)):anyW P md aw Q W S n l a w:=by
 subst hb;exact h
end
end Go.Proofs.YtnkgknbdaiakgaaGreatDoor.Reg
namespace Go.Proofs.YtnkgknbdaiakgaaGreatDoor
open Pl Go.Proofs.Tryz Go.RowKit
def Odt{β : Type}(C:Nat->Prop)(J : β -> World->Prop):Prop :=
 ∀s W W' row,J s W->W.grownBy W' row->(∀r,row=some r->C r)->J s W'
def Oao(C:Nat->Prop)(A B:World):Prop:=∀r,C r->B.heap[r]?=A.heap[r]?
def O7q{β : Type}(C:Nat->Prop)(B:Nat)(I : β -> World->Prop):Prop :=
 ∀s W W' row,I s W->W.grownBy W' row->(∀r,row=some r->C r\/(B<=r/\∃o:Obj,W.heap[r]?=some o/\o.isCells=false))->I s W'
theorem O7q.from{β : Type}{C:Nat->Prop}{B:Nat}{I : β -> World->Prop}(h:O7q C B I):OwnFrom B I:=λ s W W' row hs hg hr=>h s W W' row hs hg (λ r e => .inr (hr r e))
def Vcn{α : Type}(F:Fence)(n:Nat)(P:Program)(g:Nat)(lb:Array Value)(nP : α -> Array Value)(S Sp:List α -> Prop)(N:Nat)(C:Nat->Prop)(w:World):Prop :=
 ∀(l:Nat)(J Jx:List α -> World->Prop)(W:World),Below w w W->Odt C J->Odt C Jx ->
  (∀pre x W1,J pre W1->pre.length<N->YieldAt F (n-1) P l (nP x) W1 λ e W' =>
   (e=.returned (.bool true)/\J (pre++[x]) W'/\Oao C W1 W')\/(e=.returned (.bool false)/\Jx (pre++[x]) W')) ->
  J [] W ->
  CallsIn F n P g (#[.func (.yield l) #[] #[]]++lb) W λ e W'=>(∃v,e=.returned v)/\((∃xs,S xs/\J xs W')\/(∃pre,Sp pre/\Jx pre W'))
theorem O9f{α : Type}{F:Fence}{n:Nat}{P:Program}{g:Operand}{ps:Array Tmp}{assign body:Code}{Q:Exit->Act->World->Prop}{a:Act}{w:World}{C:Nat->Prop} (hC:∀r,C r->r<w.heap.size)(tK:F.round=none)(h1:1<=n){gf:Nat}{lb:Array Value}(hg:a.eval g=.func (.func gf) #[] lb)(Hy:F.fn gf)(eg:∀args w,(callFunc gf args).run P w=.ok (.enter gf args) w){nP : α -> Array Value} {S Sp:List α -> Prop} {N:Nat} (Hz:Vcn F (n-1) P gf lb nP S Sp N C w) (PY:∀x,(nP x).size=ps.size)(I:List α -> World->Prop)(Ix:Code->List α -> World->Prop)(hI:O7q C w.heap.size I)(yp:∀c,O7q C w.heap.size (Ix c))(h0:I [] w)(a₁ : α -> Act)(tS:∀(l:Nat)(x : α)(W:World)(K:Act->World->Prop),K (a₁ x) W ->assign.wpIn (F.inRound l) (n-1-1) P (Exit.then K (λ _ _ _=>False)) { tmps:=(ps.zip (nP x)).foldl (λ t (p,v)=>t.setIfInBounds p v) a.tmps,defers:=[] } W)(C3:∀(l:Nat)(pre:List α)(x : α)(W:World),I pre W->pre.length<N->body.wpIn (F.inRound l) (n-1-1) P (ownPostK (Oao C) I Ix (pre++[x]) W) (a₁ x) W)(C4:∀(D:Nat)(xs:List α)(W:World),w.heap.size<=D->S xs->I xs W->W.heap[D]?=some (.deferred (some []))->Q .normal { a with defers:={ target := .collected D,args:=#[] }::a.defers } W)(fp:∀(D:Nat)(c:Code)(pre:List α)(W:World),w.heap.size<=D->Sp pre->Ix c pre W->W.heap[D]?=some (.deferred (some []))->c.wpIn F n P Q { a with defers:={ target := .collected D,args:=#[] }::a.defers } W):(Code.rangeFunc g ps assign body).wpIn F n P Q a w:=by
 have oI:=hI.from
 have oX:=λ c=>(yp c).from
 refine wpIn_rangeFunc λ fn HJ=>?_
 rw[tK];obtain⟨kY,ju⟩:∃kY:LoopState->Option Code->Loop,kY=λ st pe=>{ state:=st,pending:=pe,fn,tmps:=a.tmps,params:=ps,assign,body,defers:=w.heap.size }:=⟨_,rfl⟩
 obtain⟨W1,aR⟩:=ExZ ((w.alloc (.deferred (some []))).alloc (.loop (kY .ready none)))
 have BO:W1.heap[w.heap.size+1]?=some (.loop (kY .ready none)):=by
  have e:=World.alloc_heap_new (w.alloc (.deferred (some []))) (.loop (kY .ready none));rw[U1s,aR]at e;exact e
 have sH:W1.heap[w.heap.size]?=some (.deferred (some [])):=by
  rw[<-aR];exact (Below.heap_alloc _ _ _ Yb).trans (World.alloc_heap_new w _)
 have C5:I [] W1:=by rw[<-aR];exact oI.alloc _ (oI.alloc _ h0)
 have bJ:Below w w W1:=by
  rw[<-aR];exact ((Below.refl _ w).alloc (U12 _) _).alloc Yb _
 have j0:∀{A B:World}{row:Option Nat}{k:Nat}{o:Obj},A.grownBy B row->(∀r,row=some r->C r)->w.heap.size<=k->A.heap[k]?=some o->B.heap[k]?=some o :=
  λ kA hr hk ho=>(kA.block _ (U18.1 ho).1 (λ e=>by have:=hC _ (hr _ e.symm);omega)).trans ho
 have C6:∀(W:World)(l:Nat)(o':Obj),w.heap.size<=l->Oao C W (W.putObj l o') :=
  λ W l o' hl r hr=>World.putObj_heap_other (by have:=hC r hr;omega)
 refine⟨w.heap.size+1,[{ target := .collected w.heap.size,args:=#[] }],W1,{ target := .fn (.func gf) lb,args:=#[.func (.yield (w.heap.size+1)) #[] #[]] },W1,gf,
  #[.func (.yield (w.heap.size+1)) #[] #[]]++lb,W1,?_,?_,?_,?_,λ _=>h1,?_⟩
 rw[<-aR,ju];exact run_enterLoop_outer _ _ _ _ _
 ·simp only[resolve,hg];simp[go_sem]
 intro f' AF;simp[Target.leads]at AF;subst AF;exact Hy
 ·simp[invoke,go_sem,eg]
 refine (Hz (w.heap.size+1)
  (λ pre W=>I pre W/\W.heap[w.heap.size+1]?=some (.loop (kY .ready none))/\W.heap[w.heap.size]?=some (.deferred (some [])))
  (λ pre W=>∃c,Ix c pre W/\W.heap[w.heap.size+1]?=some (.loop (kY .done (some c)))/\W.heap[w.heap.size]?=some (.deferred (some [])))
  W1 bJ
  (λ s A B row hs kA hr=>⟨hI s A B row hs.1 kA (λ r e => .inl (hr r e)),j0 kA hr Ya hs.2.1,j0 kA hr (U12 _) hs.2.2⟩)
  (λ s A B row hs kA hr=>by
   obtain⟨c,hc,hl,hk⟩:=hs;exact⟨c,yp c s A B row hc kA (λ r e => .inl (hr r e)),j0 kA hr Ya hl,j0 kA hr (U12 _) hk⟩)
  ?_ ⟨C5,BO,sH⟩).mono ?_
 ·-- a round
  rintro pre x W ⟨hi,hl,hk⟩ ap;have a9:w.heap.size+1<W.heap.size:=(U18.1 hl).1;have hy:=run_yield (P:=P) (args:=nP x) hl (by rw[ju];exact PY x);rw[ju]at hy;refine⟨fn,_,assign,body,hy,roundIn_of_wpIn HJ (tS _ x W _ ⟨_,run_beginRound hl (by rw[ju]),?_⟩)⟩;obtain⟨W2,dy⟩:=ExZ (W.putObj (w.heap.size+1) (.loop { kY .ready none with state := .busy }))
  have en:W2.heap[w.heap.size+1]?=some (.loop { kY .ready none with state := .busy }):=by rw[<-dy];exact World.putObj_heap_same a9
  have bX:W2.heap[w.heap.size]?=some (.deferred (some [])):=by rw[<-dy];exact (World.putObj_heap_other Ya).trans hk
  have fh:I pre W2:=by rw[<-dy];exact oI.putObj _ hi Ya hl rfl
  have fq:Oao C W W2:=by rw[<-dy];exact C6 _ _ _ Ya
  show body.wpIn _ _ _ _ _ (W.putObj (w.heap.size+1) (.loop { kY .ready none with state := .busy }));rw[dy];refine wpIn_mono (C3 _ pre x _ fh ap) ?_;have fin:∀(fJ:Option Code)(W3:World),KeepsOthers W2 W3 ->
      W3.heap[w.heap.size+1]?=some (.loop { kY .ready none with state := .busy }) /\
      (Instr.endRound (w.heap.size+1) fJ).run P W3=.ok (.bool fJ.isNone) (W3.putObj (w.heap.size+1) (.loop (kY (if fJ.isNone then .ready else .done) fJ))) /\
      (W3.putObj (w.heap.size+1) (.loop (kY (if fJ.isNone then .ready else .done) fJ))).heap[w.heap.size+1]?=some (.loop (kY (if fJ.isNone then .ready else .done) fJ)) /\
      (W3.putObj (w.heap.size+1) (.loop (kY (if fJ.isNone then .ready else .done) fJ))).heap[w.heap.size]?=some (.deferred (some [])):=λ fJ W3 fy=>by
   have km:=fy.same _ _ en rfl;have e:=run_endRound (P:=P) fJ km;rw[ju]at e km⊢;exact⟨km,e,World.putObj_heap_same (U18.1 km).1,(World.putObj_heap_other Ya).trans (fy.same _ _ bX rfl)⟩
  have qm:∀(c:Code)(W3:World),KeepsOthers W2 W3->Ix c (pre++[x]) W3->∃b W4,(Instr.endRound (w.heap.size+1) (some c)).run P W3=.ok b W4/\b=.bool false/\Ix c (pre++[x]) W4/\W4.heap[w.heap.size+1]?=some (.loop (kY .done (some c)))/\W4.heap[w.heap.size]?=some (.deferred (some [])):=λ c W3 fy hx=>by
   obtain⟨km,hr,H',nO⟩:=fin (some c) W3 fy;exact⟨_,_,hr,rfl,(oX c).putObj _ hx Ya km rfl,H',nO⟩
  rintro e a3 W3 hp;cases e with
  |normal =>
   obtain⟨fy,I0,PZ⟩:=hp;obtain⟨km,hr,H',nO⟩:=fin none W3 fy;exact⟨_,_,hr,.inl ⟨rfl,⟨oI.putObj _ PZ Ya km rfl,H',nO⟩,λ r I1=>((C6 _ _ _ Ya) r I1).trans ((I0 r I1).trans (fq r I1))⟩⟩
  |ret =>
   obtain⟨b,W4,hr,rfl,h4⟩:=qm .ret W3 hp.1 hp.2;exact⟨_,_,hr,.inr ⟨rfl,.ret,h4⟩⟩
  |exit id =>
   obtain⟨b,W4,hr,rfl,h4⟩:=qm (.exit id) W3 hp.1 hp.2;exact⟨_,_,hr,.inr ⟨rfl,.exit id,h4⟩⟩
  |goto t =>
   obtain⟨b,W4,hr,rfl,h4⟩:=qm (.goto t) W3 hp.1 hp.2;exact⟨_,_,hr,.inr ⟨rfl,.goto t,h4⟩⟩
  |panic ch=>exact hp.elim
  |outgrown=>exact hp.elim
 -- behind the iterator
 rintro e W2 ⟨⟨v,rfl⟩,(⟨xs,hS,hi,hl,hk⟩|⟨pre,P',c,hi,hl,hk⟩)⟩;exact⟨none,_,by have:=run_endLoop (P:=P) hl (by rw[ju];simp);rw[ju]at this;exact this,C4 _ xs _ (U12 _) hS (oI.putObj _ hi Ya hl rfl) ((World.putObj_heap_other Ya).trans hk)⟩
 exact⟨some c,_,by have:=run_endLoop (P:=P) hl (by rw[ju];simp);rw[ju]at this;exact this,fp _ c pre _ (U12 _) P' ((oX c).putObj _ hi Ya hl rfl) ((World.putObj_heap_other Ya).trans hk)⟩
