/- The proof's part 06. -/
import Derived.Test.YtnkgknbdaiakgaaGreatDoorY08
import Derived.RangeFuncNested
import Derived.RangeFuncBound
set_option maxHeartbeats 16000000
set_option linter.all false
namespace Go.Proofs.YtnkgknbdaiakgaaGreatDoor.Reg
open Go.Proofs.Tryz Go
section
variable {P:Program}{ar:Array Oper}{Q:Exit->Act->World->Prop}{md:Region.Mode}{S:World->Prop}{W:Nat->Bool}
def anyW(P:Program)(md:Region.Mode)(ar:Array Oper)(Q:Exit->Act->World->Prop)(W:Nat->Bool)(S:World->Prop):Nat->Array Bool->Act->World->Prop
 |0,l,a,w=>Region.ready md ar l=[]/\Q .normal a w
 | n+1,l,a,w=>(Region.ready md ar l=[]->Q .normal a w) /\
  ∀i∈Region.ready md ar l,wpOp P ar Q i (λ a' w'=>(W i=true->S w->S w')/\anyW P md ar Q W S n (l.setIfInBounds i true) a' w') a w
theorem Obn:∀(n:Nat)(l:Array Bool)(a:Act)(w:World),anyW P md ar Q W S n l a w->wpAny P md ar Q n l a w
 |0,_,_,_,h=>h
 |n+1,_,_,_,h=>⟨h.1,λ i hi=>wpOp_mono (λ a' w' h'=>Obn n _ a' w' h'.2) (h.2 i hi)⟩
def O4k(md:Region.Mode)(ar:Array Oper)(l:Array Bool):Prop :=
 ∀j o,ar[j]?=some o->l.getD j false=true->∀e∈o.after,Region.binds md e=true->l.getD e.on false=true
def O6o(md:Region.Mode)(ar:Array Oper)(l:Array Bool):Bool :=
 (List.range ar.size).all λ j=>match ar[j]? with
  |none=>true
  |some o => !l.getD j false || o.after.all λ e => !Region.binds md e || l.getD e.on false
theorem closed_of{l:Array Bool}(h:O6o md ar l=true):O4k md ar l:=by
 intro j o ho hl e he hb;unfold O6o at h;rw[U2h]at h;have h1:=h j (List.mem_range.2 (U1a.1 ho).1);simp only[ho,hl,Bool.not_true,U51]at h1;have h2:=(Array.all_eq_true_iff_forall_mem.1 h1) e he
 simpa [hb]using h2
theorem O4k.more{l:Array Bool}(h:O4k md ar l){j:Nat}(hj:j∈Region.ready md ar l):O4k md ar (l.setIfInBounds j true):=by
 intro k o ho hl e he hb;by_cases Bz:j=k;subst Bz;obtain⟨_,o',LO,aH⟩:=mem_ready.1 hj;rw[ho]at LO;cases LO;exact getD_set_true (aH e he hb)
 rw[getD_set_ne false Bz]at hl;exact getD_set_true (h k o ho hl e he hb)
def O4l(md:Region.Mode)(ar:Array Oper)(i:Nat):Nat->Nat->Bool
 |0,_=>false
 | n+1,j=>match ar[j]? with
  |none=>false
  |some o=>o.after.any λ e=>Region.binds md e&&(e.on==i || O4l md ar i n e.on)
theorem Ofs{i:Nat}:∀(n j:Nat)(l:Array Bool) o,O4k md ar l->ar[j]?=some o->(∀e∈o.after,Region.binds md e=true->l.getD e.on false=true)->O4l md ar i n j=true->l.getD i false=true:=by
 intro n
 induction n with
 |zero=>intro j l o _ _ _ h;cases h
 |succ n ih =>
  intro j l o hc ho aH h;unfold O4l at h;rw[ho]at h;simp only[Array.any_eq_true']at h;obtain⟨e,he,hb⟩:=h;simp only[U1g,U4h,U2w]at hb;have h1:=aH e he hb.1;rcases hb.2 with h2|h2
  rw[h2]at h1;exact h1
  have hn:O4l md ar i n e.on=true:=h2;cases n with
  |zero=>cases hn
  |succ n =>
   cases jR:ar[e.on]? with
   |none=>unfold O4l at hn;rw[jR]at hn;cases hn
   |some o2=>exact ih e.on l o2 hc jR (hc e.on o2 jR h1) hn
def Obf(md:Region.Mode)(ar:Array Oper)(W:Nat->Bool)(i:Nat):Bool:=(List.range ar.size).all λ j=>W j || O4l md ar i 12 j
theorem first{i:Nat}{oi:Oper}{v:Value}(hi:ar[i]?=some oi)(pz:∀(j:Nat)(o:Oper) cs b,ar[j]?=some o->o.op≠.select cs b)(hQ:∀c a w,Q (.panic c) (a.put oi.dst v) w->Q (.panic c) a w)(pA:Obf md ar W i=true):∀(n:Nat)(l:Array Bool)(a:Act)(w:World),O4k md ar l ->(∀j oj,ar[j]?=some oj->j≠i->l.getD j true=false->(∀e∈oj.after,Region.binds md e=true->e.on≠i)->oi.apart ar oj=true) ->i∈Region.ready md ar l->YieldsIf P ar S oi v a->S w ->anyW P md ar Q W S n (l.setIfInBounds i true) (a.put oi.dst v) w->anyW P md ar Q W S (n+1) l a w:=by
 intro n
 induction n with
 |zero =>
  intro l a w _ _ hr hy hS H;refine⟨λ h=>(by rw[h]at hr;cases hr),λ j hj=>?_⟩;by_cases dv:j=i;subst dv;exact hy.wpOp hi hS ⟨λ _ h=>h,H⟩
  have:=ready_mono hj dv;rw[H.1]at this;cases this
 |succ n ih =>
  intro l a w bN bm hr hy hS H;refine⟨λ h=>(by rw[h]at hr;cases hr),λ j hj=>?_⟩;by_cases dv:j=i;subst dv;exact hy.wpOp hi hS ⟨λ _ h=>h,H⟩
  refine Z235 ?_;intro h1 l9 oj oZ aH mO;have xI:∀e∈oj.after,Region.binds md e=true->e.on≠i:=λ e he hb lm=>by
   have h2:=aH e he hb;rw[lm,mO]at h2;cases h2
  have Pz:W j=true:=by
   cases hw:W j with
   |true=>rfl
   |false =>
    unfold Obf at pA;rw[U2h]at pA;have h2:=pA j (List.mem_range.2 (U1a.1 oZ).1);rw[hw,U51]at h2;have h3:=Ofs 12 j l oj bN oZ aH h2;rw[mO]at h3;cases h3
  have h2:=wpOp_putIf oZ (bm j oj oZ dv l9 xI) (λ cs b=>pz i oi cs b hi) (λ cs b=>pz j oj cs b oZ) hQ hy h1;have ln:∀k ok,ar[k]?=some ok->k≠i->(l.setIfInBounds j true).getD k true=false->(∀e∈ok.after,Region.binds md e=true->e.on≠i)->oi.apart ar ok=true:=λ k ok hk GT BA mz=>by
   refine bm k ok hk GT ?_ mz;by_cases rQ:j=k;subst rQ;exact l9
   rw[getD_set_ne true rQ]at BA;exact BA
  refine wpOp_mono (λ a' w' h3=>⟨h3.2.1,ih (l.setIfInBounds j true) a' w' (bN.more hj) ln (ready_mono hr (U3p dv)) h3.1 (h3.2.1 Pz hS) ?_⟩) h2;rw[Array.setIfInBounds_comm _ _ dv];exact h3.2.2
theorem Oh7{i:Nat}{oi:Oper}{v:Value}(hi:ar[i]?=some oi)(pz:∀(j:Nat)(o:Oper) cs b,ar[j]?=some o->o.op≠.select cs b)(hQ:∀c a w,Q (.panic c) (a.put oi.dst v) w->Q (.panic c) a w):∀(n:Nat)(l:Array Bool)(a:Act)(w:World),(∀j oj,ar[j]?=some oj->j≠i->l.getD j true=false->(∀e∈oj.after,Region.binds md e=true->e.on≠i)->oi.apart ar oj=true) ->i∈Region.ready md ar l->YieldsIf P ar (λ _=>True) oi v a ->anyW P md ar Q W S n (l.setIfInBounds i true) (a.put oi.dst v) w->anyW P md ar Q W S (n+1) l a w:=by
 intro n
 induction n with
 |zero =>
  intro l a w _ hr hy H;refine⟨λ h=>(by rw[h]at hr;cases hr),λ j hj=>?_⟩;by_cases dv:j=i;subst dv;exact hy.wpOp hi U3i ⟨λ _ h=>h,H⟩
  have:=ready_mono hj dv;rw[H.1]at this;cases this
 |succ n ih =>
  intro l a w bm hr hy H;refine⟨λ h=>(by rw[h]at hr;cases hr),λ j hj=>?_⟩;by_cases dv:j=i;subst dv;exact hy.wpOp hi U3i ⟨λ _ h=>h,H⟩
  refine Z235 ?_;intro h1 l9 oj oZ aH mO;have xI:∀e∈oj.after,Region.binds md e=true->e.on≠i:=λ e he hb lm=>by
   have h2:=aH e he hb;rw[lm,mO]at h2;cases h2
  have h2:=wpOp_putIf oZ (bm j oj oZ dv l9 xI) (λ cs b=>pz i oi cs b hi) (λ cs b=>pz j oj cs b oZ) hQ hy h1;have ln:∀k ok,ar[k]?=some ok->k≠i->(l.setIfInBounds j true).getD k true=false->(∀e∈ok.after,Region.binds md e=true->e.on≠i)->oi.apart ar ok=true:=λ k ok hk GT BA mz=>by
   refine bm k ok hk GT ?_ mz;by_cases rQ:j=k;subst rQ;exact l9
   rw[getD_set_ne true rQ]at BA;exact BA
  refine wpOp_mono (λ a' w' h3=>⟨h3.2.1,ih (l.setIfInBounds j true) a' w' ln (ready_mono hr (U3p dv)) h3.1 ?_⟩) h2;rw[Array.setIfInBounds_comm _ _ dv];exact h3.2.2
theorem takeY{i:Nat}{oi:Oper}{v:Value}{n:Nat}{l:Array Bool}{a:Act}{w:World}(hi:ar[i]?=some oi)(hs:Region.noSelect ar=true)(hf:Region.free md ar l i=true)(hr:(Region.ready md ar l).contains i=true)(hQ:∀c a w,Q (.panic c) (a.put oi.dst v) w->Q (.panic c) a w)(dB:Region.wanted oi (yielded ar a.tmps)=true)(hy:∀w,(execOp a.eval oi).run P w=.ok (.value v) w)(h:anyW P md ar Q W S n (l.setIfInBounds i true) (a.put oi.dst v) w):anyW P md ar Q W S (n+1) l a w :=
 Oh7 hi (Region.noSelect_spec hs) hQ n l a w (Region.free_spec hi hf) (by simpa using hr) (.inl ⟨dB,λ w _=>hy w⟩) h
theorem take{i:Nat}{oi:Oper}{v:Value}{n:Nat}{l:Array Bool}{a:Act}{w:World}(hi:ar[i]?=some oi)(hs:Region.noSelect ar=true)(hl:Obf md ar W i=true)(hc:O6o md ar l=true)(hf:Region.free md ar l i=true)(hr:(Region.ready md ar l).contains i=true)(hQ:∀c a w,Q (.panic c) (a.put oi.dst v) w->Q (.panic c) a w)(hS:S w)(dB:Region.wanted oi (yielded ar a.tmps)=true)(hy:∀w,S w->(execOp a.eval oi).run P w=.ok (.value v) w)(h:anyW P md ar Q W S n (l.setIfInBounds i true) (a.put oi.dst v) w):anyW P md ar Q W S (n+1) l a w :=
 first hi (Region.noSelect_spec hs) hQ hl n l a w (closed_of hc) (Region.free_spec hi hf) (by simpa using hr) (.inl ⟨dB,hy⟩) hS h
theorem skip{i:Nat}{oi:Oper}{n:Nat}{l:Array Bool}{a:Act}{w:World}(hi:ar[i]?=some oi)(hs:Region.noSelect ar=true)(hf:Region.free md ar l i=true)(hr:(Region.ready md ar l).contains i=true)(hQ:∀c a w,Q (.panic c) (a.put oi.dst undef) w->Q (.panic c) a w)(dB:Region.wanted oi (yielded ar a.tmps)=false)(h:anyW P md ar Q W S n (l.setIfInBounds i true) (a.put oi.dst undef) w):anyW P md ar Q W S (n+1) l a w :=
 Oh7 hi (Region.noSelect_spec hs) hQ n l a w (Region.free_spec hi hf) (by simpa using hr) (.inr ⟨dB,rfl⟩) h
theorem all{rs:List Nat}{n:Nat}{l:Array Bool}{a:Act}{w:World}(hr:Region.ready md ar l=rs)(a8:rs≠[])(h:∀i∈rs,wpOp P ar Q i (λ a' w'=>(W i=true->S w->S w')/\anyW P md ar Q W S n (l.setIfInBounds i true) a' w') a w):anyW P md ar Q W S (n+1) l a w :=
 ⟨λ h0=>absurd (hr ▸ h0) a8,hr ▸ h⟩
theorem one{i:Nat}{o:Oper}{K:Act->World->Prop}{a:Act}{w:World}(ho:ar[i]?=some o)(hw:Region.wanted o (yielded ar a.tmps)=true)(h:Oper.wp P o a w K Q):wpOp P ar Q i K a w:=by
 unfold wpOp;simp only[ho,hw,U2i];exact .inl h
theorem done{l:Array Bool}{a:Act}{w:World}(hr:Region.ready md ar l=[])(h:Q .normal a w):∀n,anyW P md ar Q W S n l a w
 |0=>⟨hr,h⟩
 |_+1=>⟨λ _=>h,by rw[hr];simp⟩
theorem begin'{id:Nat}{a:Act}{w:World}(hm:P.follows .mixedOrders=true)(h:anyW P .any ar Q W S ar.size (Array.replicate ar.size false) a w.drew):(Code.region id ar true).wp P Q a w :=
 wp_region_any hm (Obn _ _ _ _ h)
end
end Go.Proofs.YtnkgknbdaiakgaaGreatDoor.Reg
namespace Go.Proofs.YtnkgknbdaiakgaaGreatDoor.Reg
open Go.Proofs.Tryz Go Go.RowKit
section
variable {P:Program}{ar:Array Oper}{Q:Exit->Act->World->Prop}{md:Region.Mode}{S:World->Prop}{W:Nat->Bool}
theorem ty(i:Nat){oi:Oper}{v:Value}{n:Nat}{l:Array Bool}{a b:Act}{w:World}(h:anyW P md ar Q W S n (l.setIfInBounds i true) b w)(hi:ar[i]?=some oi:=by rfl)(hs:Region.noSelect ar=true:=by kernel_rfl)(hf:Region.free md ar l i=true:=by kernel_rfl)(hr:(Region.ready md ar l).contains i=true:=by kernel_rfl)
    (hQ:∀c a w,Q (.panic c) (a.put oi.dst v) w->Q (.panic c) a w:=by exact λ _ _ _ h=>h)(dB:Region.wanted oi (yielded ar a.tmps)=true:=by rfl)
    (hy:∀w,(execOp a.eval oi).run P w=.ok (.value v) w:=by (intro w;go_simp;try with_reducible rfl))(hb:a.put oi.dst v=b:=by ((try simp only[Act.put,U4n,U3w,U4c,U38,U34,U3h]);try rfl)):anyW P md ar Q W S (n+1) l a w:=by
 subst hb;exact takeY hi hs hf hr hQ dB hy h
theorem tl(i:Nat){oi:Oper}{v:Value}{n:Nat}{l:Array Bool}{a b:Act}{w:World}(hS:S w)(h:anyW P md ar Q W S n (l.setIfInBounds i true) b w)(hi:ar[i]?=some oi:=by rfl)(hs:Region.noSelect ar=true:=by kernel_rfl)(hl:Obf md ar W i=true:=by kernel_rfl)(hc:O6o md ar l=true:=by kernel_rfl)(hf:Region.free md ar l i=true:=by kernel_rfl)(hr:(Region.ready md ar l).contains i=true:=by kernel_rfl)
    (hQ:∀c a w,Q (.panic c) (a.put oi.dst v) w->Q (.panic c) a w:=by exact λ _ _ _ h=>h)(dB:Region.wanted oi (yielded ar a.tmps)=true:=by rfl)
    (hy:∀w,S w->(execOp a.eval oi).run P w=.ok (.value v) w)(hb:a.put oi.dst v=b:=by ((try simp only[Act.put,U4n,U3w,U4c,U38,U34,U3h]);try rfl)):anyW P md ar Q W S (n+1) l a w:=by
 subst hb;exact take hi hs hl hc hf hr hQ hS dB hy h
theorem sk(i:Nat){oi:Oper}{n:Nat}{l:Array Bool}{a b:Act}{w:World}(h:anyW P md ar Q W S n (l.setIfInBounds i true) b w)(hi:ar[i]?=some oi:=by rfl)(hs:Region.noSelect ar=true:=by kernel_rfl)(hf:Region.free md ar l i=true:=by kernel_rfl)(hr:(Region.ready md ar l).contains i=true:=by kernel_rfl)
    (hQ:∀c a w,Q (.panic c) (a.put oi.dst undef) w->Q (.panic c) a w:=by exact λ _ _ _ h=>h)(dB:Region.wanted oi (yielded ar a.tmps)=false:=by rfl)
    (hb:a.put oi.dst undef=b:=by ((try simp only[Act.put,U4n,U3w,U4c,U38,U34,U3h]);try rfl)):anyW P md ar Q W S (n+1) l a w:=by
 subst hb;exact skip hi hs hf hr hQ dB h
end
section
variable {P:Program}{ar:Array Oper}{Q:Exit->Act->World->Prop}{md:Region.Mode}{S:World->Prop}{W:Nat->Bool}
theorem on(i:Nat){oi:Oper}{n:Nat}{l:Array Bool}{a:Act}{w:World}(h:Oper.wp P oi a w (λ a' w'=>(W i=true->S w->S w')/\anyW P md ar Q W S n (l.setIfInBounds i true) a' w') Q)(hi:ar[i]?=some oi:=by rfl)(hr:Region.ready md ar l=[i]:=by kernel_rfl)(hw:Region.wanted oi (yielded ar a.tmps)=true:=by rfl):anyW P md ar Q W S (n+1) l a w :=
 all hr Yb λ j hj=>by obtain rfl:=U22.1 hj;exact one hi hw h
theorem pt{n:Nat}{l:Array Bool}{a b:Act}{w:World}(h:anyW P md ar Q W S n l b w)(hb:a=b:=by ((try simp only[Act.put,U38,U34,U3h]);rfl)):anyW P md ar Q W S n l a w:=by
 subst hb;exact h
end
end Go.Proofs.YtnkgknbdaiakgaaGreatDoor.Reg
namespace Go.Proofs.YtnkgknbdaiakgaaGreatDoor
open Pl Go.Proofs.Tryz Go.RowKit
def Oeu{β : Type}(C:Nat->Prop)(J : β -> World->Prop):Prop :=
 ∀s W W' row,J s W->W.grownBy W' row->(∀r,row=some r->C r)->J s W'
def Obe(C:Nat->Prop)(A B:World):Prop:=∀r,C r->B.heap[r]?=A.heap[r]?
def O85{β : Type}(C:Nat->Prop)(B:Nat)(I : β -> World->Prop):Prop :=
 ∀s W W' row,I s W->W.grownBy W' row->(∀r,row=some r->C r\/(B<=r/\∃o:Obj,W.heap[r]?=some o/\o.isCells=false))->I s W'
theorem O85.from{β : Type}{C:Nat->Prop}{B:Nat}{I : β -> World->Prop}(h:O85 C B I):OwnFrom B I:=λ s W W' row hs hg hr=>h s W W' row hs hg (λ r e => .inr (hr r e))
def Vdj{α : Type}(F:Fence)(n:Nat)(P:Program)(g:Nat)(lb:Array Value)(mW : α -> Array Value)(S Sp:List α -> Prop)(N:Nat)(C:Nat->Prop)(w:World):Prop :=
 ∀(l:Nat)(J Jx:List α -> World->Prop)(W:World),Below w w W->Oeu C J->Oeu C Jx ->
  (∀pre x W1,J pre W1->pre.length<N->YieldAt F (n-1) P l (mW x) W1 λ e W' =>
   (e=.returned (.bool true)/\J (pre++[x]) W'/\Obe C W1 W')\/(e=.returned (.bool false)/\Jx (pre++[x]) W')) ->
  J [] W ->
  CallsIn F n P g (#[.func (.yield l) #[] #[]]++lb) W λ e W'=>(∃v,e=.returned v)/\((∃xs,S xs/\J xs W')\/(∃pre,Sp pre/\Jx pre W'))
theorem Oa3{α : Type}{F:Fence}{n:Nat}{P:Program}{g:Operand}{ps:Array Tmp}{assign body:Code}{Q:Exit->Act->World->Prop}{a:Act}{w:World}{C:Nat->Prop} (hC:∀r,C r->r<w.heap.size)(td:F.round=none)(h1:1<=n){gf:Nat}{lb:Array Value}(hg:a.eval g=.func (.func gf) #[] lb)(GU:F.fn gf)(eg:∀args w,(callFunc gf args).run P w=.ok (.enter gf args) w){mW : α -> Array Value} {S Sp:List α -> Prop} {N:Nat} (GV:Vdj F (n-1) P gf lb mW S Sp N C w) (PA:∀x,(mW x).size=ps.size)(I:List α -> World->Prop)(Ix:Code->List α -> World->Prop)(hI:O85 C w.heap.size I)(xJ:∀c,O85 C w.heap.size (Ix c))(h0:I [] w)(a₁ : α -> Act)(tw:∀(l:Nat)(x : α)(W:World)(K:Act->World->Prop),K (a₁ x) W ->assign.wpIn (F.inRound l) (n-1-1) P (Exit.then K (λ _ _ _=>False)) { tmps:=(ps.zip (mW x)).foldl (λ t (p,v)=>t.setIfInBounds p v) a.tmps,defers:=[] } W)(jS:∀(l:Nat)(pre:List α)(x : α)(W:World),I pre W->pre.length<N->body.wpIn (F.inRound l) (n-1-1) P (ownPostK (Obe C) I Ix (pre++[x]) W) (a₁ x) W)(BB:∀(D:Nat)(xs:List α)(W:World),w.heap.size<=D->S xs->I xs W->W.heap[D]?=some (.deferred (some []))->Q .normal { a with defers:={ target := .collected D,args:=#[] }::a.defers } W)(fh:∀(D:Nat)(c:Code)(pre:List α)(W:World),w.heap.size<=D->Sp pre->Ix c pre W->W.heap[D]?=some (.deferred (some []))->c.wpIn F n P Q { a with defers:={ target := .collected D,args:=#[] }::a.defers } W):(Code.rangeFunc g ps assign body).wpIn F n P Q a w:=by
 have oI:=hI.from
 have oX:=λ c=>(xJ c).from
 refine wpIn_rangeFunc λ fn GX=>?_
 rw[td];obtain⟨kF,jb⟩:∃kF:LoopState->Option Code->Loop,kF=λ st pe=>{ state:=st,pending:=pe,fn,tmps:=a.tmps,params:=ps,assign,body,defers:=w.heap.size }:=⟨_,rfl⟩
 obtain⟨W1,aK⟩:=ExZ ((w.alloc (.deferred (some []))).alloc (.loop (kF .ready none)))
 have Bk:W1.heap[w.heap.size+1]?=some (.loop (kF .ready none)):=by
  have e:=World.alloc_heap_new (w.alloc (.deferred (some []))) (.loop (kF .ready none));rw[U1s,aK]at e;exact e
 have BC:W1.heap[w.heap.size]?=some (.deferred (some [])):=by
  rw[<-aK];exact (Below.heap_alloc _ _ _ Yb).trans (World.alloc_heap_new w _)
 have BD:I [] W1:=by rw[<-aK];exact oI.alloc _ (oI.alloc _ h0)
 have bz:Below w w W1:=by
  rw[<-aK];exact ((Below.refl _ w).alloc (U12 _) _).alloc Yb _
 have iO:∀{A B:World}{row:Option Nat}{k:Nat}{o:Obj},A.grownBy B row->(∀r,row=some r->C r)->w.heap.size<=k->A.heap[k]?=some o->B.heap[k]?=some o :=
  λ mX hr hk ho=>(mX.block _ (U1a.1 ho).1 (λ e=>by have:=hC _ (hr _ e.symm);omega)).trans ho
 have BE:∀(W:World)(l:Nat)(o':Obj),w.heap.size<=l->Obe C W (W.putObj l o') :=
  λ W l o' hl r hr=>World.putObj_heap_other (by have:=hC r hr;omega)
 refine⟨w.heap.size+1,[{ target := .collected w.heap.size,args:=#[] }],W1,{ target := .fn (.func gf) lb,args:=#[.func (.yield (w.heap.size+1)) #[] #[]] },W1,gf,
  #[.func (.yield (w.heap.size+1)) #[] #[]]++lb,W1,?_,?_,?_,?_,λ _=>h1,?_⟩
 rw[<-aK,jb];exact run_enterLoop_outer _ _ _ _ _
 ·simp only[resolve,hg];simp[go_sem]
 intro f' LQ;simp[Target.leads]at LQ;subst LQ;exact GU
 ·simp[invoke,go_sem,eg]
 refine (GV (w.heap.size+1)
  (λ pre W=>I pre W/\W.heap[w.heap.size+1]?=some (.loop (kF .ready none))/\W.heap[w.heap.size]?=some (.deferred (some [])))
  (λ pre W=>∃c,Ix c pre W/\W.heap[w.heap.size+1]?=some (.loop (kF .done (some c)))/\W.heap[w.heap.size]?=some (.deferred (some [])))
  W1 bz
  (λ s A B row hs mX hr=>⟨hI s A B row hs.1 mX (λ r e => .inl (hr r e)),iO mX hr Ya hs.2.1,iO mX hr (U12 _) hs.2.2⟩)
  (λ s A B row hs mX hr=>by
   obtain⟨c,hc,hl,hk⟩:=hs;exact⟨c,xJ c s A B row hc mX (λ r e => .inl (hr r e)),iO mX hr Ya hl,iO mX hr (U12 _) hk⟩)
  ?_ ⟨BD,Bk,BC⟩).mono ?_
 ·-- a round
  rintro pre x W ⟨hi,hl,hk⟩ ad;have aa:w.heap.size+1<W.heap.size:=(U1a.1 hl).1;have hy:=run_yield (P:=P) (args:=mW x) hl (by rw[jb];exact PA x);rw[jb]at hy;refine⟨fn,_,assign,body,hy,roundIn_of_wpIn GX (tw _ x W _ ⟨_,run_beginRound hl (by rw[jb]),?_⟩)⟩;obtain⟨W2,dQ⟩:=ExZ (W.putObj (w.heap.size+1) (.loop { kF .ready none with state := .busy }))
  have et:W2.heap[w.heap.size+1]?=some (.loop { kF .ready none with state := .busy }):=by rw[<-dQ];exact World.putObj_heap_same aa
  have cd:W2.heap[w.heap.size]?=some (.deferred (some [])):=by rw[<-dQ];exact (World.putObj_heap_other Ya).trans hk
  have eY:I pre W2:=by rw[<-dQ];exact oI.putObj _ hi Ya hl rfl
  have fj:Obe C W W2:=by rw[<-dQ];exact BE _ _ _ Ya
  show body.wpIn _ _ _ _ _ (W.putObj (w.heap.size+1) (.loop { kF .ready none with state := .busy }));rw[dQ];refine wpIn_mono (jS _ pre x _ eY ad) ?_;have fin:∀(fF:Option Code)(W3:World),KeepsOthers W2 W3 ->
      W3.heap[w.heap.size+1]?=some (.loop { kF .ready none with state := .busy }) /\
      (Instr.endRound (w.heap.size+1) fF).run P W3=.ok (.bool fF.isNone) (W3.putObj (w.heap.size+1) (.loop (kF (if fF.isNone then .ready else .done) fF))) /\
      (W3.putObj (w.heap.size+1) (.loop (kF (if fF.isNone then .ready else .done) fF))).heap[w.heap.size+1]?=some (.loop (kF (if fF.isNone then .ready else .done) fF)) /\
      (W3.putObj (w.heap.size+1) (.loop (kF (if fF.isNone then .ready else .done) fF))).heap[w.heap.size]?=some (.deferred (some [])):=λ fF W3 fw=>by
   have jL:=fw.same _ _ et rfl;have e:=run_endRound (P:=P) fF jL;rw[jb]at e jL⊢;exact⟨jL,e,World.putObj_heap_same (U1a.1 jL).1,(World.putObj_heap_other Ya).trans (fw.same _ _ cd rfl)⟩
  have pB:∀(c:Code)(W3:World),KeepsOthers W2 W3->Ix c (pre++[x]) W3->∃b W4,(Instr.endRound (w.heap.size+1) (some c)).run P W3=.ok b W4/\b=.bool false/\Ix c (pre++[x]) W4/\W4.heap[w.heap.size+1]?=some (.loop (kF .done (some c)))/\W4.heap[w.heap.size]?=some (.deferred (some [])):=λ c W3 fw hx=>by
   obtain⟨jL,hr,GY,mV⟩:=fin (some c) W3 fw;exact⟨_,_,hr,rfl,(oX c).putObj _ hx Ya jL rfl,GY,mV⟩
  rintro e a3 W3 hp;cases e with
  |normal =>
   obtain⟨fw,GZ,PB⟩:=hp;obtain⟨jL,hr,GY,mV⟩:=fin none W3 fw;exact⟨_,_,hr,.inl ⟨rfl,⟨oI.putObj _ PB Ya jL rfl,GY,mV⟩,λ r G'=>((BE _ _ _ Ya) r G').trans ((GZ r G').trans (fj r G'))⟩⟩
  |ret =>
   obtain⟨b,W4,hr,rfl,h4⟩:=pB .ret W3 hp.1 hp.2;exact⟨_,_,hr,.inr ⟨rfl,.ret,h4⟩⟩
  |exit id =>
   obtain⟨b,W4,hr,rfl,h4⟩:=pB (.exit id) W3 hp.1 hp.2;exact⟨_,_,hr,.inr ⟨rfl,.exit id,h4⟩⟩
  |goto t =>
   obtain⟨b,W4,hr,rfl,h4⟩:=pB (.goto t) W3 hp.1 hp.2;exact⟨_,_,hr,.inr ⟨rfl,.goto t,h4⟩⟩
  |panic ch=>exact hp.elim
  |outgrown=>exact hp.elim
 -- behind the iterator
 rintro e W2 ⟨⟨v,rfl⟩,(⟨xs,hS,hi,hl,hk⟩|⟨pre,PC,c,hi,hl,hk⟩)⟩;exact⟨none,_,by have:=run_endLoop (P:=P) hl (by rw[jb];simp);rw[jb]at this;exact this,BB _ xs _ (U12 _) hS (oI.putObj _ hi Ya hl rfl) ((World.putObj_heap_other Ya).trans hk)⟩
 exact⟨some c,_,by have:=run_endLoop (P:=P) hl (by rw[jb];simp);rw[jb]at this;exact this,fh _ c pre _ (U12 _) PC ((oX c).putObj _ hi Ya hl rfl) ((World.putObj_heap_other Ya).trans hk)⟩
