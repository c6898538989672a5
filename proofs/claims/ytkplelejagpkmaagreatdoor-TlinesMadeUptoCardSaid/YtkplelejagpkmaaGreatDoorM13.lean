/-
 The walks and plain laws that the claim rests on, part 13.
-/
import Derived.Test.YtkplelejagpkmaaGreatDoorM09
import Derived.Laws.RangeString
import Derived.Lib.SmallJoins
set_option maxHeartbeats 16000000
set_option linter.all false
set_option linter.unusedVariables false
set_option linter.unusedSimpArgs false
namespace Go.Proofs.YtkplelejagpkmaaGreatDoor
open Go.RowKit Go.Joins
namespace Pl
def fits (w c:UInt8):Bool:=if w.toNat==57 then decide (48≤c.toNat) && decide (c.toNat≤57) else c.toNat==w.toNat
def formM:List UInt8→List UInt8→Bool
 | _,[]=>true
 | [],_::_=>false
 | c::l,w::m=>fits w c && formM l m
def dateF:List UInt8:=[57,57,57,57,45,57,57,45,57,57]
def timeF:List UInt8:=[57,57,58,57,57,58,57,57]
theorem formM_short (l m:List UInt8) (h:l.length<m.length):formM l m=false:=by
 induction l generalizing m with
 | nil=>cases m with
  | nil=>simp at h
  | cons w m=>rfl
 | cons c l ih =>
  cases m with
  | nil=>simp at h
  | cons w m=>simp only[formM,ih m (by simpa using h),Bool.and_false]
end Pl
theorem fits_cases (w c:UInt8):(Pl.fits w c=true∧((((w.toNat:Int)==57)=true∧decide ((c.toNat:Int)<48)=false∧decide ((57:Int)<(c.toNat:Int))=false∧((w.toNat:Int) != 57)=false)∨(((w.toNat:Int)==57)=false∧((w.toNat:Int) != 57)=true∧((c.toNat:Int) != (w.toNat:Int))=false))) ∨
    (Pl.fits w c=false∧((((w.toNat:Int)==57)=true∧decide ((c.toNat:Int)<48)=true)∨(((w.toNat:Int)==57)=true∧decide ((c.toNat:Int)<48)=false∧decide ((57:Int)<(c.toNat:Int))=true)∨(((w.toNat:Int)==57)=false∧((w.toNat:Int) != 57)=true∧((c.toNat:Int) != (w.toNat:Int))=true))):=by
 unfold Pl.fits;by_cases h:w.toNat=57
 · by_cases h1:c.toNat<48
   · right;refine⟨by simp[h];omega,.inl ⟨by simp;omega,by simp;omega⟩⟩
   by_cases h2:57<c.toNat
   · right;refine⟨by simp[h];omega,.inr (.inl ⟨by simp;omega,by simp;omega,by simp;omega⟩)⟩
   left;refine⟨by simp[h];omega,.inl ⟨by simp;omega,by simp;omega,by simp;omega,by simp;omega⟩⟩
 by_cases h1:c.toNat=w.toNat
 · left;refine⟨by simp[h,h1],.inr ⟨by simp;omega,by simp;omega,by simp;omega⟩⟩
 right;refine⟨by simp[h,h1],.inr (.inr ⟨by simp;omega,by simp;omega,by simp;omega⟩)⟩
theorem extract_zero (s:ByteArray) (n:Nat):s.extract 0 n=⟨((bs s).take n).toArray⟩:=by
 apply ByteArray.ext;apply Array.toList_inj.1;rw[Lib.extract_data,Nat.sub_zero,List.drop_zero]
set_option maxRecDepth 100000 in
theorem dt_form (s want:ByteArray) (hw:∀h:Nat,(h1:h<want.size)→(want[h]'h1).toNat<128) (hs:s.size≤2147483647) (w:World) :
    Calls Tryz.prog 87 #[.string s,.string want] w fun e w'=>e = .returned (.string (if Pl.formM (bs s) (bs want)=true then s.extract 0 want.size else ⟨#[]⟩))∧Gr w w':=by
 obtain⟨X,hX⟩:∃X,Pl.formM (bs s) (bs want)=X:=⟨_,rfl⟩
 rw[hX];by_cases hlen:s.size<want.size
 · have:X=false:=by rw[←hX];exact Pl.formM_short _ _ (by rw[bs_length,bs_length];exact hlen)
   subst this;clear hX;have hd:decide ((s.size:Int)<(want.size:Int))=true:=by simp;omega
   go_enter Tryz.func87,Tryz.ntmps87;go_wp2_with fail
   go_ret
   exact⟨rfl,Gr.auto⟩
 have hd:decide ((s.size:Int)<(want.size:Int))=false:=by simp;omega
 have HX:=Lib.hid hX;have HW:=Lib.hid hw;have hls:want.size≤s.size:=by omega
 clear hX hw hlen;go_enter Tryz.func87,Tryz.ntmps87;go_wp2_with fail
 go_loopw [5] (fun _ wr=>∃pos:Nat,wr=w.iter want pos∧pos≤want.size∧Pl.formM ((bs s).drop pos) ((bs want).drop pos)=X) (fun _ wr=>want.size-wr.iterPos w.heap.size)
 case atStart=>exact⟨0,rfl,by omega,by simpa using HX.out⟩
 case round =>
  obtain⟨pos,rfl,hpl,hx⟩:=hrel;have HX2:=Lib.hid hx;clear hx;by_cases hp:pos<want.size
  · have hnx:∀ty,(Instr.next (.pointer (some ⟨w.heap.size,0,none⟩)) true ty).run Tryz.prog (w.iter want pos)=_:=fun ty=>run_next_ascii w want pos ty hp (HW.out pos hp)
    have hk1:(0:Int)≤(pos:Int):=by omega
    have hk2:(pos:Int)<(s.size:Int):=by omega
    have hx2:=HX2.out;rw[idx_bs s pos (by omega),idx_bs want pos hp]at hx2;simp only[Pl.formM]at hx2;have hb1:(s[pos].toNat:Int)<256:=by have:=UInt8.toNat_lt s[pos];omega
    have hb2:(want[pos].toNat:Int)<256:=by have:=UInt8.toNat_lt want[pos];omega
    rcases fits_cases want[pos] s[pos] with⟨hf,hc⟩|⟨hf,hc⟩
    · rw[hf,Bool.true_and]at hx2;have HX3:=Lib.hid hx2;clear hx2 hf;rcases hc with⟨q1,q2,q3,q4⟩|⟨q1,q2,q3⟩
      all_goals
       go_wp2_with fail
       go_roundw
       case rel=>exact⟨pos+1,rfl,by omega,HX3.out⟩
       case measure=>simp;omega
    rw[hf,Bool.false_and]at hx2;have hX3:X=false:=hx2.symm;subst hX3;clear hx2 hf;rcases hc with⟨q1,q2⟩|⟨q1,q2,q3⟩|⟨q1,q2,q3⟩
    all_goals
     go_wp2_with fail
     go_ret
     exact⟨rfl,(Gr.refl w).alloc _⟩
  have hnx:∀ty,(Instr.next (.pointer (some ⟨w.heap.size,0,none⟩)) true ty).run Tryz.prog (w.iter want pos)=_:=fun ty=>run_next_end w want pos ty hp
  have hX3:X=true:=by
   have:=HX2.out;have e0:(bs want).drop pos=[]:=List.drop_eq_nil_of_le (by rw[bs_length];omega);rw[e0]at this;rw[←this];cases (bs s).drop pos <;> rfl
  subst hX3;have hk1:(0:Int)≤(want.size:Int):=by omega
  have hk2:(want.size:Int)≤(s.size:Int):=by omega
  go_wp2_with fail
  go_ret
  exact⟨rfl,(Gr.refl w).alloc _⟩
theorem dt_form_no (s want:ByteArray) (hw:∀h:Nat,(h1:h<want.size)→(want[h]'h1).toNat<128) (hs:s.size≤2147483647) (hf:Pl.formM (bs s) (bs want)=false) (w:World) :
    Calls Tryz.prog 87 #[.string s,.string want] w fun e w'=>e = .returned (.string ⟨#[]⟩)∧Gr w w' :=
 (dt_form s want hw hs w).mono fun e w' ⟨h1,h2⟩=>⟨by rw[h1,hf];rfl,h2⟩
theorem low_of (s:ByteArray) (h:((bs s).all fun c=>decide (c.toNat<128))=true):∀i:Nat,(h1:i<s.size)→(s[i]'h1).toNat<128:=by
 intro i h1;rw[List.all_eq_true]at h;have:=h (s[i]'h1) (by
  have h2:i<(bs s).length:=by rw[bs_length];exact h1
  exact List.getElem_mem h2)
 simpa using this
theorem dt_clock0 (s:ByteArray) (hs:s.size≤2147483647) (hf:Pl.formM (bs s) Pl.timeF=false) (w:World) :
    Calls Tryz.prog 88 #[.string s] w fun e w'=>e = .returned (.tuple #[.string ⟨#[]⟩,.string ⟨#[]⟩])∧Gr w w':=by
 have HF:=Lib.hid hf;clear hf;go_enter Tryz.func88,Tryz.ntmps88;go_wp2_with (go_at_call 87;refine (dt_form_no s ⟨#[57,57,58,57,57,58,57,57]⟩ (low_of _ (by decide)) hs HF.out _).mono ?_;rintro e w1 ⟨rfl,g1⟩)
 go_ret2
 exact⟨rfl,Gr.auto⟩
end Go.Proofs.YtkplelejagpkmaaGreatDoor
