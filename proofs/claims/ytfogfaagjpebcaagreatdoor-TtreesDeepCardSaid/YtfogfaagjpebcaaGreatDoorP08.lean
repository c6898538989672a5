/-
 The walks and plain laws that the claim rests on, part 8.
-/
import Derived.Test.YtfogfaagjpebcaaGreatDoorP00
import Derived.Test.YtfogfaagjpebcaaGreatDoorP02
import Derived.Test.YtfogfaagjpebcaaGreatDoorP03
set_option maxHeartbeats 16000000
set_option linter.all false
set_option linter.unusedVariables false
set_option linter.unusedSimpArgs false
namespace Go.Proofs.YtfogfaagjpebcaaGreatDoor
open Go.RowKit
theorem tv_wrong (i:Int) (n:Nat) (hi:i=n) (w:World) :
    Calls Tryz.prog 67 #[.int .i64 i] w fun e w'=>e = .returned (fv 3 n)∧Gr w w':=by
 subst hi;go_enter Tryz.func67,Tryz.ntmps67
 go_wp2
 exact bodyPost_ret (v:=fv 3 n) (by simp[results,Tryz.results67,go_sem]) rfl ⟨rfl,(Gr.refl _).alloc _⟩
theorem tl_wrong (i:Int) (n:Nat) (hi:i=n) (w:World) :
    Calls Tryz.prog 50 #[.int .i64 i] w fun e w'=>e = .returned (fv 3 n)∧Gr w w':=by
 subst hi;go_enter Tryz.func50,Tryz.ntmps50
 go_wp2
 exact bodyPost_ret (v:=fv 3 n) (by simp[results,Tryz.results50,go_sem]) rfl ⟨rfl,(Gr.refl _).alloc _⟩
theorem tq_wrong (i:Int) (n:Nat) (hi:i=n) (w:World) :
    Calls Tryz.prog 109 #[.int .i64 i] w fun e w'=>e = .returned (fv 3 n)∧Gr w w':=by
 subst hi;go_enter Tryz.func109,Tryz.ntmps109
 go_wp2
 exact bodyPost_ret (v:=fv 3 n) (by simp[results,Tryz.results109,go_sem]) rfl ⟨rfl,(Gr.refl _).alloc _⟩
theorem tv_fine_yes (w:World) :
    Calls Tryz.prog 69 #[f0] w fun e w'=>e = .returned (.bool true)∧Gr w w':=by
 go_enter Tryz.func69,Tryz.ntmps69;exact J123
theorem tv_fine_no (c p:Nat) (hc:¬(c:Int)=0) (w:World) :
    Calls Tryz.prog 69 #[fv c p] w fun e w'=>e = .returned (.bool false)∧Gr w w':=by
 go_enter Tryz.func69,Tryz.ntmps69;exact J123
theorem tl_fine_yes (w:World) :
    Calls Tryz.prog 52 #[f0] w fun e w'=>e = .returned (.bool true)∧Gr w w':=by
 go_enter Tryz.func52,Tryz.ntmps52;exact J123
theorem tl_fine_no (c p:Nat) (hc:¬(c:Int)=0) (w:World) :
    Calls Tryz.prog 52 #[fv c p] w fun e w'=>e = .returned (.bool false)∧Gr w w':=by
 go_enter Tryz.func52,Tryz.ntmps52;exact J123
theorem tq_plain (c:UInt8) (w:World) :
    Calls Tryz.prog 230 #[.int .u8 c.toNat] w fun e w'=>e = .returned (.bool (Pl.isPlain c))∧w=w':=by
 go_enter Tryz.func230,Tryz.ntmps230;exact J13
theorem tv_control (x:Nat) (hx:x≤1114111) (w:World) :
    Calls Tryz.prog 96 #[.int .i32 x] w fun e w'=>e = .returned (.bool (Pl.ctl x))∧w=w':=by
 go_enter Tryz.func96,Tryz.ntmps96;exact J13
theorem hasPrefix_pre (l p:List UInt8):Lib.hasPrefix l p=Pl.pre l p:=by
 unfold Lib.hasPrefix
 induction p generalizing l with
 | nil=>cases l <;> simp[Pl.pre]
 | cons b p ih =>
  cases l with
  | nil=>simp[Pl.pre]
  | cons a l =>
   show (b==a && p.isPrefixOf l)=(a==b && Pl.pre l p)
   rw[ih,Bool.beq_comm]
theorem prefix_at (s p:ByteArray) (m:Nat) (b:Bool) (h:Pl.pre ((bs s).drop m) (bs p)=b) (w:World) :
    Calls Tryz.prog 9 #[.string (s.extract m s.size),.string p] w fun e w'=>e = .returned (.bool b)∧w=w':=by
 refine (Tryz.strings_HasPrefix _ _ w).mono ?_;refine Z48 ?_;exact⟨by rw[show (s.extract m s.size).data.toList=(bs s).drop m from bs_extract s m,hasPrefix_pre];exact ret_bool h,rfl⟩
end Go.Proofs.YtfogfaagjpebcaaGreatDoor
namespace Go.Proofs.YtfogfaagjpebcaaGreatDoor
open Go.RowKit
theorem bool256:(Tryz.prog.info? 149).map (fun i=>(i.zero,i.size))=some (some (.agg (Array.replicate 256 (.bool false))),256):=by kernel_rfl
theorem trimLeft_blanks (s:ByteArray) (w:World) :
    Calls Tryz.prog 56 #[.string s,.string ⟨#[32,9]⟩] w fun e w'=>e = .returned (.string ⟨((bs s).dropWhile Pl.isBlank).toArray⟩)∧Gr w w':=by
 refine (Any.strings_TrimLeft_laid Tryz.lays161 bool256 s ⟨#[32,9]⟩ w (by decide) ?_).mono ?_
 · intro j b h
   match j,h with
   | 0,h=>simp at h;subst h;decide
   | 1,h=>simp at h;subst h;decide
 rintro e w' ⟨rfl,hb⟩;refine⟨?_,hb⟩;have:(fun c:UInt8=>([32,9]:List UInt8).contains c)=Pl.isBlank:=by
  funext c
  rw[Bool.eq_iff_iff];simp[Pl.isBlank,←UInt8.toNat_inj]
 unfold Lib.trimLeftS;rw[show (⟨#[32,9]⟩:ByteArray).data.toList=[32,9] from rfl,this]
theorem tk_Blanks (s:ByteArray) (i:Int) (n:Nat) (hi:i=n) (hn:n≤s.size) (hs:s.size≤2147483647) (w:World) :
    Calls Tryz.prog 42 #[.string s,.int .i64 i] w fun e w'=>e = .returned (.int .i64 (Pl.blanksAt (bs s) n))∧Gr w w':=by
 subst hi;go_enter Tryz.func42,Tryz.ntmps42;go_wp2_with (go_at_call 56;refine (trimLeft_blanks _ _).mono ?_;rintro e w' ⟨rfl,hb⟩)
 go_ret
 refine⟨ret_int ?_,hb⟩;have h1:=Pl.takeWhile_dropWhile Pl.isBlank ((bs s).drop n);have h2:=bs_length s;rw[List.length_drop]at h1;rw[bs_extract,IntWalk.wrap64_in _ ⟨by omega,by omega⟩];unfold Pl.blanksAt Pl.blanks;omega
theorem decode_all_high (s:ByteArray) (pos:Nat) (h:pos<s.size) (ha:128≤(s[pos]'h).toNat) :
    pos+(Utf8.decode s pos).2≤s.size∧∀j,j<(Utf8.decode s pos).2→∀hj:pos+j<s.size,128≤(s[pos+j]'hj).toNat:=by
 have hg:∀k (hk:pos+k<s.size),(s[pos+k]'hk).toNat=(s.get! (pos+k)).toNat:=by
  intro k hk;show _=(s.data[pos+k]!).toNat;rw[getElem!_pos s.data (pos+k) hk];rfl
 have h0:128≤(s.get! (pos+0)).toNat:=by rw[←hg 0 h];exact ha
 have hn:¬(s.get! (pos+0)).toNat<128:=by omega
 simp only[Utf8.decode,hn,if_false]
 repeat' split
 all_goals (
  simp only[Bool.and_eq_true,decide_eq_true_eq,beq_iff_eq]at *;refine⟨by omega,fun j hj hjs=>?_⟩;rw[hg j hjs])
 all_goals (
  match j,hj with
  | 0,_=>exact h0
  | 1,hj=>omega
  | 2,hj=>omega
  | 3,hj=>omega
  | j+4,hj=>omega)
theorem tw_step (p:UInt8→Bool) (l:List UInt8) (n:Nat) (h:n<l.length) (hp:p (l[n]'h)=true) :
    n+((l.drop n).takeWhile p).length=n+1+((l.drop (n+1)).takeWhile p).length:=by
 rw[List.drop_eq_getElem_cons h,List.takeWhile_cons,if_pos hp];simp;omega
theorem tw_skip (p:UInt8→Bool) (l:List UInt8):∀k n,n+k≤l.length→(∀j,j<k→∀h:n+j<l.length,p (l[n+j]'h)=true) →
    n+((l.drop n).takeWhile p).length=n+k+((l.drop (n+k)).takeWhile p).length:=by
 intro k
 induction k with
 | zero=>intro n _ _;simp
 | succ k ih =>
  intro n h1 h2;rw[tw_step p l n (by omega) (by simpa using h2 0 (by omega) (by omega)),ih (n+1) (by omega) (fun j hj h=>by
   have:=h2 (j+1) (by omega) (by omega)
   simpa [Nat.add_assoc,Nat.add_comm 1 j]using this),show n+1+k=n+(k+1) from by omega]
theorem decode_low (s:ByteArray) (pos:Nat) (h:pos<s.size) (ha:(s[pos]'h).toNat<128):Utf8.decode s pos=((s[pos]'h).toNat,1):=by
 have hg:(s.get! (pos+0)).toNat=(s[pos]'h).toNat:=by
  show (s.data[pos]!).toNat=_;rw[getElem!_pos s.data pos h];rfl
 unfold Utf8.decode;simp only[hg];rw[if_pos ha]
theorem idx_ctl (s:ByteArray):∀f pos,pos≤s.size→s.size-pos≤f →
    Lib.idxFuncFrom Pl.ctl true s f pos=if pos+(((bs s).drop pos).takeWhile fun c => !Pl.isCtl c).length<s.size then ((pos+(((bs s).drop pos).takeWhile fun c => !Pl.isCtl c).length:Nat):Int) else -1:=by
 intro f
 induction f with
 | zero =>
  exact J26
 | succ f ih =>
  intro pos h1 h2;rw[Lib.idxFuncFrom];by_cases hp:pos<s.size
  · rw[if_pos hp];have hl:pos<(bs s).length:=by rw[bs_length];exact hp
    have hget:(bs s)[pos]'hl=s[pos]'hp:=rfl;by_cases hlow:(s[pos]'hp).toNat<128
    · rw[decode_low s pos hp hlow];by_cases hc:Pl.ctl (s[pos]'hp).toNat=true
      · rw[if_pos hc];have:(((bs s).drop pos).takeWhile fun c => !Pl.isCtl c)=[]:=by
         rw[List.drop_eq_getElem_cons hl,List.takeWhile_cons,if_neg];rw[hget];simp[Pl.isCtl,hc]
        rw[this,if_pos (by simpa using hp)];simp
      rw[if_neg hc,ih (pos+1) (by omega) (by omega),tw_step (fun c => !Pl.isCtl c) (bs s) pos hl (by rw[hget];simp[Pl.isCtl,hc])]
    have hd:=decode_high s pos hp (by omega);have ha:=decode_all_high s pos hp (by omega);rw[if_neg (by simp[Pl.ctl];omega),ih _ ha.1 (by omega),tw_skip (fun c => !Pl.isCtl c) (bs s) _ pos (by rw[bs_length];exact ha.1) (fun j hj h=>by
     have:=ha.2 j hj (by rw[←bs_length];exact h);have e:(bs s)[pos+j]'h=s[pos+j]'(by rw[←bs_length];exact h):=rfl;rw[e];simp[Pl.isCtl,Pl.ctl];omega)]
  rw[if_neg hp,if_neg (by omega)]
end Go.Proofs.YtfogfaagjpebcaaGreatDoor
namespace Go.Proofs.YtfogfaagjpebcaaGreatDoor
open Go.RowKit
theorem control_pays (w:World):PredAtRunes Tryz.prog 96 #[] Pl.ctl w:=by
 intro W x hx _;unfold FnGives;refine (tv_control x hx W).mono ?_;refine Z48 ?_;exact⟨rfl,0,rfl⟩
theorem idx_control (s:ByteArray) (w:World) :
    Calls Tryz.prog 95 #[.string s,.func (.func 96) #[] #[]] w fun e w'=>e = .returned (.int .i64 (if ((bs s).takeWhile fun c => !Pl.isCtl c).length<s.size then (((bs s).takeWhile fun c => !Pl.isCtl c).length:Int) else -1))∧Gr w w':=by
 refine (Tryz.strings_IndexFunc_runes 96 #[] (enters_of Tryz.func96 (by kernel_rfl) rfl) Pl.ctl s w (control_pays w)).mono ?_;rintro e w' ⟨rfl,hb⟩;refine⟨ret_int ?_,hb⟩;unfold Lib.idxFunc;rw[idx_ctl s s.size 0 (by omega) (by omega)];simp
theorem idx_control_no (s:ByteArray) (n:Nat) (h:¬n+(((bs s).drop n).takeWhile fun c => !Pl.isCtl c).length<s.size) (w:World) :
    Calls Tryz.prog 95 #[.string (s.extract n s.size),.func (.func 96) #[] #[]] w fun e w'=>e = .returned (.int .i64 (-1))∧Gr w w':=by
 refine (idx_control (s.extract n s.size) w).mono ?_;rintro e w' ⟨rfl,hb⟩;refine⟨ret_int ?_,hb⟩;rw[bs_extract,if_neg (by rw[size_drop];omega)]
theorem idx_control_yes (s:ByteArray) (n k:Nat) (hk:(((bs s).drop n).takeWhile fun c => !Pl.isCtl c).length=k) (h:n+k<s.size) (w:World) :
    Calls Tryz.prog 95 #[.string (s.extract n s.size),.func (.func 96) #[] #[]] w fun e w'=>e = .returned (.int .i64 k)∧Gr w w':=by
 refine (idx_control (s.extract n s.size) w).mono ?_;rintro e w' ⟨rfl,hb⟩;refine⟨ret_int ?_,hb⟩;rw[bs_extract,if_pos (by rw[size_drop];omega),hk]
theorem tv_Comment_end (s:ByteArray) (i:Int) (hi:i<0∨s.size≤i) (hs:s.size≤2147483647) (w:World) :
    Calls Tryz.prog 72 #[.string s,.int .i64 i] w fun e w'=>e = .returned (.tuple #[.int .i64 i,f0])∧Gr w w':=by
 go_enter Tryz.func72,Tryz.ntmps72;rcases hi with hi|hi
 · exact J129
 have:¬i<0:=by omega
 exact J129
theorem comment_not (l:List UInt8) (n:Nat) (h:∀hn:n<l.length,(l[n]'hn).toNat≠35):Pl.commentAt l n=n:=by
 unfold Pl.commentAt Pl.comment
 split
 · rename_i r h1
   exfalso;have hn:n<l.length:=by
    have:=congrArg List.length h1;simp at this;omega
   rw[List.drop_eq_getElem_cons hn]at h1;simp only[List.cons.injEq]at h1;exact h hn (by rw[h1.1];rfl)
 rfl
theorem comment_yes (l:List UInt8) (n:Nat) (hn:n<l.length) (h:(l[n]'hn).toNat=35):Pl.commentAt l n=n+((l.drop n).takeWhile fun c => !Pl.isCtl c).length:=by
 unfold Pl.commentAt;rw[List.drop_eq_getElem_cons hn];have e:l[n]'hn=35:=by rw[←UInt8.toNat_inj,h];rfl
 rw[e,List.takeWhile_cons,if_pos (by decide)];simp[Pl.comment];omega
theorem tv_Comment (s:ByteArray) (i:Int) (n:Nat) (hi:i=n) (hn:n≤s.size) (hs:s.size≤2147483647) (w:World) :
    Calls Tryz.prog 72 #[.string s,.int .i64 i] w fun e w'=>e = .returned (.tuple #[.int .i64 (Pl.commentAt (bs s) n),f0])∧Gr w w':=by
 subst hi;by_cases hlt:n<s.size
 · by_cases hc:(s[n]'hlt).toNat=35
   · have hcm:=comment_yes (bs s) n (by rw[bs_length];exact hlt) hc;obtain⟨k,hk⟩:∃k,(((bs s).drop n).takeWhile fun c => !Pl.isCtl c).length=k:=⟨_,rfl⟩
     rw[hk]at hcm;have hle:=Pl.takeWhile_length_le (fun c => !Pl.isCtl c) ((bs s).drop n);rw[hk,List.length_drop,bs_length]at hle;have H:=Lib.hid hcm;clear hcm;have HK:=Lib.hid hk;clear hk;by_cases hend:n+k<s.size
     · go_enter Tryz.func72,Tryz.ntmps72;go_wp2_with (go_at_call 95;refine (idx_control_yes s n k HK.out hend _).mono ?_;rintro e w1 ⟨rfl,g1⟩;obtain⟨hc1,hf1,hz1⟩:=g1.use;simp only[World.size_alloc]at hz1)
       go_region
       all_goals go_wp2_with fail
       exact bodyPost_ret (v := .tuple #[.int .i64 (n+k:Int),f0]) (by simp[results,Tryz.results72,go_sem,hc1]) rfl ⟨by rw[H.out];simp,Gr.auto⟩
     have hsz:n+k=s.size:=by omega
     have HS:=Lib.hid hsz;clear hsz hle;go_enter Tryz.func72,Tryz.ntmps72;go_wp2_with (go_at_call 95;refine (idx_control_no s n (by rw[HK.out];exact hend) _).mono ?_;rintro e w1 ⟨rfl,g1⟩;obtain⟨hc1,hf1,hz1⟩:=g1.use;simp only[World.size_alloc]at hz1)
     go_region
     all_goals go_wp2_with fail
     exact bodyPost_ret (v := .tuple #[.int .i64 s.size,f0]) (by simp[results,Tryz.results72,go_sem,hc1]) rfl ⟨by rw[H.out,HS.out],Gr.auto⟩
   have hcm:Pl.commentAt (bs s) n=n:=comment_not (bs s) n (fun _=>hc);have H:=Lib.hid hcm;clear hcm;have hc':(((s[n]'hlt).toNat:Int) != 35)=true:=by simp;omega
   clear hc;go_enter Tryz.func72,Tryz.ntmps72;go_wp2_with fail
   go_region
   all_goals go_wp2_with fail
   exact bodyPost_ret (v := .tuple #[.int .i64 n,f0]) (by simp[results,Tryz.results72,go_sem]) rfl ⟨by rw[H.out],Gr.auto⟩
 have e:Pl.commentAt (bs s) n=n:=comment_not _ _ (fun h=>absurd h (by rw[bs_length];exact hlt));rw[e];exact tv_Comment_end s n (.inr (by omega)) hs w
end Go.Proofs.YtfogfaagjpebcaaGreatDoor
namespace Go.Proofs.YtfogfaagjpebcaaGreatDoor
open Go.RowKit
theorem pre_size (s:ByteArray) (m k:Nat) (p:List UInt8) (h:Pl.pre ((bs s).drop m) p=true) (hk:p.length=k) (hm:m≤s.size):m+k≤s.size:=by
 have:=Pl.pre_length _ _ h;rw[List.length_drop,bs_length]at this;omega
theorem tv_Gap (s:ByteArray) (i:Int) (n0:Nat) (hi:i=n0) (hn0:n0≤s.size) (hs:s.size≤2147483647) (w:World) :
    Calls Tryz.prog 117 #[.string s,.int .i64 i] w fun e w'=>(match Pl.gapAt (bs s) n0 with
     | .ok m=>e = .returned (.tuple #[.int .i64 m,f0])∧m≤s.size
     | .bad c p=>e = .returned (.tuple #[.int .i64 0,fv c p]))∧Gr w w':=by
 subst hi;obtain⟨R,hR⟩:∃R:Ending→World→Prop,R=fun e w'=>(match Pl.gapAt (bs s) n0 with
     | .ok m=>e = .returned (.tuple #[.int .i64 m,f0])∧m≤s.size
     | .bad c p=>e = .returned (.tuple #[.int .i64 0,fv c p]))∧Gr w w':=⟨_,rfl⟩
 rw[←hR];have HR:=Lib.hid hR;clear hR;have hd0:decide ((n0:Int)<0)=false:=by simp
 have hd1:decide (s.size<n0)=false:=by simp;omega
 go_enter Tryz.func117,Tryz.ntmps117;go_wp2_with fail
 go_loopw [1,4] (fun a e wr=>∃n:Nat,a = .int .i64 n∧n≤s.size∧Pl.gapAt (bs s) n=Pl.gapAt (bs s) n0∧Gr (w.alloc (.cells #[.int .i64 0,.int .i64 0] 31)) wr) (fun a _ _=>s.size-(intOf a).toNat)
 case atStart=>exact⟨n0,rfl,hn0,rfl,Gr.refl _⟩
 case round =>
  obtain⟨n,rfl,hn,he,g⟩:=hrel;have hbl:=Pl.blanksAt_le (bs s) n (by rw[bs_length];exact hn);rw[bs_length]at hbl;have hcl:=Pl.commentAt_le (bs s) (Pl.blanksAt (bs s) n) (by rw[bs_length];exact hbl.2);rw[bs_length]at hcl;obtain⟨G1,G2,G3,G4,G5⟩:=Pl.gapAt_gap (bs s) n (by rw[bs_length];exact hn);have HE:=Lib.hid he;clear he;obtain⟨hc,hf,hz⟩:=g.use;simp only[World.size_alloc]at hz;obtain⟨m,hm⟩:∃m,Pl.commentAt (bs s) (Pl.blanksAt (bs s) n)=m:=⟨_,rfl⟩
  rw[hm]at hcl G1 G2 G3 G4 G5;have HM:=Lib.hid hm;clear hm;cases h1:Pl.pre ((bs s).drop m) [13,10]
  · have H1:=Lib.hid h1;cases h2:Pl.pre ((bs s).drop m) [10]
    · have H2:=Lib.hid h2;cases h3:Pl.pre ((bs s).drop m) [13]
      · have H3:=Lib.hid h3;by_cases hnm:m=n
        · have HG:=Lib.hid (G4 h1 h2 h3 hnm);clear G1 G2 G3 G4 G5 h1 h2 h3;have hnm':((m:Int)==n)=true:=by simp[hnm]
          have HN:=Lib.hid hnm;clear hnm;go_wp2_with (first|(go_at_call 42;refine (tk_Blanks s _ n rfl hn hs _).mono ?_;rintro e w1 ⟨rfl,g1⟩;have g1':=g.trans g1;obtain⟨hc1,hf1,hz1⟩:=g1'.use;simp only[World.size_alloc]at hz1)|(go_at_call 72;refine (tv_Comment s _ _ rfl hbl.2 hs _).mono ?_;rw[HM.out];rintro e w2 ⟨rfl,g2⟩;have g2':=g1'.trans g2;obtain⟨hc2,hf2,hz2⟩:=g2'.use;simp only[World.size_alloc]at hz2)|(go_at_call 9;first|(with_reducible refine (prefix_at s ⟨#[13,10]⟩ m false H1.out _).mono ?_;rintro e w3 ⟨rfl,rfl⟩)|(with_reducible refine (prefix_at s ⟨#[10]⟩ m false H2.out _).mono ?_;rintro e w3 ⟨rfl,rfl⟩)|(with_reducible refine (prefix_at s ⟨#[13]⟩ m false H3.out _).mono ?_;rintro e w3 ⟨rfl,rfl⟩)))
          go_region
          all_goals go_wp2_with fail
          exact bodyPost_ret (v := .tuple #[.int .i64 m,f0]) (by simp[results,Tryz.results117,go_sem,hc2]) rfl (by
           rw[HR.out];refine⟨?_,Gr.auto⟩;rw[←HE.out,HG.out];exact⟨by rw[HN.out],hn⟩)
        have HG:=Lib.hid (G5 h1 h2 h3 hnm);clear G1 G2 G3 G4 G5 h1 h2 h3;have hnm':((m:Int)==n)=false:=by simp;omega
        go_wp2_with (first|(go_at_call 42;refine (tk_Blanks s _ n rfl hn hs _).mono ?_;rintro e w1 ⟨rfl,g1⟩;have g1':=g.trans g1;obtain⟨hc1,hf1,hz1⟩:=g1'.use;simp only[World.size_alloc]at hz1)|(go_at_call 72;refine (tv_Comment s _ _ rfl hbl.2 hs _).mono ?_;rw[HM.out];rintro e w2 ⟨rfl,g2⟩;have g2':=g1'.trans g2;obtain⟨hc2,hf2,hz2⟩:=g2'.use;simp only[World.size_alloc]at hz2)|(go_at_call 9;first|(with_reducible refine (prefix_at s ⟨#[13,10]⟩ m false H1.out _).mono ?_;rintro e w3 ⟨rfl,rfl⟩)|(with_reducible refine (prefix_at s ⟨#[10]⟩ m false H2.out _).mono ?_;rintro e w3 ⟨rfl,rfl⟩)|(with_reducible refine (prefix_at s ⟨#[13]⟩ m false H3.out _).mono ?_;rintro e w3 ⟨rfl,rfl⟩)))
        go_roundw
        case rel=>exact⟨m,rfl,by omega,by rw[←HG.out,HE.out],Gr.auto⟩
        case measure=>simp[intOf];omega
      have H3:=Lib.hid h3;have hsz:=pre_size s m 1 _ h3 rfl (by omega);have HG:=Lib.hid (G3 h1 h2 h3);clear G1 G2 G3 G4 G5 h1 h2 h3;go_wp2_with (first|(go_at_call 42;refine (tk_Blanks s _ n rfl hn hs _).mono ?_;rintro e w1 ⟨rfl,g1⟩;have g1':=g.trans g1;obtain⟨hc1,hf1,hz1⟩:=g1'.use;simp only[World.size_alloc]at hz1)|(go_at_call 72;refine (tv_Comment s _ _ rfl hbl.2 hs _).mono ?_;rw[HM.out];rintro e w2 ⟨rfl,g2⟩;have g2':=g1'.trans g2;obtain⟨hc2,hf2,hz2⟩:=g2'.use;simp only[World.size_alloc]at hz2)|(go_at_call 9;first|(with_reducible refine (prefix_at s ⟨#[13,10]⟩ m false H1.out _).mono ?_;rintro e w3 ⟨rfl,rfl⟩)|(with_reducible refine (prefix_at s ⟨#[10]⟩ m false H2.out _).mono ?_;rintro e w3 ⟨rfl,rfl⟩)|(with_reducible refine (prefix_at s ⟨#[13]⟩ m true H3.out _).mono ?_;rintro e w3 ⟨rfl,rfl⟩))|(go_at_call 67;refine (tv_wrong _ (m+1) (by omega) _).mono ?_;rintro e w4 ⟨rfl,g4⟩;have g4':=g2'.trans g4;obtain⟨hc4,hf4,hz4⟩:=g4'.use;simp only[World.size_alloc]at hz4));exact bodyPost_ret (v := .tuple #[.int .i64 0,fv 3 (m+1)]) (by simp[results,Tryz.results117,go_sem,hc4]) rfl (by
       rw[HR.out];refine⟨?_,Gr.auto⟩;rw[←HE.out,HG.out])
    have H2:=Lib.hid h2;have hsz:=pre_size s m 1 _ h2 rfl (by omega);have HG:=Lib.hid (G2 h1 h2);clear G1 G2 G3 G4 G5 h1 h2;go_wp2_with (first|(go_at_call 42;refine (tk_Blanks s _ n rfl hn hs _).mono ?_;rintro e w1 ⟨rfl,g1⟩;have g1':=g.trans g1;obtain⟨hc1,hf1,hz1⟩:=g1'.use;simp only[World.size_alloc]at hz1)|(go_at_call 72;refine (tv_Comment s _ _ rfl hbl.2 hs _).mono ?_;rw[HM.out];rintro e w2 ⟨rfl,g2⟩;have g2':=g1'.trans g2;obtain⟨hc2,hf2,hz2⟩:=g2'.use;simp only[World.size_alloc]at hz2)|(go_at_call 9;first|(with_reducible refine (prefix_at s ⟨#[13,10]⟩ m false H1.out _).mono ?_;rintro e w3 ⟨rfl,rfl⟩)|(with_reducible refine (prefix_at s ⟨#[10]⟩ m true H2.out _).mono ?_;rintro e w3 ⟨rfl,rfl⟩))|(go_at_call 67;refine (tv_wrong _ (m+1) (by omega) _).mono ?_;rintro e w4 ⟨rfl,g4⟩;have g4':=g2'.trans g4;obtain⟨hc4,hf4,hz4⟩:=g4'.use;simp only[World.size_alloc]at hz4))
    go_roundw
    case rel=>exact⟨m+1,by go_num,by omega,by rw[←HG.out,HE.out],Gr.auto⟩
    case measure=>simp[intOf];omega
  have H1:=Lib.hid h1;have hsz:=pre_size s m 2 _ h1 rfl (by omega);have HG:=Lib.hid (G1 h1);clear G1 G2 G3 G4 G5 h1;go_wp2_with (first|(go_at_call 42;refine (tk_Blanks s _ n rfl hn hs _).mono ?_;rintro e w1 ⟨rfl,g1⟩;have g1':=g.trans g1;obtain⟨hc1,hf1,hz1⟩:=g1'.use;simp only[World.size_alloc]at hz1)|(go_at_call 72;refine (tv_Comment s _ _ rfl hbl.2 hs _).mono ?_;rw[HM.out];rintro e w2 ⟨rfl,g2⟩;have g2':=g1'.trans g2;obtain⟨hc2,hf2,hz2⟩:=g2'.use;simp only[World.size_alloc]at hz2)|(go_at_call 9;first|(with_reducible refine (prefix_at s ⟨#[13,10]⟩ m true H1.out _).mono ?_;rintro e w3 ⟨rfl,rfl⟩)))
  go_roundw
  case rel=>exact⟨m+2,by go_num,by omega,by rw[←HG.out,HE.out],Gr.auto⟩
  case measure=>simp[intOf];omega
end Go.Proofs.YtfogfaagjpebcaaGreatDoor
