/-
 The walks and plain laws that the claim rests on, part 13.
-/
import Derived.Test.YtdgjgcepbkanhaaGreatDoorM05
set_option maxHeartbeats 16000000
set_option linter.all false
set_option linter.unusedVariables false
set_option linter.unusedSimpArgs false
namespace Go.Proofs.YtdgjgcepbkanhaaGreatDoor
open Go.RowKit
theorem control_pays (w:World):PredAtRunes Tryz.prog 90 #[] Pl.ctl w:=by
 intro W x hx _;unfold FnGives;refine (tv_control x hx W).mono ?_;rintro e w' ⟨rfl,rfl⟩;exact⟨rfl,0,rfl⟩
theorem idx_control (s:ByteArray) (w:World) :
    Calls Tryz.prog 56 #[.string s,.func (.func 90) #[] #[]] w fun e w'=>e = .returned (.int .i64 (if ((bs s).takeWhile fun c => !Pl.isCtl c).length<s.size then (((bs s).takeWhile fun c => !Pl.isCtl c).length:Int) else -1))∧Gr w w':=by
 refine (Tryz.strings_IndexFunc_runes 90 #[] (enters_of Tryz.func90 (by kernel_rfl) rfl) Pl.ctl s w (control_pays w)).mono ?_;rintro e w' ⟨rfl,hb⟩;refine⟨ret_int ?_,hb⟩;unfold Lib.idxFunc;rw[idx_ctl s s.size 0 (by omega) (by omega)];simp
theorem idx_control_no (s:ByteArray) (n:Nat) (h:¬n+(((bs s).drop n).takeWhile fun c => !Pl.isCtl c).length<s.size) (w:World) :
    Calls Tryz.prog 56 #[.string (s.extract n s.size),.func (.func 90) #[] #[]] w fun e w'=>e = .returned (.int .i64 (-1))∧Gr w w':=by
 refine (idx_control (s.extract n s.size) w).mono ?_;rintro e w' ⟨rfl,hb⟩;refine⟨ret_int ?_,hb⟩;rw[bs_extract,if_neg (by rw[size_drop];omega)]
theorem idx_control_yes (s:ByteArray) (n k:Nat) (hk:(((bs s).drop n).takeWhile fun c => !Pl.isCtl c).length=k) (h:n+k<s.size) (w:World) :
    Calls Tryz.prog 56 #[.string (s.extract n s.size),.func (.func 90) #[] #[]] w fun e w'=>e = .returned (.int .i64 k)∧Gr w w':=by
 refine (idx_control (s.extract n s.size) w).mono ?_;rintro e w' ⟨rfl,hb⟩;refine⟨ret_int ?_,hb⟩;rw[bs_extract,if_pos (by rw[size_drop];omega),hk]
theorem tv_Comment_end (s:ByteArray) (i:Int) (hi:i<0∨s.size≤i) (hs:s.size≤2147483647) (w:World) :
    Calls Tryz.prog 64 #[.string s,.int .i64 i] w fun e w'=>e = .returned (.tuple #[.int .i64 i,f0])∧Gr w w':=by
 go_enter Tryz.func64,Tryz.ntmps64;rcases hi with hi|hi
 · go_wp2_with fail
   go_region
   all_goals go_wp2_with fail
   exact bodyPost_ret (v := .tuple #[.int .i64 i,f0]) (by simp[results,Tryz.results64,go_sem]) rfl ⟨rfl,Gr.auto⟩
 have:¬i<0:=by omega
 go_wp2_with fail
 go_region
 all_goals go_wp2_with fail
 exact bodyPost_ret (v := .tuple #[.int .i64 i,f0]) (by simp[results,Tryz.results64,go_sem]) rfl ⟨rfl,Gr.auto⟩
theorem comment_not (l:List UInt8) (n:Nat) (h:∀hn:n<l.length,(l[n]'hn).toNat≠35):Pl.commentAt l n=n:=by
 unfold Pl.commentAt Pl.comment
 split
 · rename_i r h1
   exfalso;have hn:n<l.length:=by
    have:=congrArg List.length h1;simp at this;omega
   rw[List.drop_eq_getElem_cons hn]at h1;simp only[List.cons.injEq]at h1;exact h hn (by rw[h1.1];rfl)
 rfl
theorem comment_yes (l:List UInt8) (n:Nat) (hn:n<l.length) (h:(l[n]'hn).toNat=35):Pl.commentAt l n=n+((l.drop n).takeWhile fun c => !Pl.isCtl c).length:=by
 unfold Pl.commentAt;rw[List.drop_eq_getElem_cons hn];have e:l[n]'hn=35:=by rw[←UInt8.toNat_inj,h];rfl
 rw[e,List.takeWhile_cons,if_pos (by decide)];simp[Pl.comment];omega
theorem tv_Comment (s:ByteArray) (i:Int) (n:Nat) (hi:i=n) (hn:n≤s.size) (hs:s.size≤2147483647) (w:World) :
    Calls Tryz.prog 64 #[.string s,.int .i64 i] w fun e w'=>e = .returned (.tuple #[.int .i64 (Pl.commentAt (bs s) n),f0])∧Gr w w':=by
 subst hi;by_cases hlt:n<s.size
 · by_cases hc:(s[n]'hlt).toNat=35
   · have hcm:=comment_yes (bs s) n (by rw[bs_length];exact hlt) hc;obtain⟨k,hk⟩:∃k,(((bs s).drop n).takeWhile fun c => !Pl.isCtl c).length=k:=⟨_,rfl⟩
     rw[hk]at hcm;have hle:=Pl.takeWhile_length_le (fun c => !Pl.isCtl c) ((bs s).drop n);rw[hk,List.length_drop,bs_length]at hle;have H:=Lib.hid hcm;clear hcm;have HK:=Lib.hid hk;clear hk;by_cases hend:n+k<s.size
     · go_enter Tryz.func64,Tryz.ntmps64;go_wp2_with (go_at_call 56;refine (idx_control_yes s n k HK.out hend _).mono ?_;rintro e w1 ⟨rfl,g1⟩;obtain⟨hc1,hf1,hz1⟩:=g1.use;simp only[World.size_alloc]at hz1)
       go_region
       all_goals go_wp2_with fail
       exact bodyPost_ret (v := .tuple #[.int .i64 (n+k:Int),f0]) (by simp[results,Tryz.results64,go_sem,hc1]) rfl ⟨by rw[H.out];simp,Gr.auto⟩
     have hsz:n+k=s.size:=by omega
     have HS:=Lib.hid hsz;clear hsz hle;go_enter Tryz.func64,Tryz.ntmps64;go_wp2_with (go_at_call 56;refine (idx_control_no s n (by rw[HK.out];exact hend) _).mono ?_;rintro e w1 ⟨rfl,g1⟩;obtain⟨hc1,hf1,hz1⟩:=g1.use;simp only[World.size_alloc]at hz1)
     go_region
     all_goals go_wp2_with fail
     exact bodyPost_ret (v := .tuple #[.int .i64 s.size,f0]) (by simp[results,Tryz.results64,go_sem,hc1]) rfl ⟨by rw[H.out,HS.out],Gr.auto⟩
   have hcm:Pl.commentAt (bs s) n=n:=comment_not (bs s) n (fun _=>hc);have H:=Lib.hid hcm;clear hcm;have hc':(((s[n]'hlt).toNat:Int) != 35)=true:=by simp;omega
   clear hc;go_enter Tryz.func64,Tryz.ntmps64;go_wp2_with fail
   go_region
   all_goals go_wp2_with fail
   exact bodyPost_ret (v := .tuple #[.int .i64 n,f0]) (by simp[results,Tryz.results64,go_sem]) rfl ⟨by rw[H.out],Gr.auto⟩
 have e:Pl.commentAt (bs s) n=n:=comment_not _ _ (fun h=>absurd h (by rw[bs_length];exact hlt));rw[e];exact tv_Comment_end s n (.inr (by omega)) hs w
end Go.Proofs.YtdgjgcepbkanhaaGreatDoor
namespace Go.Proofs.YtdgjgcepbkanhaaGreatDoor
open Go.RowKit
theorem pre_size (s:ByteArray) (m k:Nat) (p:List UInt8) (h:Pl.pre ((bs s).drop m) p=true) (hk:p.length=k) (hm:m≤s.size):m+k≤s.size:=by
 have:=Pl.pre_length _ _ h;rw[List.length_drop,bs_length]at this;omega
theorem tv_Gap (s:ByteArray) (i:Int) (n0:Nat) (hi:i=n0) (hn0:n0≤s.size) (hs:s.size≤2147483647) (w:World) :
    Calls Tryz.prog 81 #[.string s,.int .i64 i] w fun e w'=>(match Pl.gapAt (bs s) n0 with
     | .ok m=>e = .returned (.tuple #[.int .i64 m,f0])∧m≤s.size
     | .bad c p=>e = .returned (.tuple #[.int .i64 0,fv c p]))∧Gr w w':=by
 subst hi;obtain⟨R,hR⟩:∃R:Ending→World→Prop,R=fun e w'=>(match Pl.gapAt (bs s) n0 with
     | .ok m=>e = .returned (.tuple #[.int .i64 m,f0])∧m≤s.size
     | .bad c p=>e = .returned (.tuple #[.int .i64 0,fv c p]))∧Gr w w':=⟨_,rfl⟩
 rw[←hR];have HR:=Lib.hid hR;clear hR;have hd0:decide ((n0:Int)<0)=false:=by simp
 have hd1:decide (s.size<n0)=false:=by simp;omega
 go_enter Tryz.func81,Tryz.ntmps81;go_wp2_with fail
 go_loopw [1,4] (fun a e wr=>∃n:Nat,a = .int .i64 n∧n≤s.size∧Pl.gapAt (bs s) n=Pl.gapAt (bs s) n0∧Gr (w.alloc (.cells #[.int .i64 0,.int .i64 0] 31)) wr) (fun a _ _=>s.size-(intOf a).toNat)
 case atStart=>exact⟨n0,rfl,hn0,rfl,Gr.refl _⟩
 case round =>
  obtain⟨n,rfl,hn,he,g⟩:=hrel;have hbl:=Pl.blanksAt_le (bs s) n (by rw[bs_length];exact hn);rw[bs_length]at hbl;have hcl:=Pl.commentAt_le (bs s) (Pl.blanksAt (bs s) n) (by rw[bs_length];exact hbl.2);rw[bs_length]at hcl;obtain⟨G1,G2,G3,G4,G5⟩:=Pl.gapAt_gap (bs s) n (by rw[bs_length];exact hn);have HE:=Lib.hid he;clear he;obtain⟨hc,hf,hz⟩:=g.use;simp only[World.size_alloc]at hz;obtain⟨m,hm⟩:∃m,Pl.commentAt (bs s) (Pl.blanksAt (bs s) n)=m:=⟨_,rfl⟩
  rw[hm]at hcl G1 G2 G3 G4 G5;have HM:=Lib.hid hm;clear hm;cases h1:Pl.pre ((bs s).drop m) [13,10]
  · have H1:=Lib.hid h1;cases h2:Pl.pre ((bs s).drop m) [10]
    · have H2:=Lib.hid h2;cases h3:Pl.pre ((bs s).drop m) [13]
      · have H3:=Lib.hid h3;by_cases hnm:m=n
        · have HG:=Lib.hid (G4 h1 h2 h3 hnm);clear G1 G2 G3 G4 G5 h1 h2 h3;have hnm':((m:Int)==n)=true:=by simp[hnm]
          have HN:=Lib.hid hnm;clear hnm;go_wp2_with (first|(go_at_call 40;refine (tk_Blanks s _ n rfl hn hs _).mono ?_;rintro e w1 ⟨rfl,g1⟩;have g1':=g.trans g1;obtain⟨hc1,hf1,hz1⟩:=g1'.use;simp only[World.size_alloc]at hz1)|(go_at_call 64;refine (tv_Comment s _ _ rfl hbl.2 hs _).mono ?_;rw[HM.out];rintro e w2 ⟨rfl,g2⟩;have g2':=g1'.trans g2;obtain⟨hc2,hf2,hz2⟩:=g2'.use;simp only[World.size_alloc]at hz2)|(go_at_call 44;first|(with_reducible refine (prefix_at s ⟨#[13,10]⟩ m false H1.out _).mono ?_;rintro e w3 ⟨rfl,rfl⟩)|(with_reducible refine (prefix_at s ⟨#[10]⟩ m false H2.out _).mono ?_;rintro e w3 ⟨rfl,rfl⟩)|(with_reducible refine (prefix_at s ⟨#[13]⟩ m false H3.out _).mono ?_;rintro e w3 ⟨rfl,rfl⟩)))
          go_region
          all_goals go_wp2_with fail
          exact bodyPost_ret (v := .tuple #[.int .i64 m,f0]) (by simp[results,Tryz.results81,go_sem,hc2]) rfl (by
           rw[HR.out];refine⟨?_,Gr.auto⟩;rw[←HE.out,HG.out];exact⟨by rw[HN.out],hn⟩)
        have HG:=Lib.hid (G5 h1 h2 h3 hnm);clear G1 G2 G3 G4 G5 h1 h2 h3;have hnm':((m:Int)==n)=false:=by simp;omega
        go_wp2_with (first|(go_at_call 40;refine (tk_Blanks s _ n rfl hn hs _).mono ?_;rintro e w1 ⟨rfl,g1⟩;have g1':=g.trans g1;obtain⟨hc1,hf1,hz1⟩:=g1'.use;simp only[World.size_alloc]at hz1)|(go_at_call 64;refine (tv_Comment s _ _ rfl hbl.2 hs _).mono ?_;rw[HM.out];rintro e w2 ⟨rfl,g2⟩;have g2':=g1'.trans g2;obtain⟨hc2,hf2,hz2⟩:=g2'.use;simp only[World.size_alloc]at hz2)|(go_at_call 44;first|(with_reducible refine (prefix_at s ⟨#[13,10]⟩ m false H1.out _).mono ?_;rintro e w3 ⟨rfl,rfl⟩)|(with_reducible refine (prefix_at s ⟨#[10]⟩ m false H2.out _).mono ?_;rintro e w3 ⟨rfl,rfl⟩)|(with_reducible refine (prefix_at s ⟨#[13]⟩ m false H3.out _).mono ?_;rintro e w3 ⟨rfl,rfl⟩)))
        go_roundw
        case rel=>exact⟨m,rfl,by omega,by rw[←HG.out,HE.out],Gr.auto⟩
        case measure=>simp[intOf];omega
      have H3:=Lib.hid h3;have hsz:=pre_size s m 1 _ h3 rfl (by omega);have HG:=Lib.hid (G3 h1 h2 h3);clear G1 G2 G3 G4 G5 h1 h2 h3;go_wp2_with (first|(go_at_call 40;refine (tk_Blanks s _ n rfl hn hs _).mono ?_;rintro e w1 ⟨rfl,g1⟩;have g1':=g.trans g1;obtain⟨hc1,hf1,hz1⟩:=g1'.use;simp only[World.size_alloc]at hz1)|(go_at_call 64;refine (tv_Comment s _ _ rfl hbl.2 hs _).mono ?_;rw[HM.out];rintro e w2 ⟨rfl,g2⟩;have g2':=g1'.trans g2;obtain⟨hc2,hf2,hz2⟩:=g2'.use;simp only[World.size_alloc]at hz2)|(go_at_call 44;first|(with_reducible refine (prefix_at s ⟨#[13,10]⟩ m false H1.out _).mono ?_;rintro e w3 ⟨rfl,rfl⟩)|(with_reducible refine (prefix_at s ⟨#[10]⟩ m false H2.out _).mono ?_;rintro e w3 ⟨rfl,rfl⟩)|(with_reducible refine (prefix_at s ⟨#[13]⟩ m true H3.out _).mono ?_;rintro e w3 ⟨rfl,rfl⟩))|(go_at_call 24;refine (tv_wrong _ (m+1) (by omega) _).mono ?_;rintro e w4 ⟨rfl,g4⟩;have g4':=g2'.trans g4;obtain⟨hc4,hf4,hz4⟩:=g4'.use;simp only[World.size_alloc]at hz4));exact bodyPost_ret (v := .tuple #[.int .i64 0,fv 3 (m+1)]) (by simp[results,Tryz.results81,go_sem,hc4]) rfl (by
       rw[HR.out];refine⟨?_,Gr.auto⟩;rw[←HE.out,HG.out])
    have H2:=Lib.hid h2;have hsz:=pre_size s m 1 _ h2 rfl (by omega);have HG:=Lib.hid (G2 h1 h2);clear G1 G2 G3 G4 G5 h1 h2;go_wp2_with (first|(go_at_call 40;refine (tk_Blanks s _ n rfl hn hs _).mono ?_;rintro e w1 ⟨rfl,g1⟩;have g1':=g.trans g1;obtain⟨hc1,hf1,hz1⟩:=g1'.use;simp only[World.size_alloc]at hz1)|(go_at_call 64;refine (tv_Comment s _ _ rfl hbl.2 hs _).mono ?_;rw[HM.out];rintro e w2 ⟨rfl,g2⟩;have g2':=g1'.trans g2;obtain⟨hc2,hf2,hz2⟩:=g2'.use;simp only[World.size_alloc]at hz2)|(go_at_call 44;first|(with_reducible refine (prefix_at s ⟨#[13,10]⟩ m false H1.out _).mono ?_;rintro e w3 ⟨rfl,rfl⟩)|(with_reducible refine (prefix_at s ⟨#[10]⟩ m true H2.out _).mono ?_;rintro e w3 ⟨rfl,rfl⟩))|(go_at_call 24;refine (tv_wrong _ (m+1) (by omega) _).mono ?_;rintro e w4 ⟨rfl,g4⟩;have g4':=g2'.trans g4;obtain⟨hc4,hf4,hz4⟩:=g4'.use;simp only[World.size_alloc]at hz4))
    go_roundw
    case rel=>exact⟨m+1,by go_num,by omega,by rw[←HG.out,HE.out],Gr.auto⟩
    case measure=>simp[intOf];omega
  have H1:=Lib.hid h1;have hsz:=pre_size s m 2 _ h1 rfl (by omega);have HG:=Lib.hid (G1 h1);clear G1 G2 G3 G4 G5 h1;go_wp2_with (first|(go_at_call 40;refine (tk_Blanks s _ n rfl hn hs _).mono ?_;rintro e w1 ⟨rfl,g1⟩;have g1':=g.trans g1;obtain⟨hc1,hf1,hz1⟩:=g1'.use;simp only[World.size_alloc]at hz1)|(go_at_call 64;refine (tv_Comment s _ _ rfl hbl.2 hs _).mono ?_;rw[HM.out];rintro e w2 ⟨rfl,g2⟩;have g2':=g1'.trans g2;obtain⟨hc2,hf2,hz2⟩:=g2'.use;simp only[World.size_alloc]at hz2)|(go_at_call 44;first|(with_reducible refine (prefix_at s ⟨#[13,10]⟩ m true H1.out _).mono ?_;rintro e w3 ⟨rfl,rfl⟩)))
  go_roundw
  case rel=>exact⟨m+2,by go_num,by omega,by rw[←HG.out,HE.out],Gr.auto⟩
  case measure=>simp[intOf];omega
end Go.Proofs.YtdgjgcepbkanhaaGreatDoor
