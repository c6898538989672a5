/- The proof's part 14. -/
import Derived.Test.YtnkgknbdaiakgaaGreatDoorQ12
set_option maxHeartbeats 16000000
set_option linter.all false
namespace Go.Proofs.YtnkgknbdaiakgaaGreatDoor
open Pl 
namespace Pl
def V17(T:Nat->Option Bs)(Q:Bs->Bs):List Bs->List Nat->Option Bs
 |_,[]=>some []
 | ks,i::r=>match T i,V17 T Q ks.tail r with
  |some t,some u=>some ((match ks with|[]=>[]|k::_=>Q k)++(40::(t++(41::u))))
  |_,_=>none
def V28(Q:Bs->Bs)(nds:Vc):Nat->Nat->Option Bs
 |0,_=>none
 | f+1,i=>match nds[i]? with
  |none=>some []
  | some nd=>match V17 (V28 Q nds f) Q nd.keys nd.subs with
   |some u=>some (Lib.itoa (nd.kind:Int)++(Q nd.text++u))
   |none=>none
theorem V6z{T:Nat->Option Bs}{Q:Bs->Bs}{ks:List Bs}{js:List Nat}{m:Nat}{us:Bs}(hm:m<js.length)(h:V17 T Q (ks.drop m) (js.drop m)=some us) :
    ∃a b,T js[m]=some a/\V17 T Q (ks.drop (m+1)) (js.drop (m+1))=some b/\us=(match ks[m]? with|none=>[]|some k=>Q k)++(40::(a++(41::b))):=by
 rw[U1u hm]at h;unfold V17 at h;rw[List.tail_drop]at h;cases ha:T js[m] with
 |none=>rw[ha]at h;cases h
 |some a =>
  cases hb:V17 T Q (ks.drop (m+1)) (js.drop (m+1)) with
  |none=>rw[ha,hb]at h;cases h
  |some b =>
   rw[ha,hb]at h;refine⟨a,b,rfl,rfl,?_⟩;simp only[U1f]at h;rw[<-h];by_cases hk:m<ks.length;rw[U1u hk,U1e hk]
   rw[U1t Ya,U2g Ya]
def tidy(nds:Vc):Bool:=nds.all λ nd=>decide (nd.kind<=255)&&decide (nd.text.length<=1000000)&&(nd.keys.all λ k=>decide (k.length<=1000000))&&decide (nd.subs.length<=1000000)&&nd.subs.all λ u=>decide (u<=1000000)
