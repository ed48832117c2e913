/-
  Terms and numbers that came in, small ones. By hand.
-/
import Derived.Test.YtidjjejgbahcgaaGreatDoorYVm
import Derived.Test.YtidjjejgbahcgaaGreatDoorYRdV
namespace Go.Proofs.YtidjjejgbahcgaaGreatDoor
open Go.RowKit Tw
theorem wsum_len {L:List Tm} {m:Nat} (h:∀t∈L,dgT t≤m) (a:Int):wsum L a≤(m+2)*L.length:=by
 induction L with
 | nil=>exact Nat.le_refl _
 | cons x L ih =>
  have h1:=ih fun t ht=>h t (List.mem_cons_of_mem _ ht);have h2:=h x List.mem_cons_self;simp only[wsum,List.length_cons]
  rw[Nat.mul_add,Nat.mul_one];split<;>omega
theorem gv_small {w:World} {A:Option Addr} {n c cnt most:Nat} {L:List Tm} (h:Sl Tm.cs 5 w A n c L) (hi:∀t∈L,TmIn w t) (hc:A=none→c=0) (hs:shortVc (cnt:Int) (most:Int) ⟨A,n,c,L⟩=true):GV w A n c (prs L) ((most+2)*cnt)∧n≤cnt:=by
 unfold shortVc at hs
 simp only[Bool.and_eq_true,decide_eq_true_eq,List.all_eq_true] at hs
 have hd:∀t∈L,dgT t≤most:=fun t ht=>by
  have:=hs.2 t ht;unfold shortFr at this
  simp only[Bool.and_eq_true,decide_eq_true_eq] at this
  unfold dgT
  omega
 refine⟨⟨L,h,fun t ht=>(hi t ht).1.2.2 (dgT t) (by unfold dgT;omega) (by unfold dgT;omega),rfl,fun a=>Nat.le_trans (wsum_len hd a) (Nat.mul_le_mul_left _ (zi h.1)),hc⟩,zo⟩
end Go.Proofs.YtidjjejgbahcgaaGreatDoor
