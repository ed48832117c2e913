import Derived.Test.YteggjbgbknkoiaaGreatDoorURj3
import Derived.Test.YteggjbgbknkoiaaGreatDoorUMx5
namespace Go.Proofs.YteggjbgbknkoiaaGreatDoor
open Go.RowKit Tw
theorem table_small {C:List (List (Int×Rat))} (hC:∀x∈C,Rise x∧∀y∈x,sz y.2≤2) (n:Nat) (i k:Nat) (hi:i<n):sz (tq (tableT C n) i k)≤2:=by
 rw[tableT_get C hi,bA];cases e:C[k]? with
 | none=>exact kA sz_zero zd
 | some c =>
  show sz (pget c (i:Int))≤2
  by_cases h0:pget c (i:Int)=0
  ·rw[h0];exact kA sz_zero zd
  ·obtain⟨t,ht,e2⟩:=pget_mem h0;have h1:=hC c (dA e);rw[←e2,h1.1.get ht];exact h1.2 t ht
theorem TRs.ok {w:World} {H:Value} {M:Nat} {V:List Fw} (h:TRs w H M V):∀v∈V,FOk w v M:=fun v hv=>(h v hv).1
end Go.Proofs.YteggjbgbknkoiaaGreatDoor
