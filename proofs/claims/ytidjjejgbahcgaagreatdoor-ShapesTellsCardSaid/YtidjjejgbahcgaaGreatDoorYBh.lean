/-
  tripwireref10.Behind, part R. Written by wip/gen/bh.py.
-/
import Derived.Test.YtidjjejgbahcgaaGreatDoorYBhA
import Derived.Test.YtidjjejgbahcgaaGreatDoorYBhC
import Derived.Test.YtidjjejgbahcgaaGreatDoorYBhL
import Derived.Test.YtidjjejgbahcgaaGreatDoorYBhP
import Derived.Test.YtidjjejgbahcgaaGreatDoorYBhS
import Derived.Test.YtidjjejgbahcgaaGreatDoorYBhT
import Derived.Test.YtidjjejgbahcgaaGreatDoorYBhU
namespace Go.Proofs.YtidjjejgbahcgaaGreatDoor
open Go.RowKit Tw
theorem behindR_q {w:World} {m:Nat} {y:Ly} {n:Int} (h:LyOk w m y) (hg:Hid (∀v∈y.rows,GV w v.A v.n v.c (prs v.L) 870∧v.n≤1000)) (hm:m≤1900) (hT:Hid (Tab w)) :
  Calls Tryz.prog 25 #[.agg #[.int .u8 y.kind,.slice y.rA y.rn y.rc,.slice y.bA y.bn y.bc,.int .i64 y.ch,.int .i64 y.high,.int .i64 y.wide,.int .i64 y.out,.int .i64 y.kh,.int .i64 y.kw,.int .i64 y.st,.int .i64 y.pad,.slice y.kA y.kn y.kc,.slice y.gA y.gn y.gc],.int .i64 n] w (TB2 w (zAd y n)):=by
 cases hb:y.bias.all fun x=>x.ex
 ·exact behind_bias h hm (zh hb) hT
 ·cases hk:y.kern.all fun x=>x.ex
  ·exact behind_kern h hm (zh hb) (zh hk) hT
  ·have a:=zh hb;have b:=zh hk;by_cases k1:y.kind=1
   ·cases hs:sizB y
    ·exact behind_aff h hg hm a b (zh hs) (zh k1) hT
    ·exact behind_szA h hm a b (zh hs) (zh k1) hT
   ·by_cases k2:y.kind=2
    ·by_cases hc:y.ch=0
     ·exact behind_c0 h hm a b (zh (pic_ch hc)) (zh k1) (zh k2) hT
     ·exact behind_conv h hm a b (zh hc) (zh k1) (zh k2) hT
    ·by_cases k3:y.kind=3
     ·cases hs:sizB y
      ·exact behind_relu h hm a b (zh hs) (zh k1) (zh k2) (zh k3) hT
      ·exact behind_szL h hm a b (zh hs) (zh k1) (zh k2) (zh k3) hT
     ·by_cases k4:y.kind=4
      ·cases hs:sizB y
       ·exact behind_pool h hm a b (zh hs) (zh k1) (zh k2) (zh k3) (zh k4) hT
       ·exact behind_szP h hm a b (zh hs) (zh k1) (zh k2) (zh k3) (zh k4) hT
      ·exact behind_szO h hm a b (zh k1) (zh k2) (zh k3) (zh k4) hT
end Go.Proofs.YtidjjejgbahcgaaGreatDoor
