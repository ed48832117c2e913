/-
  ShapesNumbers: the fixed examples of the chapter come out as written, each thing that does not fit is refused, and the limits hold: the law answers true. No condition. Written by wip/gen/snc.py.
-/
import Derived.Test.YtfgbiccpecldfaaDoorYSn1
set_option maxHeartbeats 64000000
set_option maxRecDepth 100000
namespace Go.Proofs.YtfgbiccpecldfaaDoor
open Go.RowKit Tw
def SN17 (w:World) (v0 v1 v2 gk:Nat) (s:Value) (wr:World):Prop:=∃i:Nat,i≤17∧17-i=gk∧s=.int .i64 (i:Int)∧Bx wr v2 #[.bool false,.slice (some ⟨v0,0,none⟩) 1 1,.bool false,.slice (some ⟨v1,0,none⟩) 1 1] 27∧FrOk wr 1 (rawFr v0 v1)∧Below w.heap.size w wr
theorem st5_4_1 {w:World} {b:Nat} {t:TypeId} {u0 u1 u2 u3 u4:Value} (v4:Value) (h0:Bx w b #[u0,u1,u2,u3,u4] t) (n4:∀n,u4≠.int .u64 n) :
  ∃W,W=w.setCell ⟨b,4,none⟩ v4∧Bx W b #[u0,u1,u2,u3,v4] t∧K64 w W∧(∀b' cs t',b'≠b→Bx w b' cs t'→Bx W b' cs t')∧(∀B w0,B≤b→Below B w0 w→Below B w0 W):=by
 have h5:Bx (w.setCell ⟨b,4,none⟩ v4) b #[u0,u1,u2,u3,v4] t:=h0.set 4 v4
 have k4:K64 (w) (w.setCell ⟨b,4,none⟩ v4):=K64.box h0 (i:=4) rfl n4 v4
 exact⟨_,rfl,h5,k4,fun b' cs t' hb hx=>(hx.far hb v4),fun B w0 hB hb=>(hb.setCell hB v4)⟩
theorem st13_0_1 {w:World} {b:Nat} {t:TypeId} {u0 u1 u2 u3 u4 u5 u6 u7 u8 u9 u10 u11 u12:Value} (v0:Value) (h0:Bx w b #[u0,u1,u2,u3,u4,u5,u6,u7,u8,u9,u10,u11,u12] t) (n0:∀n,u0≠.int .u64 n) :
  ∃W,W=w.setCell ⟨b,0,none⟩ v0∧Bx W b #[v0,u1,u2,u3,u4,u5,u6,u7,u8,u9,u10,u11,u12] t∧K64 w W∧(∀b' cs t',b'≠b→Bx w b' cs t'→Bx W b' cs t')∧(∀B w0,B≤b→Below B w0 w→Below B w0 W):=by
 have h1:Bx (w.setCell ⟨b,0,none⟩ v0) b #[v0,u1,u2,u3,u4,u5,u6,u7,u8,u9,u10,u11,u12] t:=h0.set 0 v0
 have k0:K64 (w) (w.setCell ⟨b,0,none⟩ v0):=K64.box h0 (i:=0) rfl n0 v0
 exact⟨_,rfl,h1,k0,fun b' cs t' hb hx=>(hx.far hb v0),fun B w0 hB hb=>(hb.setCell hB v0)⟩
theorem st13_0_13 {w:World} {b:Nat} {t:TypeId} {u0 u1 u2 u3 u4 u5 u6 u7 u8 u9 u10 u11 u12:Value} (v0 v1 v2 v3 v4 v5 v6 v7 v8 v9 v10 v11 v12:Value) (h0:Bx w b #[u0,u1,u2,u3,u4,u5,u6,u7,u8,u9,u10,u11,u12] t) (n0:∀n,u0≠.int .u64 n) (n1:∀n,u1≠.int .u64 n) (n2:∀n,u2≠.int .u64 n) (n3:∀n,u3≠.int .u64 n) (n4:∀n,u4≠.int .u64 n) (n5:∀n,u5≠.int .u64 n) (n6:∀n,u6≠.int .u64 n) (n7:∀n,u7≠.int .u64 n) (n8:∀n,u8≠.int .u64 n) (n9:∀n,u9≠.int .u64 n) (n10:∀n,u10≠.int .u64 n) (n11:∀n,u11≠.int .u64 n) (n12:∀n,u12≠.int .u64 n) :
  ∃W,W=((((((((((((w.setCell ⟨b,0,none⟩ v0).setCell ⟨b,1,none⟩ v1).setCell ⟨b,2,none⟩ v2).setCell ⟨b,3,none⟩ v3).setCell ⟨b,4,none⟩ v4).setCell ⟨b,5,none⟩ v5).setCell ⟨b,6,none⟩ v6).setCell ⟨b,7,none⟩ v7).setCell ⟨b,8,none⟩ v8).setCell ⟨b,9,none⟩ v9).setCell ⟨b,10,none⟩ v10).setCell ⟨b,11,none⟩ v11).setCell ⟨b,12,none⟩ v12∧Bx W b #[v0,v1,v2,v3,v4,v5,v6,v7,v8,v9,v10,v11,v12] t∧K64 w W∧(∀b' cs t',b'≠b→Bx w b' cs t'→Bx W b' cs t')∧(∀B w0,B≤b→Below B w0 w→Below B w0 W):=by
 have h1:Bx (w.setCell ⟨b,0,none⟩ v0) b #[v0,u1,u2,u3,u4,u5,u6,u7,u8,u9,u10,u11,u12] t:=h0.set 0 v0
 have k0:K64 (w) (w.setCell ⟨b,0,none⟩ v0):=K64.box h0 (i:=0) rfl n0 v0
 have h2:Bx ((w.setCell ⟨b,0,none⟩ v0).setCell ⟨b,1,none⟩ v1) b #[v0,v1,u2,u3,u4,u5,u6,u7,u8,u9,u10,u11,u12] t:=h1.set 1 v1
 have k1:K64 (w.setCell ⟨b,0,none⟩ v0) ((w.setCell ⟨b,0,none⟩ v0).setCell ⟨b,1,none⟩ v1):=K64.box h1 (i:=1) rfl n1 v1
 have h3:Bx (((w.setCell ⟨b,0,none⟩ v0).setCell ⟨b,1,none⟩ v1).setCell ⟨b,2,none⟩ v2) b #[v0,v1,v2,u3,u4,u5,u6,u7,u8,u9,u10,u11,u12] t:=h2.set 2 v2
 have k2:K64 ((w.setCell ⟨b,0,none⟩ v0).setCell ⟨b,1,none⟩ v1) (((w.setCell ⟨b,0,none⟩ v0).setCell ⟨b,1,none⟩ v1).setCell ⟨b,2,none⟩ v2):=K64.box h2 (i:=2) rfl n2 v2
 have h4:Bx ((((w.setCell ⟨b,0,none⟩ v0).setCell ⟨b,1,none⟩ v1).setCell ⟨b,2,none⟩ v2).setCell ⟨b,3,none⟩ v3) b #[v0,v1,v2,v3,u4,u5,u6,u7,u8,u9,u10,u11,u12] t:=h3.set 3 v3
 have k3:K64 (((w.setCell ⟨b,0,none⟩ v0).setCell ⟨b,1,none⟩ v1).setCell ⟨b,2,none⟩ v2) ((((w.setCell ⟨b,0,none⟩ v0).setCell ⟨b,1,none⟩ v1).setCell ⟨b,2,none⟩ v2).setCell ⟨b,3,none⟩ v3):=K64.box h3 (i:=3) rfl n3 v3
 have h5:Bx (((((w.setCell ⟨b,0,none⟩ v0).setCell ⟨b,1,none⟩ v1).setCell ⟨b,2,none⟩ v2).setCell ⟨b,3,none⟩ v3).setCell ⟨b,4,none⟩ v4) b #[v0,v1,v2,v3,v4,u5,u6,u7,u8,u9,u10,u11,u12] t:=h4.set 4 v4
 have k4:K64 ((((w.setCell ⟨b,0,none⟩ v0).setCell ⟨b,1,none⟩ v1).setCell ⟨b,2,none⟩ v2).setCell ⟨b,3,none⟩ v3) (((((w.setCell ⟨b,0,none⟩ v0).setCell ⟨b,1,none⟩ v1).setCell ⟨b,2,none⟩ v2).setCell ⟨b,3,none⟩ v3).setCell ⟨b,4,none⟩ v4):=K64.box h4 (i:=4) rfl n4 v4
 have h6:Bx ((((((w.setCell ⟨b,0,none⟩ v0).setCell ⟨b,1,none⟩ v1).setCell ⟨b,2,none⟩ v2).setCell ⟨b,3,none⟩ v3).setCell ⟨b,4,none⟩ v4).setCell ⟨b,5,none⟩ v5) b #[v0,v1,v2,v3,v4,v5,u6,u7,u8,u9,u10,u11,u12] t:=h5.set 5 v5
 have k5:K64 (((((w.setCell ⟨b,0,none⟩ v0).setCell ⟨b,1,none⟩ v1).setCell ⟨b,2,none⟩ v2).setCell ⟨b,3,none⟩ v3).setCell ⟨b,4,none⟩ v4) ((((((w.setCell ⟨b,0,none⟩ v0).setCell ⟨b,1,none⟩ v1).setCell ⟨b,2,none⟩ v2).setCell ⟨b,3,none⟩ v3).setCell ⟨b,4,none⟩ v4).setCell ⟨b,5,none⟩ v5):=K64.box h5 (i:=5) rfl n5 v5
 have h7:Bx (((((((w.setCell ⟨b,0,none⟩ v0).setCell ⟨b,1,none⟩ v1).setCell ⟨b,2,none⟩ v2).setCell ⟨b,3,none⟩ v3).setCell ⟨b,4,none⟩ v4).setCell ⟨b,5,none⟩ v5).setCell ⟨b,6,none⟩ v6) b #[v0,v1,v2,v3,v4,v5,v6,u7,u8,u9,u10,u11,u12] t:=h6.set 6 v6
 have k6:K64 ((((((w.setCell ⟨b,0,none⟩ v0).setCell ⟨b,1,none⟩ v1).setCell ⟨b,2,none⟩ v2).setCell ⟨b,3,none⟩ v3).setCell ⟨b,4,none⟩ v4).setCell ⟨b,5,none⟩ v5) (((((((w.setCell ⟨b,0,none⟩ v0).setCell ⟨b,1,none⟩ v1).setCell ⟨b,2,none⟩ v2).setCell ⟨b,3,none⟩ v3).setCell ⟨b,4,none⟩ v4).setCell ⟨b,5,none⟩ v5).setCell ⟨b,6,none⟩ v6):=K64.box h6 (i:=6) rfl n6 v6
 have h8:Bx ((((((((w.setCell ⟨b,0,none⟩ v0).setCell ⟨b,1,none⟩ v1).setCell ⟨b,2,none⟩ v2).setCell ⟨b,3,none⟩ v3).setCell ⟨b,4,none⟩ v4).setCell ⟨b,5,none⟩ v5).setCell ⟨b,6,none⟩ v6).setCell ⟨b,7,none⟩ v7) b #[v0,v1,v2,v3,v4,v5,v6,v7,u8,u9,u10,u11,u12] t:=h7.set 7 v7
 have k7:K64 (((((((w.setCell ⟨b,0,none⟩ v0).setCell ⟨b,1,none⟩ v1).setCell ⟨b,2,none⟩ v2).setCell ⟨b,3,none⟩ v3).setCell ⟨b,4,none⟩ v4).setCell ⟨b,5,none⟩ v5).setCell ⟨b,6,none⟩ v6) ((((((((w.setCell ⟨b,0,none⟩ v0).setCell ⟨b,1,none⟩ v1).setCell ⟨b,2,none⟩ v2).setCell ⟨b,3,none⟩ v3).setCell ⟨b,4,none⟩ v4).setCell ⟨b,5,none⟩ v5).setCell ⟨b,6,none⟩ v6).setCell ⟨b,7,none⟩ v7):=K64.box h7 (i:=7) rfl n7 v7
 have h9:Bx (((((((((w.setCell ⟨b,0,none⟩ v0).setCell ⟨b,1,none⟩ v1).setCell ⟨b,2,none⟩ v2).setCell ⟨b,3,none⟩ v3).setCell ⟨b,4,none⟩ v4).setCell ⟨b,5,none⟩ v5).setCell ⟨b,6,none⟩ v6).setCell ⟨b,7,none⟩ v7).setCell ⟨b,8,none⟩ v8) b #[v0,v1,v2,v3,v4,v5,v6,v7,v8,u9,u10,u11,u12] t:=h8.set 8 v8
 have k8:K64 ((((((((w.setCell ⟨b,0,none⟩ v0).setCell ⟨b,1,none⟩ v1).setCell ⟨b,2,none⟩ v2).setCell ⟨b,3,none⟩ v3).setCell ⟨b,4,none⟩ v4).setCell ⟨b,5,none⟩ v5).setCell ⟨b,6,none⟩ v6).setCell ⟨b,7,none⟩ v7) (((((((((w.setCell ⟨b,0,none⟩ v0).setCell ⟨b,1,none⟩ v1).setCell ⟨b,2,none⟩ v2).setCell ⟨b,3,none⟩ v3).setCell ⟨b,4,none⟩ v4).setCell ⟨b,5,none⟩ v5).setCell ⟨b,6,none⟩ v6).setCell ⟨b,7,none⟩ v7).setCell ⟨b,8,none⟩ v8):=K64.box h8 (i:=8) rfl n8 v8
 have h10:Bx ((((((((((w.setCell ⟨b,0,none⟩ v0).setCell ⟨b,1,none⟩ v1).setCell ⟨b,2,none⟩ v2).setCell ⟨b,3,none⟩ v3).setCell ⟨b,4,none⟩ v4).setCell ⟨b,5,none⟩ v5).setCell ⟨b,6,none⟩ v6).setCell ⟨b,7,none⟩ v7).setCell ⟨b,8,none⟩ v8).setCell ⟨b,9,none⟩ v9) b #[v0,v1,v2,v3,v4,v5,v6,v7,v8,v9,u10,u11,u12] t:=h9.set 9 v9
 have k9:K64 (((((((((w.setCell ⟨b,0,none⟩ v0).setCell ⟨b,1,none⟩ v1).setCell ⟨b,2,none⟩ v2).setCell ⟨b,3,none⟩ v3).setCell ⟨b,4,none⟩ v4).setCell ⟨b,5,none⟩ v5).setCell ⟨b,6,none⟩ v6).setCell ⟨b,7,none⟩ v7).setCell ⟨b,8,none⟩ v8) ((((((((((w.setCell ⟨b,0,none⟩ v0).setCell ⟨b,1,none⟩ v1).setCell ⟨b,2,none⟩ v2).setCell ⟨b,3,none⟩ v3).setCell ⟨b,4,none⟩ v4).setCell ⟨b,5,none⟩ v5).setCell ⟨b,6,none⟩ v6).setCell ⟨b,7,none⟩ v7).setCell ⟨b,8,none⟩ v8).setCell ⟨b,9,none⟩ v9):=K64.box h9 (i:=9) rfl n9 v9
 have h11:Bx (((((((((((w.setCell ⟨b,0,none⟩ v0).setCell ⟨b,1,none⟩ v1).setCell ⟨b,2,none⟩ v2).setCell ⟨b,3,none⟩ v3).setCell ⟨b,4,none⟩ v4).setCell ⟨b,5,none⟩ v5).setCell ⟨b,6,none⟩ v6).setCell ⟨b,7,none⟩ v7).setCell ⟨b,8,none⟩ v8).setCell ⟨b,9,none⟩ v9).setCell ⟨b,10,none⟩ v10) b #[v0,v1,v2,v3,v4,v5,v6,v7,v8,v9,v10,u11,u12] t:=h10.set 10 v10
 have k10:K64 ((((((((((w.setCell ⟨b,0,none⟩ v0).setCell ⟨b,1,none⟩ v1).setCell ⟨b,2,none⟩ v2).setCell ⟨b,3,none⟩ v3).setCell ⟨b,4,none⟩ v4).setCell ⟨b,5,none⟩ v5).setCell ⟨b,6,none⟩ v6).setCell ⟨b,7,none⟩ v7).setCell ⟨b,8,none⟩ v8).setCell ⟨b,9,none⟩ v9) (((((((((((w.setCell ⟨b,0,none⟩ v0).setCell ⟨b,1,none⟩ v1).setCell ⟨b,2,none⟩ v2).setCell ⟨b,3,none⟩ v3).setCell ⟨b,4,none⟩ v4).setCell ⟨b,5,none⟩ v5).setCell ⟨b,6,none⟩ v6).setCell ⟨b,7,none⟩ v7).setCell ⟨b,8,none⟩ v8).setCell ⟨b,9,none⟩ v9).setCell ⟨b,10,none⟩ v10):=K64.box h10 (i:=10) rfl n10 v10
 have h12:Bx ((((((((((((w.setCell ⟨b,0,none⟩ v0).setCell ⟨b,1,none⟩ v1).setCell ⟨b,2,none⟩ v2).setCell ⟨b,3,none⟩ v3).setCell ⟨b,4,none⟩ v4).setCell ⟨b,5,none⟩ v5).setCell ⟨b,6,none⟩ v6).setCell ⟨b,7,none⟩ v7).setCell ⟨b,8,none⟩ v8).setCell ⟨b,9,none⟩ v9).setCell ⟨b,10,none⟩ v10).setCell ⟨b,11,none⟩ v11) b #[v0,v1,v2,v3,v4,v5,v6,v7,v8,v9,v10,v11,u12] t:=h11.set 11 v11
 have k11:K64 (((((((((((w.setCell ⟨b,0,none⟩ v0).setCell ⟨b,1,none⟩ v1).setCell ⟨b,2,none⟩ v2).setCell ⟨b,3,none⟩ v3).setCell ⟨b,4,none⟩ v4).setCell ⟨b,5,none⟩ v5).setCell ⟨b,6,none⟩ v6).setCell ⟨b,7,none⟩ v7).setCell ⟨b,8,none⟩ v8).setCell ⟨b,9,none⟩ v9).setCell ⟨b,10,none⟩ v10) ((((((((((((w.setCell ⟨b,0,none⟩ v0).setCell ⟨b,1,none⟩ v1).setCell ⟨b,2,none⟩ v2).setCell ⟨b,3,none⟩ v3).setCell ⟨b,4,none⟩ v4).setCell ⟨b,5,none⟩ v5).setCell ⟨b,6,none⟩ v6).setCell ⟨b,7,none⟩ v7).setCell ⟨b,8,none⟩ v8).setCell ⟨b,9,none⟩ v9).setCell ⟨b,10,none⟩ v10).setCell ⟨b,11,none⟩ v11):=K64.box h11 (i:=11) rfl n11 v11
 have h13:Bx (((((((((((((w.setCell ⟨b,0,none⟩ v0).setCell ⟨b,1,none⟩ v1).setCell ⟨b,2,none⟩ v2).setCell ⟨b,3,none⟩ v3).setCell ⟨b,4,none⟩ v4).setCell ⟨b,5,none⟩ v5).setCell ⟨b,6,none⟩ v6).setCell ⟨b,7,none⟩ v7).setCell ⟨b,8,none⟩ v8).setCell ⟨b,9,none⟩ v9).setCell ⟨b,10,none⟩ v10).setCell ⟨b,11,none⟩ v11).setCell ⟨b,12,none⟩ v12) b #[v0,v1,v2,v3,v4,v5,v6,v7,v8,v9,v10,v11,v12] t:=h12.set 12 v12
 have k12:K64 ((((((((((((w.setCell ⟨b,0,none⟩ v0).setCell ⟨b,1,none⟩ v1).setCell ⟨b,2,none⟩ v2).setCell ⟨b,3,none⟩ v3).setCell ⟨b,4,none⟩ v4).setCell ⟨b,5,none⟩ v5).setCell ⟨b,6,none⟩ v6).setCell ⟨b,7,none⟩ v7).setCell ⟨b,8,none⟩ v8).setCell ⟨b,9,none⟩ v9).setCell ⟨b,10,none⟩ v10).setCell ⟨b,11,none⟩ v11) (((((((((((((w.setCell ⟨b,0,none⟩ v0).setCell ⟨b,1,none⟩ v1).setCell ⟨b,2,none⟩ v2).setCell ⟨b,3,none⟩ v3).setCell ⟨b,4,none⟩ v4).setCell ⟨b,5,none⟩ v5).setCell ⟨b,6,none⟩ v6).setCell ⟨b,7,none⟩ v7).setCell ⟨b,8,none⟩ v8).setCell ⟨b,9,none⟩ v9).setCell ⟨b,10,none⟩ v10).setCell ⟨b,11,none⟩ v11).setCell ⟨b,12,none⟩ v12):=K64.box h12 (i:=12) rfl n12 v12
 exact⟨_,rfl,h13,((((((((((((k0.trans k1).trans k2).trans k3).trans k4).trans k5).trans k6).trans k7).trans k8).trans k9).trans k10).trans k11).trans k12),fun b' cs t' hb hx=>(((((((((((((hx.far hb v0).far hb v1).far hb v2).far hb v3).far hb v4).far hb v5).far hb v6).far hb v7).far hb v8).far hb v9).far hb v10).far hb v11).far hb v12),fun B w0 hB hb=>(((((((((((((hb.setCell hB v0).setCell hB v1).setCell hB v2).setCell hB v3).setCell hB v4).setCell hB v5).setCell hB v6).setCell hB v7).setCell hB v8).setCell hB v9).setCell hB v10).setCell hB v11).setCell hB v12)⟩
theorem st13_3_1 {w:World} {b:Nat} {t:TypeId} {u0 u1 u2 u3 u4 u5 u6 u7 u8 u9 u10 u11 u12:Value} (v3:Value) (h0:Bx w b #[u0,u1,u2,u3,u4,u5,u6,u7,u8,u9,u10,u11,u12] t) (n3:∀n,u3≠.int .u64 n) :
  ∃W,W=w.setCell ⟨b,3,none⟩ v3∧Bx W b #[u0,u1,u2,v3,u4,u5,u6,u7,u8,u9,u10,u11,u12] t∧K64 w W∧(∀b' cs t',b'≠b→Bx w b' cs t'→Bx W b' cs t')∧(∀B w0,B≤b→Below B w0 w→Below B w0 W):=by
 have h4:Bx (w.setCell ⟨b,3,none⟩ v3) b #[u0,u1,u2,v3,u4,u5,u6,u7,u8,u9,u10,u11,u12] t:=h0.set 3 v3
 have k3:K64 (w) (w.setCell ⟨b,3,none⟩ v3):=K64.box h0 (i:=3) rfl n3 v3
 exact⟨_,rfl,h4,k3,fun b' cs t' hb hx=>(hx.far hb v3),fun B w0 hB hb=>(hb.setCell hB v3)⟩
theorem st13_7_1 {w:World} {b:Nat} {t:TypeId} {u0 u1 u2 u3 u4 u5 u6 u7 u8 u9 u10 u11 u12:Value} (v7:Value) (h0:Bx w b #[u0,u1,u2,u3,u4,u5,u6,u7,u8,u9,u10,u11,u12] t) (n7:∀n,u7≠.int .u64 n) :
  ∃W,W=w.setCell ⟨b,7,none⟩ v7∧Bx W b #[u0,u1,u2,u3,u4,u5,u6,v7,u8,u9,u10,u11,u12] t∧K64 w W∧(∀b' cs t',b'≠b→Bx w b' cs t'→Bx W b' cs t')∧(∀B w0,B≤b→Below B w0 w→Below B w0 W):=by
 have h8:Bx (w.setCell ⟨b,7,none⟩ v7) b #[u0,u1,u2,u3,u4,u5,u6,v7,u8,u9,u10,u11,u12] t:=h0.set 7 v7
 have k7:K64 (w) (w.setCell ⟨b,7,none⟩ v7):=K64.box h0 (i:=7) rfl n7 v7
 exact⟨_,rfl,h8,k7,fun b' cs t' hb hx=>(hx.far hb v7),fun B w0 hB hb=>(hb.setCell hB v7)⟩
theorem st13_9_1 {w:World} {b:Nat} {t:TypeId} {u0 u1 u2 u3 u4 u5 u6 u7 u8 u9 u10 u11 u12:Value} (v9:Value) (h0:Bx w b #[u0,u1,u2,u3,u4,u5,u6,u7,u8,u9,u10,u11,u12] t) (n9:∀n,u9≠.int .u64 n) :
  ∃W,W=w.setCell ⟨b,9,none⟩ v9∧Bx W b #[u0,u1,u2,u3,u4,u5,u6,u7,u8,v9,u10,u11,u12] t∧K64 w W∧(∀b' cs t',b'≠b→Bx w b' cs t'→Bx W b' cs t')∧(∀B w0,B≤b→Below B w0 w→Below B w0 W):=by
 have h10:Bx (w.setCell ⟨b,9,none⟩ v9) b #[u0,u1,u2,u3,u4,u5,u6,u7,u8,v9,u10,u11,u12] t:=h0.set 9 v9
 have k9:K64 (w) (w.setCell ⟨b,9,none⟩ v9):=K64.box h0 (i:=9) rfl n9 v9
 exact⟨_,rfl,h10,k9,fun b' cs t' hb hx=>(hx.far hb v9),fun B w0 hB hb=>(hb.setCell hB v9)⟩
theorem st13_10_1 {w:World} {b:Nat} {t:TypeId} {u0 u1 u2 u3 u4 u5 u6 u7 u8 u9 u10 u11 u12:Value} (v10:Value) (h0:Bx w b #[u0,u1,u2,u3,u4,u5,u6,u7,u8,u9,u10,u11,u12] t) (n10:∀n,u10≠.int .u64 n) :
  ∃W,W=w.setCell ⟨b,10,none⟩ v10∧Bx W b #[u0,u1,u2,u3,u4,u5,u6,u7,u8,u9,v10,u11,u12] t∧K64 w W∧(∀b' cs t',b'≠b→Bx w b' cs t'→Bx W b' cs t')∧(∀B w0,B≤b→Below B w0 w→Below B w0 W):=by
 have h11:Bx (w.setCell ⟨b,10,none⟩ v10) b #[u0,u1,u2,u3,u4,u5,u6,u7,u8,u9,v10,u11,u12] t:=h0.set 10 v10
 have k10:K64 (w) (w.setCell ⟨b,10,none⟩ v10):=K64.box h0 (i:=10) rfl n10 v10
 exact⟨_,rfl,h11,k10,fun b' cs t' hb hx=>(hx.far hb v10),fun B w0 hB hb=>(hb.setCell hB v10)⟩
theorem st13_11_1 {w:World} {b:Nat} {t:TypeId} {u0 u1 u2 u3 u4 u5 u6 u7 u8 u9 u10 u11 u12:Value} (v11:Value) (h0:Bx w b #[u0,u1,u2,u3,u4,u5,u6,u7,u8,u9,u10,u11,u12] t) (n11:∀n,u11≠.int .u64 n) :
  ∃W,W=w.setCell ⟨b,11,none⟩ v11∧Bx W b #[u0,u1,u2,u3,u4,u5,u6,u7,u8,u9,u10,v11,u12] t∧K64 w W∧(∀b' cs t',b'≠b→Bx w b' cs t'→Bx W b' cs t')∧(∀B w0,B≤b→Below B w0 w→Below B w0 W):=by
 have h12:Bx (w.setCell ⟨b,11,none⟩ v11) b #[u0,u1,u2,u3,u4,u5,u6,u7,u8,u9,u10,v11,u12] t:=h0.set 11 v11
 have k11:K64 (w) (w.setCell ⟨b,11,none⟩ v11):=K64.box h0 (i:=11) rfl n11 v11
 exact⟨_,rfl,h12,k11,fun b' cs t' hb hx=>(hx.far hb v11),fun B w0 hB hb=>(hb.setCell hB v11)⟩
theorem st16_0_4 {w:World} {b:Nat} {t:TypeId} {u0 u1 u2 u3 u4 u5 u6 u7 u8 u9 u10 u11 u12 u13 u14 u15:Value} (v0 v1 v2 v3:Value) (h0:Bx w b #[u0,u1,u2,u3,u4,u5,u6,u7,u8,u9,u10,u11,u12,u13,u14,u15] t) (n0:∀n,u0≠.int .u64 n) (n1:∀n,u1≠.int .u64 n) (n2:∀n,u2≠.int .u64 n) (n3:∀n,u3≠.int .u64 n) :
  ∃W,W=(((w.setCell ⟨b,0,none⟩ v0).setCell ⟨b,1,none⟩ v1).setCell ⟨b,2,none⟩ v2).setCell ⟨b,3,none⟩ v3∧Bx W b #[v0,v1,v2,v3,u4,u5,u6,u7,u8,u9,u10,u11,u12,u13,u14,u15] t∧K64 w W∧(∀b' cs t',b'≠b→Bx w b' cs t'→Bx W b' cs t')∧(∀B w0,B≤b→Below B w0 w→Below B w0 W):=by
 have h1:Bx (w.setCell ⟨b,0,none⟩ v0) b #[v0,u1,u2,u3,u4,u5,u6,u7,u8,u9,u10,u11,u12,u13,u14,u15] t:=h0.set 0 v0
 have k0:K64 (w) (w.setCell ⟨b,0,none⟩ v0):=K64.box h0 (i:=0) rfl n0 v0
 have h2:Bx ((w.setCell ⟨b,0,none⟩ v0).setCell ⟨b,1,none⟩ v1) b #[v0,v1,u2,u3,u4,u5,u6,u7,u8,u9,u10,u11,u12,u13,u14,u15] t:=h1.set 1 v1
 have k1:K64 (w.setCell ⟨b,0,none⟩ v0) ((w.setCell ⟨b,0,none⟩ v0).setCell ⟨b,1,none⟩ v1):=K64.box h1 (i:=1) rfl n1 v1
 have h3:Bx (((w.setCell ⟨b,0,none⟩ v0).setCell ⟨b,1,none⟩ v1).setCell ⟨b,2,none⟩ v2) b #[v0,v1,v2,u3,u4,u5,u6,u7,u8,u9,u10,u11,u12,u13,u14,u15] t:=h2.set 2 v2
 have k2:K64 ((w.setCell ⟨b,0,none⟩ v0).setCell ⟨b,1,none⟩ v1) (((w.setCell ⟨b,0,none⟩ v0).setCell ⟨b,1,none⟩ v1).setCell ⟨b,2,none⟩ v2):=K64.box h2 (i:=2) rfl n2 v2
 have h4:Bx ((((w.setCell ⟨b,0,none⟩ v0).setCell ⟨b,1,none⟩ v1).setCell ⟨b,2,none⟩ v2).setCell ⟨b,3,none⟩ v3) b #[v0,v1,v2,v3,u4,u5,u6,u7,u8,u9,u10,u11,u12,u13,u14,u15] t:=h3.set 3 v3
 have k3:K64 (((w.setCell ⟨b,0,none⟩ v0).setCell ⟨b,1,none⟩ v1).setCell ⟨b,2,none⟩ v2) ((((w.setCell ⟨b,0,none⟩ v0).setCell ⟨b,1,none⟩ v1).setCell ⟨b,2,none⟩ v2).setCell ⟨b,3,none⟩ v3):=K64.box h3 (i:=3) rfl n3 v3
 exact⟨_,rfl,h4,(((k0.trans k1).trans k2).trans k3),fun b' cs t' hb hx=>((((hx.far hb v0).far hb v1).far hb v2).far hb v3),fun B w0 hB hb=>((((hb.setCell hB v0).setCell hB v1).setCell hB v2).setCell hB v3)⟩
theorem numbers10_q {w : World} (hT : Hid (Tab w)) : Calls Tryd.prog 3 #[] w fun e w' => e = .returned (.bool true) ∧ Below w.heap.size w w' := by
  have hB := Below.refl w.heap.size w
  have Bz := Below.refl w.heap.size w
  go_enter Tryd.func3, Tryd.ntmps3
  go_upto_region 2 with (fail)
  obtain ⟨V1, hW, x0, hN⟩ := zAb w #[.int .u64 2] 22
  have hs0 : V1.heap.size = w.heap.size + 1 := by rw [hW]; simp
  rw [← hW]
  clear hW
  obtain ⟨v0, hb0⟩ : ∃ b, b = w.heap.size := ⟨_, rfl⟩
  rw [← hb0] at x0 hs0 ⊢
  have ow_0 : w.heap.size ≤ v0 := by have := hB.size; have := Bz.size; omega
  replace hB := zAa (zAa hB Bz) hN
  have HX0 := zh x0
  clear x0 hN Bz hb0
  have Bz := Below.refl V1.heap.size V1
  obtain ⟨V2, hW, x1, hN⟩ := zAb V1 #[.int .u64 4] 22
  have hs1 : V2.heap.size = V1.heap.size + 1 := by rw [hW]; simp
  rw [← hW]
  clear hW
  rw [hs0] at x1 hs1
  obtain ⟨v1, hb1⟩ : ∃ b, b = v0 + 1 := ⟨_, rfl⟩
  rw [← hb1] at x1 hs1  ⊢
  have o0_1 : v0 < v1 := by have := (zx HX0 Bz).lt; omega
  have ow_1 : w.heap.size ≤ v1 := by have := hB.size; have := Bz.size; omega
  replace hB := zAa (zAa hB Bz) hN
  replace HX0 := zh ((zx HX0 Bz).below hN)
  have HX1 := zh x1
  clear x1 hN Bz hb1
  have Bz := Below.refl V2.heap.size V2
  clear hs0
  obtain ⟨V3, hW, x2, hN⟩ := zAb V2 #[.bool false, .slice (some ⟨v0, 0, none⟩) 1 1, .bool false, .slice (some ⟨v1, 0, none⟩) 1 1] 27
  have hs2 : V3.heap.size = V2.heap.size + 1 := by rw [hW]; simp
  rw [← hW]
  clear hW
  rw [hs1] at x2 hs2
  obtain ⟨v2, hb2⟩ : ∃ b, b = v1 + 1 := ⟨_, rfl⟩
  rw [← hb2] at x2 hs2  ⊢
  have o0_2 : v0 < v2 := by have := (zx HX0 Bz).lt; omega
  have o1_2 : v1 < v2 := by have := (zx HX1 Bz).lt; omega
  have ow_2 : w.heap.size ≤ v2 := by have := hB.size; have := Bz.size; omega
  replace hB := zAa (zAa hB Bz) hN
  replace HX0 := zh ((zx HX0 Bz).below hN)
  replace HX1 := zh ((zx HX1 Bz).below hN)
  have HX2 := zh x2
  clear x2 hN Bz hb2
  have Bz := Below.refl V3.heap.size V3
  clear hs1
  go_wp2_with fail
  have hr0 : FrOk V3 1 (rawFr v0 v1) := raw_ok (zx HX0 Bz) (zx HX1 Bz)
  have HR0 := zh hr0
  have HB1 := zh (zAa hB Bz)
  have XX2 := zh (zx HX2 Bz)
  clear hr0 hB Bz HX0 HX1 HX2
  go_loopg [2] 17 (fun gk s wr => SN17 w v0 v1 v2 gk s wr)
  case atStart => exact ⟨0, by omega, rfl, rfl, XX2.out, HR0.out, HB1.out⟩
  case round =>
    clear HR0 HB1 XX2
    obtain ⟨i, hi, hgk, rfl, hx0, hfr, hB⟩ := hrel
    have HGK := zh hgk
    have HX0 := zh hx0
    clear hgk hx0
    by_cases hlt : i < 17
    · have i1 : (i : Int) < 17 := by omega
      have Bz := Below.refl wr.heap.size wr
      have q0 := (zx HX0 Bz).lt
      go_wp2_with fail
      with_reducible refine (picture_b).mono ?_
      rintro e w11 ⟨lb, kb, bb, rfl, xl, xk, xb, ⟨d1, d2, d3, d4, d5, d6⟩, b11⟩
      replace b11 := zAa (a := wr) (by go_grown) b11
      replace hfr := hfr.below b11
      replace Bz := zAa Bz b11
      clear b11
      replace hB := zAa hB Bz
      replace HX0 := zh (zx HX0 Bz)
      clear Bz
      have Bz := Below.refl w11.heap.size w11
      have HX1 := zh xl
      clear xl
      have HX2 := zh xk
      clear xk
      have HX3 := zh xb
      clear xb
      go_upto_region 6 with (fail)
      obtain ⟨V11, hW, x4, hN⟩ := zAb w11 #[.int .i64 4, .slice (some ⟨lb, 0, none⟩) 1 1] 30
      rw [← hW]
      clear hW
      obtain ⟨v4, hb4⟩ : ∃ b, b = w11.heap.size := ⟨_, rfl⟩
      rw [← hb4] at x4 ⊢
      have o0_4 : v2 < v4 := by have := (zx HX0 Bz).lt; omega
      have o1_4 : lb < v4 := by have := (zx HX1 Bz).lt; omega
      have o2_4 : kb < v4 := by have := (zx HX2 Bz).lt; omega
      have o3_4 : bb < v4 := by have := (zx HX3 Bz).lt; omega
      have ow_4 : w.heap.size ≤ v4 := by have := hB.size; have := Bz.size; omega
      replace hfr := hfr.below hN
      replace hB := zAa (zAa hB Bz) hN
      replace HX0 := zh ((zx HX0 Bz).below hN)
      replace HX1 := zh ((zx HX1 Bz).below hN)
      replace HX2 := zh ((zx HX2 Bz).below hN)
      replace HX3 := zh ((zx HX3 Bz).below hN)
      have HX4 := zh x4
      clear x4 hN Bz hb4
      have Bz := Below.refl V11.heap.size V11
      have p4_1 := (zx HX4 Bz).cell 1 (.slice (some ⟨lb, 0, none⟩) 1 1) rfl
      go_upto_block 2 with (fail)
      have hfr2 := hfr
      replace hB := zAa hB Bz
      replace HX0 := zh (zx HX0 Bz)
      replace HX1 := zh (zx HX1 Bz)
      replace HX2 := zh (zx HX2 Bz)
      replace HX3 := zh (zx HX3 Bz)
      replace HX4 := zh (zx HX4 Bz)
      clear Bz
      go_cut [] (fun wx => Bx wx v2 #[.bool false, .slice (some ⟨v0, 0, none⟩) 1 1, .bool false, .slice (some ⟨v1, 0, none⟩) 1 1] 27 ∧ FrOk wx 1 (rawFr v0 v1) ∧ Bx wx v4 #[.int .i64 4, .slice (some ⟨lb, 0, none⟩) 1 1] 30 ∧ Lone wx lb 4 (.error 22) ∧ Below w.heap.size w wx)
      case first =>
        have hz2 : i = 0 ∨ i = 1 ∨ i = 2 ∨ i = 3 ∨ i = 4 ∨ i = 5 ∨ i = 6 ∨ i = 7 ∨ i = 8 ∨ i = 9 ∨ i = 10 ∨ i = 11 ∨ i = 12 ∨ i = 13 ∨ i = 14 ∨ i = 15 ∨ i = 16 := by omega
        clear i1 hlt hi HGK
        rcases hz2 with rfl | rfl | rfl | rfl | rfl | rfl | rfl | rfl | rfl | rfl | rfl | rfl | rfl | rfl | rfl | rfl | rfl
        · as_aux_lemma =>
            have Bz := Below.refl V11.heap.size V11
            have p1_10 := (zx HX1 Bz).cell 10 (.int .i64 1) rfl
            have f1_10 := (zx HX1 Bz).frozen 10
            have y1 := (zx HX1 Bz).lt
            have zi : ((0 : Nat) : Int) = 0 := rfl
            rw [zi]
            clear zi
            go_wp2_with fail
            obtain ⟨V21, hW, x, kk, far, bel⟩ := st13_10_1 (.int .i64 2) (zx HX1 Bz) nofun
            rw [← hW]
            clear hW
            replace hfr := hfr.k kk
            replace hB := bel w.heap.size w (by omega) (zAa hB Bz)
            replace HX0 := zh (far _ _ _ (by omega) (zx HX0 Bz))
            replace HX2 := zh (far _ _ _ (by omega) (zx HX2 Bz))
            replace HX3 := zh (far _ _ _ (by omega) (zx HX3 Bz))
            replace HX4 := zh (far _ _ _ (by omega) (zx HX4 Bz))
            replace HX1 := zh x
            clear x kk far bel Bz
            have Bz := Below.refl V21.heap.size V21
            clear p1_10 f1_10 y1
            go_wp2_with fail
            go_meet
            case rel => exact ⟨HX0.out.below (zAa Bz (by go_grown)), (FrOk.below hfr (by go_grown)), HX4.out.below (zAa Bz (by go_grown)), Lone.of (HX1.out.below (zAa Bz (by go_grown))) rfl (picY_ok (Sl.nil _) (fun _ h => (by cases h)) (Sl.lit (f := Fr.cs) (L := [zFr]) (HX3.out.below (zAa Bz (by go_grown))) rfl rfl Fr.cs_len) (z_ok (by simp)) (Sl.lit (f := Fr.cs) (L := [zFr, zFr, zFr, zFr]) (HX2.out.below (zAa Bz (by go_grown))) rfl rfl Fr.cs_len) (z_ok (by simp)) (by decide)) sn_0, zAa hB (zAa Bz (by go_grown))⟩
        · as_aux_lemma =>
            have Bz := Below.refl V11.heap.size V11
            have p1_10 := (zx HX1 Bz).cell 10 (.int .i64 1) rfl
            have f1_10 := (zx HX1 Bz).frozen 10
            have y1 := (zx HX1 Bz).lt
            have zi : ((1 : Nat) : Int) = 1 := rfl
            rw [zi]
            clear zi
            go_wp2_with fail
            obtain ⟨V21, hW, x, kk, far, bel⟩ := st13_10_1 (.int .i64 (-1)) (zx HX1 Bz) nofun
            rw [← hW]
            clear hW
            replace hfr := hfr.k kk
            replace hB := bel w.heap.size w (by omega) (zAa hB Bz)
            replace HX0 := zh (far _ _ _ (by omega) (zx HX0 Bz))
            replace HX2 := zh (far _ _ _ (by omega) (zx HX2 Bz))
            replace HX3 := zh (far _ _ _ (by omega) (zx HX3 Bz))
            replace HX4 := zh (far _ _ _ (by omega) (zx HX4 Bz))
            replace HX1 := zh x
            clear x kk far bel Bz
            have Bz := Below.refl V21.heap.size V21
            clear p1_10 f1_10 y1
            go_wp2_with fail
            go_meet
            case rel => exact ⟨HX0.out.below (zAa Bz (by go_grown)), (FrOk.below hfr (by go_grown)), HX4.out.below (zAa Bz (by go_grown)), Lone.of (HX1.out.below (zAa Bz (by go_grown))) rfl (picY_ok (Sl.nil _) (fun _ h => (by cases h)) (Sl.lit (f := Fr.cs) (L := [zFr]) (HX3.out.below (zAa Bz (by go_grown))) rfl rfl Fr.cs_len) (z_ok (by simp)) (Sl.lit (f := Fr.cs) (L := [zFr, zFr, zFr, zFr]) (HX2.out.below (zAa Bz (by go_grown))) rfl rfl Fr.cs_len) (z_ok (by simp)) (by decide)) sn_1, zAa hB (zAa Bz (by go_grown))⟩
        · as_aux_lemma =>
            have Bz := Below.refl V11.heap.size V11
            have p1_9 := (zx HX1 Bz).cell 9 (.int .i64 1) rfl
            have f1_9 := (zx HX1 Bz).frozen 9
            have y1 := (zx HX1 Bz).lt
            have zi : ((2 : Nat) : Int) = 2 := rfl
            rw [zi]
            clear zi
            go_wp2_with fail
            obtain ⟨V21, hW, x, kk, far, bel⟩ := st13_9_1 (.int .i64 0) (zx HX1 Bz) nofun
            rw [← hW]
            clear hW
            replace hfr := hfr.k kk
            replace hB := bel w.heap.size w (by omega) (zAa hB Bz)
            replace HX0 := zh (far _ _ _ (by omega) (zx HX0 Bz))
            replace HX2 := zh (far _ _ _ (by omega) (zx HX2 Bz))
            replace HX3 := zh (far _ _ _ (by omega) (zx HX3 Bz))
            replace HX4 := zh (far _ _ _ (by omega) (zx HX4 Bz))
            replace HX1 := zh x
            clear x kk far bel Bz
            have Bz := Below.refl V21.heap.size V21
            clear p1_9 f1_9 y1
            go_wp2_with fail
            go_meet
            case rel => exact ⟨HX0.out.below (zAa Bz (by go_grown)), (FrOk.below hfr (by go_grown)), HX4.out.below (zAa Bz (by go_grown)), Lone.of (HX1.out.below (zAa Bz (by go_grown))) rfl (picY_ok (Sl.nil _) (fun _ h => (by cases h)) (Sl.lit (f := Fr.cs) (L := [zFr]) (HX3.out.below (zAa Bz (by go_grown))) rfl rfl Fr.cs_len) (z_ok (by simp)) (Sl.lit (f := Fr.cs) (L := [zFr, zFr, zFr, zFr]) (HX2.out.below (zAa Bz (by go_grown))) rfl rfl Fr.cs_len) (z_ok (by simp)) (by decide)) sn_2, zAa hB (zAa Bz (by go_grown))⟩
        · as_aux_lemma =>
            have Bz := Below.refl V11.heap.size V11
            have p1_11 := (zx HX1 Bz).cell 11 (.slice (some ⟨kb, 0, none⟩) 4 4) rfl
            have f1_11 := (zx HX1 Bz).frozen 11
            have y1 := (zx HX1 Bz).lt
            have zi : ((3 : Nat) : Int) = 3 := rfl
            rw [zi]
            clear zi
            go_wp2_with fail
            obtain ⟨V21, hW, x, kk, far, bel⟩ := st13_11_1 (.slice (some ⟨kb, 0, none⟩) (3) 4) (zx HX1 Bz) nofun
            rw [← hW]
            clear hW
            replace hfr := hfr.k kk
            replace hB := bel w.heap.size w (by omega) (zAa hB Bz)
            replace HX0 := zh (far _ _ _ (by omega) (zx HX0 Bz))
            replace HX2 := zh (far _ _ _ (by omega) (zx HX2 Bz))
            replace HX3 := zh (far _ _ _ (by omega) (zx HX3 Bz))
            replace HX4 := zh (far _ _ _ (by omega) (zx HX4 Bz))
            replace HX1 := zh x
            clear x kk far bel Bz
            have Bz := Below.refl V21.heap.size V21
            clear p1_11 f1_11 y1
            go_wp2_with fail
            go_meet
            case rel => exact ⟨HX0.out.below (zAa Bz (by go_grown)), (FrOk.below hfr (by go_grown)), HX4.out.below (zAa Bz (by go_grown)), Lone.of (HX1.out.below (zAa Bz (by go_grown))) rfl (picY_ok (Sl.nil _) (fun _ h => (by cases h)) (Sl.lit (f := Fr.cs) (L := [zFr]) (HX3.out.below (zAa Bz (by go_grown))) rfl rfl Fr.cs_len) (z_ok (by simp)) (Sl.front (m := 4) (Sl.lit (f := Fr.cs) (L := [zFr, zFr, zFr, zFr]) (HX2.out.below (zAa Bz (by go_grown))) rfl rfl Fr.cs_len) Fr.cs_len (by decide)) (z_ok (by simp)) (by decide)) sn_3, zAa hB (zAa Bz (by go_grown))⟩
        · as_aux_lemma =>
            have Bz := Below.refl V11.heap.size V11
            have p1_2 := (zx HX1 Bz).cell 2 (.slice (some ⟨bb, 0, none⟩) 1 1) rfl
            have f1_2 := (zx HX1 Bz).frozen 2
            have y1 := (zx HX1 Bz).lt
            have zi : ((4 : Nat) : Int) = 4 := rfl
            rw [zi]
            clear zi
            go_wp2_with fail
            obtain ⟨V21, hW, x, kk, far, bel⟩ := st13_2_1 ((Value.slice none 0 0)) (zx HX1 Bz) nofun
            rw [← hW]
            clear hW
            replace hfr := hfr.k kk
            replace hB := bel w.heap.size w (by omega) (zAa hB Bz)
            replace HX0 := zh (far _ _ _ (by omega) (zx HX0 Bz))
            replace HX2 := zh (far _ _ _ (by omega) (zx HX2 Bz))
            replace HX3 := zh (far _ _ _ (by omega) (zx HX3 Bz))
            replace HX4 := zh (far _ _ _ (by omega) (zx HX4 Bz))
            replace HX1 := zh x
            clear x kk far bel Bz
            have Bz := Below.refl V21.heap.size V21
            clear p1_2 f1_2 y1
            go_wp2_with fail
            go_meet
            case rel => exact ⟨HX0.out.below (zAa Bz (by go_grown)), (FrOk.below hfr (by go_grown)), HX4.out.below (zAa Bz (by go_grown)), Lone.of (HX1.out.below (zAa Bz (by go_grown))) rfl (picY_ok (Sl.nil _) (fun _ h => (by cases h)) (Sl.nil _) (fun _ h => (by cases h)) (Sl.lit (f := Fr.cs) (L := [zFr, zFr, zFr, zFr]) (HX2.out.below (zAa Bz (by go_grown))) rfl rfl Fr.cs_len) (z_ok (by simp)) (by decide)) sn_4, zAa hB (zAa Bz (by go_grown))⟩
        · as_aux_lemma =>
            have Bz := Below.refl V11.heap.size V11
            have p1_3 := (zx HX1 Bz).cell 3 (.int .i64 1) rfl
            have f1_3 := (zx HX1 Bz).frozen 3
            have y1 := (zx HX1 Bz).lt
            have zi : ((5 : Nat) : Int) = 5 := rfl
            rw [zi]
            clear zi
            go_wp2_with fail
            obtain ⟨V21, hW, x, kk, far, bel⟩ := st13_3_1 (.int .i64 2) (zx HX1 Bz) nofun
            rw [← hW]
            clear hW
            replace hfr := hfr.k kk
            replace hB := bel w.heap.size w (by omega) (zAa hB Bz)
            replace HX0 := zh (far _ _ _ (by omega) (zx HX0 Bz))
            replace HX2 := zh (far _ _ _ (by omega) (zx HX2 Bz))
            replace HX3 := zh (far _ _ _ (by omega) (zx HX3 Bz))
            replace HX4 := zh (far _ _ _ (by omega) (zx HX4 Bz))
            replace HX1 := zh x
            clear x kk far bel Bz
            have Bz := Below.refl V21.heap.size V21
            clear p1_3 f1_3 y1
            go_wp2_with fail
            go_meet
            case rel => exact ⟨HX0.out.below (zAa Bz (by go_grown)), (FrOk.below hfr (by go_grown)), HX4.out.below (zAa Bz (by go_grown)), Lone.of (HX1.out.below (zAa Bz (by go_grown))) rfl (picY_ok (Sl.nil _) (fun _ h => (by cases h)) (Sl.lit (f := Fr.cs) (L := [zFr]) (HX3.out.below (zAa Bz (by go_grown))) rfl rfl Fr.cs_len) (z_ok (by simp)) (Sl.lit (f := Fr.cs) (L := [zFr, zFr, zFr, zFr]) (HX2.out.below (zAa Bz (by go_grown))) rfl rfl Fr.cs_len) (z_ok (by simp)) (by decide)) sn_5, zAa hB (zAa Bz (by go_grown))⟩
        · as_aux_lemma =>
            have Bz := Below.refl V11.heap.size V11
            obtain ⟨p1_0, p1_1, p1_2, p1_3, p1_4, p1_5, p1_6, p1_7, p1_8, p1_9, p1_10, p1_11, p1_12, -⟩ := (zx HX1 Bz).cz
            have f1_0 := (zx HX1 Bz).frozen 0
            have f1_1 := (zx HX1 Bz).frozen 1
            have f1_2 := (zx HX1 Bz).frozen 2
            have f1_3 := (zx HX1 Bz).frozen 3
            have f1_4 := (zx HX1 Bz).frozen 4
            have f1_5 := (zx HX1 Bz).frozen 5
            have f1_6 := (zx HX1 Bz).frozen 6
            have f1_7 := (zx HX1 Bz).frozen 7
            have f1_8 := (zx HX1 Bz).frozen 8
            have f1_9 := (zx HX1 Bz).frozen 9
            have f1_10 := (zx HX1 Bz).frozen 10
            have f1_11 := (zx HX1 Bz).frozen 11
            have f1_12 := (zx HX1 Bz).frozen 12
            have y1 := (zx HX1 Bz).lt
            obtain ⟨p4_0, p4_1, -⟩ := (zx HX4 Bz).cz
            have zi : ((6 : Nat) : Int) = 6 := rfl
            rw [zi]
            clear zi
            obtain ⟨Z, hZ, hmz⟩ := makeR 10 10 rfl (by decide)
            go_upto_region 21 with (fail)
            go_region_with (fail)
            all_goals
              obtain ⟨V21, hW, x, kk, far, bel⟩ := st13_7_1 (.int .i64 5) (zx HX1 Bz) nofun
              have hzV21 : V21.heap.size = V11.heap.size := by rw [hW]; simp
              rw [← hW]
              clear hW
              replace hfr := hfr.k kk
              replace hB := bel w.heap.size w (by omega) (zAa hB Bz)
              replace HX0 := zh (far _ _ _ (by omega) (zx HX0 Bz))
              replace HX2 := zh (far _ _ _ (by omega) (zx HX2 Bz))
              replace HX3 := zh (far _ _ _ (by omega) (zx HX3 Bz))
              replace HX4 := zh (far _ _ _ (by omega) (zx HX4 Bz))
              replace HX1 := zh x
              clear x kk far bel Bz
              have Bz := Below.refl V21.heap.size V21
              obtain ⟨V22, hW, x, kk, far, bel⟩ := st13_11_1 (.slice (some ⟨V11.heap.size, 0, none⟩) 10 10) (zx HX1 Bz) nofun
              have hzV22 : V22.heap.size = V21.heap.size := by rw [hW]; simp
              rw [← hW]
              clear hW
              replace hfr := hfr.k kk
              replace hB := bel w.heap.size w (by omega) (zAa hB Bz)
              replace HX0 := zh (far _ _ _ (by omega) (zx HX0 Bz))
              replace HX2 := zh (far _ _ _ (by omega) (zx HX2 Bz))
              replace HX3 := zh (far _ _ _ (by omega) (zx HX3 Bz))
              replace HX4 := zh (far _ _ _ (by omega) (zx HX4 Bz))
              replace HX1 := zh x
              clear x kk far bel Bz
              have Bz := Below.refl V22.heap.size V22
              have hz : V22.heap.size = V11.heap.size := by omega
              obtain ⟨VZ, hW, x5, hN⟩ := zAb V22 Z 27
              rw [← hW]
              clear hW
              rw [hz] at x5
              replace hfr := hfr.below hN
              replace hB := zAa (zAa hB Bz) hN
              replace HX0 := zh ((zx HX0 Bz).below hN)
              replace HX1 := zh ((zx HX1 Bz).below hN)
              replace HX2 := zh ((zx HX2 Bz).below hN)
              replace HX3 := zh ((zx HX3 Bz).below hN)
              replace HX4 := zh ((zx HX4 Bz).below hN)
              clear Bz hN hz
              have Bz := Below.refl VZ.heap.size VZ
              go_wp2_with fail
              go_meet
              case rel => exact ⟨HX0.out.below (zAa Bz (by go_grown)), (FrOk.below hfr (by go_grown)), HX4.out.below (zAa Bz (by go_grown)), Lone.of (HX1.out.below (zAa Bz (by go_grown))) rfl (picY_ok (Sl.nil _) (fun _ h => (by cases h)) (Sl.lit (f := Fr.cs) (L := [zFr]) (HX3.out.below (zAa Bz (by go_grown))) rfl rfl Fr.cs_len) (z_ok (by simp)) (zR (x5.drew.below (by go_grown)) hZ) (z_ok fun x hx => List.eq_of_mem_replicate hx) (by decide)) sn_6, zAa hB (zAa Bz (by go_grown))⟩
        · as_aux_lemma =>
            have Bz := Below.refl V11.heap.size V11
            obtain ⟨p0_0, p0_1, p0_2, p0_3, -⟩ := (zx HX0 Bz).cz
            have p1_11 := (zx HX1 Bz).cell 11 (.slice (some ⟨kb, 0, none⟩) 4 4) rfl
            have p2_0 := (zx HX2 Bz).cell 0 (.bool false) rfl
            have p2_1 := (zx HX2 Bz).cell 1 (.slice none 0 0) rfl
            have p2_2 := (zx HX2 Bz).cell 2 (.bool false) rfl
            have p2_3 := (zx HX2 Bz).cell 3 (.slice none 0 0) rfl
            have f2_0 := (zx HX2 Bz).frozen 0
            have f2_1 := (zx HX2 Bz).frozen 1
            have f2_2 := (zx HX2 Bz).frozen 2
            have f2_3 := (zx HX2 Bz).frozen 3
            have y2 := (zx HX2 Bz).lt
            have zi : ((7 : Nat) : Int) = 7 := rfl
            rw [zi]
            clear zi
            go_wp2_with fail
            (try simp only [List.append_eq, List.cons_append, List.nil_append])
            refine wp_region_plan (.pure 0 (.pure 1 (.pure 2 (.take 3 (.take 4 (.pure 5 (.only 6 .done))))))) [6] (fun w' => w'.cell? ⟨v2, 0, none⟩ = some (.bool false) ∧ w'.cell? ⟨v2, 1, none⟩ = some (.slice (some ⟨v0, 0, none⟩) 1 1) ∧ w'.cell? ⟨v2, 2, none⟩ = some (.bool false) ∧ w'.cell? ⟨v2, 3, none⟩ = some (.slice (some ⟨v1, 0, none⟩) 1 1) ∧ w'.cell? ⟨lb, 11, none⟩ = some (.slice (some ⟨kb, 0, none⟩) 4 4)) (by kernel_rfl) (by kernel_rfl) ⟨p0_0, p0_1, p0_2, p0_3, p1_11⟩ ?_
            iterate 3 (refine wpPlan_pure (o := ⟨some _, _, _, _, _, _⟩) rfl rfl (fun w' => by go_simp <;> with_reducible rfl) ?_; try simp only [Act.put, List.setIfInBounds_toArray, List.set_cons_zero, List.set_cons_succ])
            iterate 2 (refine wpPlan_take (o := ⟨some _, _, _, _, _, _⟩) rfl rfl (fun w' ⟨p0_0, p0_1, p0_2, p0_3, p1_11⟩ => by go_simp <;> with_reducible rfl) ?_; try simp only [Act.put, List.setIfInBounds_toArray, List.set_cons_zero, List.set_cons_succ])
            refine wpPlan_pure (o := ⟨some _, _, _, _, _, _⟩) rfl rfl (fun w' => by go_simp <;> with_reducible rfl) ?_
            try simp only [Act.put, List.setIfInBounds_toArray, List.set_cons_zero, List.set_cons_succ]
            refine wpPlan_late (o := ⟨none, _, _, _, _, _⟩) rfl rfl (by decide) (fun K hK => ?_)
            go_simp
            refine hK.out _ _ ?_
            try simp only [Act.put, List.setIfInBounds_toArray, List.set_cons_zero, List.set_cons_succ]
            clear hK K
            refine wpPlan_done ?_
            obtain ⟨V21, hW, x, kk, far, bel⟩ := st16_0_4 (.bool false) (.slice (some ⟨v0, 0, none⟩) 1 1) (.bool false) (.slice (some ⟨v1, 0, none⟩) 1 1) (zx HX2 Bz) nofun nofun nofun nofun
            rw [← hW]
            clear hW
            replace hfr := hfr.k kk
            replace hB := bel w.heap.size w (by omega) (zAa hB Bz)
            replace HX0 := zh (far _ _ _ (by omega) (zx HX0 Bz))
            replace HX1 := zh (far _ _ _ (by omega) (zx HX1 Bz))
            replace HX3 := zh (far _ _ _ (by omega) (zx HX3 Bz))
            replace HX4 := zh (far _ _ _ (by omega) (zx HX4 Bz))
            replace HX2 := zh x
            clear x kk far bel Bz
            have Bz := Below.refl V21.heap.size V21
            clear p0_0 p0_1 p0_2 p0_3 p1_11 p2_0 p2_1 p2_2 p2_3 f2_0 f2_1 f2_2 f2_3 y2
            go_wp2_with fail
            go_meet
            case rel => exact ⟨HX0.out.below (zAa Bz (by go_grown)), (FrOk.below hfr (by go_grown)), HX4.out.below (zAa Bz (by go_grown)), Lone.of (HX1.out.below (zAa Bz (by go_grown))) rfl (picY_ok (Sl.nil _) (fun _ h => (by cases h)) (Sl.lit (f := Fr.cs) (L := [zFr]) (HX3.out.below (zAa Bz (by go_grown))) rfl rfl Fr.cs_len) (z_ok (by simp)) (Sl.lit (f := Fr.cs) (L := [rawFr v0 v1, zFr, zFr, zFr]) (HX2.out.below (zAa Bz (by go_grown))) rfl rfl Fr.cs_len) (fun x hx => by rcases List.mem_cons.1 hx with rfl | hx; exact (FrOk.below hfr (by go_grown)); exact z_ok (L := [zFr, zFr, zFr]) (by simp) x hx) (by simp)) (sn_7 rfl), zAa hB (zAa Bz (by go_grown))⟩
        · have Bz := Below.refl V11.heap.size V11
          have p1_1 := (zx HX1 Bz).cell 1 (.slice none 0 0) rfl
          have f1_1 := (zx HX1 Bz).frozen 1
          have y1 := (zx HX1 Bz).lt
          have zi : ((8 : Nat) : Int) = 8 := rfl
          rw [zi]
          clear zi
          go_wp2_with fail
          clear p1_1 f1_1 y1
          obtain ⟨V21, hW, x, kk, far, bel⟩ := st13_1_1 (.slice (some ⟨V11.heap.size, 0, none⟩) 1 1) (zx HX1 Bz) nofun
          have hzV21 : V21.heap.size = V11.heap.size := by rw [hW]; simp
          rw [← hW]
          clear hW
          replace hfr := hfr.k kk
          replace hB := bel w.heap.size w (by omega) (zAa hB Bz)
          replace HX0 := zh (far _ _ _ (by omega) (zx HX0 Bz))
          replace HX2 := zh (far _ _ _ (by omega) (zx HX2 Bz))
          replace HX3 := zh (far _ _ _ (by omega) (zx HX3 Bz))
          replace HX4 := zh (far _ _ _ (by omega) (zx HX4 Bz))
          replace HX1 := zh x
          clear x kk far bel Bz
          have Bz := Below.refl V21.heap.size V21
          have hz : V21.heap.size = V11.heap.size := by omega
          obtain ⟨V22, hW, x5, hN⟩ := zAb V21 #[(Value.slice none 0 0)] 54
          have hs5 : V22.heap.size = V21.heap.size + 1 := by rw [hW]; simp
          rw [← hW]
          clear hW
          rw [hz] at x5 hs5
          obtain ⟨v5, hb5⟩ : ∃ b, b = V11.heap.size := ⟨_, rfl⟩
          rw [← hb5] at x5 hs5 HX1 ⊢
          have o0_5 : v2 < v5 := by have := (zx HX0 Bz).lt; omega
          have o1_5 : lb < v5 := by have := (zx HX1 Bz).lt; omega
          have o2_5 : kb < v5 := by have := (zx HX2 Bz).lt; omega
          have o3_5 : bb < v5 := by have := (zx HX3 Bz).lt; omega
          have o4_5 : v4 < v5 := by have := (zx HX4 Bz).lt; omega
          have ow_5 : w.heap.size ≤ v5 := by have := hB.size; have := Bz.size; omega
          replace hfr := hfr.below hN
          replace hB := zAa (zAa hB Bz) hN
          replace HX0 := zh ((zx HX0 Bz).below hN)
          replace HX1 := zh ((zx HX1 Bz).below hN)
          replace HX2 := zh ((zx HX2 Bz).below hN)
          replace HX3 := zh ((zx HX3 Bz).below hN)
          replace HX4 := zh ((zx HX4 Bz).below hN)
          have HX5 := zh x5
          clear x5 hN Bz hb5
          have Bz := Below.refl V22.heap.size V22
          go_wp2_with fail
          go_meet
          case rel => exact ⟨HX0.out.below (zAa Bz (by go_grown)), (FrOk.below hfr (by go_grown)), HX4.out.below (zAa Bz (by go_grown)), Lone.of (HX1.out.below (zAa Bz (by go_grown))) rfl (picY_ok (Sl.lit (f := Vc.cs) (L := [⟨none, 0, 0, []⟩]) (HX5.out.below (zAa Bz (by go_grown))) rfl rfl Vc.cs_len) (nil_ok (by simp)) (Sl.lit (f := Fr.cs) (L := [zFr]) (HX3.out.below (zAa Bz (by go_grown))) rfl rfl Fr.cs_len) (z_ok (by simp)) (Sl.lit (f := Fr.cs) (L := [zFr, zFr, zFr, zFr]) (HX2.out.below (zAa Bz (by go_grown))) rfl rfl Fr.cs_len) (z_ok (by simp)) (by decide)) sn_8, zAa hB (zAa Bz (by go_grown))⟩
        · have Bz := Below.refl V11.heap.size V11
          have p1_0 := (zx HX1 Bz).cell 0 (.int .u8 2) rfl
          have f1_0 := (zx HX1 Bz).frozen 0
          have y1 := (zx HX1 Bz).lt
          have zi : ((9 : Nat) : Int) = 9 := rfl
          rw [zi]
          clear zi
          go_wp2_with fail
          obtain ⟨V21, hW, x, kk, far, bel⟩ := st13_0_1 (.int .u8 3) (zx HX1 Bz) nofun
          rw [← hW]
          clear hW
          replace hfr := hfr.k kk
          replace hB := bel w.heap.size w (by omega) (zAa hB Bz)
          replace HX0 := zh (far _ _ _ (by omega) (zx HX0 Bz))
          replace HX2 := zh (far _ _ _ (by omega) (zx HX2 Bz))
          replace HX3 := zh (far _ _ _ (by omega) (zx HX3 Bz))
          replace HX4 := zh (far _ _ _ (by omega) (zx HX4 Bz))
          replace HX1 := zh x
          clear x kk far bel Bz
          have Bz := Below.refl V21.heap.size V21
          clear p1_0 f1_0 y1
          go_wp2_with fail
          go_meet
          case rel => exact ⟨HX0.out.below (zAa Bz (by go_grown)), (FrOk.below hfr (by go_grown)), HX4.out.below (zAa Bz (by go_grown)), Lone.of (HX1.out.below (zAa Bz (by go_grown))) rfl (picY_ok (Sl.nil _) (fun _ h => (by cases h)) (Sl.lit (f := Fr.cs) (L := [zFr]) (HX3.out.below (zAa Bz (by go_grown))) rfl rfl Fr.cs_len) (z_ok (by simp)) (Sl.lit (f := Fr.cs) (L := [zFr, zFr, zFr, zFr]) (HX2.out.below (zAa Bz (by go_grown))) rfl rfl Fr.cs_len) (z_ok (by simp)) (by decide)) sn_9, zAa hB (zAa Bz (by go_grown))⟩
        · have Bz := Below.refl V11.heap.size V11
          obtain ⟨p1_0, p1_1, p1_2, p1_3, p1_4, p1_5, p1_6, p1_7, p1_8, p1_9, p1_10, p1_11, p1_12, -⟩ := (zx HX1 Bz).cz
          have f1_0 := (zx HX1 Bz).frozen 0
          have f1_1 := (zx HX1 Bz).frozen 1
          have f1_2 := (zx HX1 Bz).frozen 2
          have f1_3 := (zx HX1 Bz).frozen 3
          have f1_4 := (zx HX1 Bz).frozen 4
          have f1_5 := (zx HX1 Bz).frozen 5
          have f1_6 := (zx HX1 Bz).frozen 6
          have f1_7 := (zx HX1 Bz).frozen 7
          have f1_8 := (zx HX1 Bz).frozen 8
          have f1_9 := (zx HX1 Bz).frozen 9
          have f1_10 := (zx HX1 Bz).frozen 10
          have f1_11 := (zx HX1 Bz).frozen 11
          have f1_12 := (zx HX1 Bz).frozen 12
          have y1 := (zx HX1 Bz).lt
          have p4_1 := (zx HX4 Bz).cell 1 (.slice (some ⟨lb, 0, none⟩) 1 1) rfl
          have zi : ((10 : Nat) : Int) = 10 := rfl
          rw [zi]
          clear zi
          go_wp2_with fail
          obtain ⟨V21, hW, x, kk, far, bel⟩ := st13_0_13 (.int .u8 4) (.slice none 0 0) (.slice none 0 0) (.int .i64 0) (.int .i64 0) (.int .i64 0) (.int .i64 0) (.int .i64 0) (.int .i64 0) (.int .i64 0) (.int .i64 0) (.slice none 0 0) (.slice none 0 0) (zx HX1 Bz) nofun nofun nofun nofun nofun nofun nofun nofun nofun nofun nofun nofun nofun
          rw [← hW]
          clear hW
          replace hfr := hfr.k kk
          replace hB := bel w.heap.size w (by omega) (zAa hB Bz)
          replace HX0 := zh (far _ _ _ (by omega) (zx HX0 Bz))
          replace HX2 := zh (far _ _ _ (by omega) (zx HX2 Bz))
          replace HX3 := zh (far _ _ _ (by omega) (zx HX3 Bz))
          replace HX4 := zh (far _ _ _ (by omega) (zx HX4 Bz))
          replace HX1 := zh x
          clear x kk far bel Bz
          have Bz := Below.refl V21.heap.size V21
          clear p1_0 p1_1 p1_2 p1_3 p1_4 p1_5 p1_6 p1_7 p1_8 p1_9 p1_10 p1_11 p1_12 f1_0 f1_1 f1_2 f1_3 f1_4 f1_5 f1_6 f1_7 f1_8 f1_9 f1_10 f1_11 f1_12 y1 p4_1
          go_wp2_with fail
          go_meet
          case rel => exact ⟨HX0.out.below (zAa Bz (by go_grown)), (FrOk.below hfr (by go_grown)), HX4.out.below (zAa Bz (by go_grown)), Lone.of (HX1.out.below (zAa Bz (by go_grown))) rfl (bareY_ok (Sl.nil _) (fun _ h => (by cases h)) (Sl.nil _) (fun _ h => (by cases h)) (Sl.nil _) (fun _ h => (by cases h)) (by simp)) sn_10, zAa hB (zAa Bz (by go_grown))⟩
        · have Bz := Below.refl V11.heap.size V11
          obtain ⟨p1_0, p1_1, p1_2, p1_3, p1_4, p1_5, p1_6, p1_7, p1_8, p1_9, p1_10, p1_11, p1_12, -⟩ := (zx HX1 Bz).cz
          have f1_0 := (zx HX1 Bz).frozen 0
          have f1_1 := (zx HX1 Bz).frozen 1
          have f1_2 := (zx HX1 Bz).frozen 2
          have f1_3 := (zx HX1 Bz).frozen 3
          have f1_4 := (zx HX1 Bz).frozen 4
          have f1_5 := (zx HX1 Bz).frozen 5
          have f1_6 := (zx HX1 Bz).frozen 6
          have f1_7 := (zx HX1 Bz).frozen 7
          have f1_8 := (zx HX1 Bz).frozen 8
          have f1_9 := (zx HX1 Bz).frozen 9
          have f1_10 := (zx HX1 Bz).frozen 10
          have f1_11 := (zx HX1 Bz).frozen 11
          have f1_12 := (zx HX1 Bz).frozen 12
          have y1 := (zx HX1 Bz).lt
          have p4_1 := (zx HX4 Bz).cell 1 (.slice (some ⟨lb, 0, none⟩) 1 1) rfl
          have zi : ((11 : Nat) : Int) = 11 := rfl
          rw [zi]
          clear zi
          go_wp2_with fail
          clear p1_0 p1_1 p1_2 p1_3 p1_4 p1_5 p1_6 p1_7 p1_8 p1_9 p1_10 p1_11 p1_12 f1_0 f1_1 f1_2 f1_3 f1_4 f1_5 f1_6 f1_7 f1_8 f1_9 f1_10 f1_11 f1_12 y1 p4_1
          obtain ⟨V21, hW, x, kk, far, bel⟩ := st13_0_13 (.int .u8 4) (.slice none 0 0) (.slice none 0 0) (.int .i64 0) (.int .i64 0) (.int .i64 0) (.int .i64 0) (.int .i64 0) (.int .i64 0) (.int .i64 0) (.int .i64 0) (.slice none 0 0) (.slice (some ⟨V11.heap.size + 1, 0, none⟩) 1 1) (zx HX1 Bz) nofun nofun nofun nofun nofun nofun nofun nofun nofun nofun nofun nofun nofun
          have hzV21 : V21.heap.size = V11.heap.size := by rw [hW]; simp
          rw [← hW]
          clear hW
          replace hfr := hfr.k kk
          replace hB := bel w.heap.size w (by omega) (zAa hB Bz)
          replace HX0 := zh (far _ _ _ (by omega) (zx HX0 Bz))
          replace HX2 := zh (far _ _ _ (by omega) (zx HX2 Bz))
          replace HX3 := zh (far _ _ _ (by omega) (zx HX3 Bz))
          replace HX4 := zh (far _ _ _ (by omega) (zx HX4 Bz))
          replace HX1 := zh x
          clear x kk far bel Bz
          have Bz := Below.refl V21.heap.size V21
          have hz : V21.heap.size = V11.heap.size := by omega
          obtain ⟨V22, hW, x5, hN⟩ := zAb V21 #[.int .i64 0, .int .i64 0] 3
          have hs5 : V22.heap.size = V21.heap.size + 1 := by rw [hW]; simp
          rw [← hW]
          clear hW
          rw [hz] at x5 hs5
          obtain ⟨v5, hb5⟩ : ∃ b, b = V11.heap.size := ⟨_, rfl⟩
          rw [← hb5] at x5 hs5 HX1 ⊢
          have o0_5 : v2 < v5 := by have := (zx HX0 Bz).lt; omega
          have o1_5 : lb < v5 := by have := (zx HX1 Bz).lt; omega
          have o2_5 : kb < v5 := by have := (zx HX2 Bz).lt; omega
          have o3_5 : bb < v5 := by have := (zx HX3 Bz).lt; omega
          have o4_5 : v4 < v5 := by have := (zx HX4 Bz).lt; omega
          have ow_5 : w.heap.size ≤ v5 := by have := hB.size; have := Bz.size; omega
          replace hfr := hfr.below hN
          replace hB := zAa (zAa hB Bz) hN
          replace HX0 := zh ((zx HX0 Bz).below hN)
          replace HX1 := zh ((zx HX1 Bz).below hN)
          replace HX2 := zh ((zx HX2 Bz).below hN)
          replace HX3 := zh ((zx HX3 Bz).below hN)
          replace HX4 := zh ((zx HX4 Bz).below hN)
          have HX5 := zh x5
          clear x5 hN Bz hb5
          have Bz := Below.refl V22.heap.size V22
          obtain ⟨V23, hW, x6, hN⟩ := zAb V22 #[.slice (some ⟨v5, 0, none⟩) 2 2] 39
          have hs6 : V23.heap.size = V22.heap.size + 1 := by rw [hW]; simp
          rw [← hW]
          clear hW
          rw [hs5] at x6 hs6
          obtain ⟨v6, hb6⟩ : ∃ b, b = v5 + 1 := ⟨_, rfl⟩
          rw [← hb6] at x6 hs6 HX1 ⊢
          have o0_6 : v2 < v6 := by have := (zx HX0 Bz).lt; omega
          have o1_6 : lb < v6 := by have := (zx HX1 Bz).lt; omega
          have o2_6 : kb < v6 := by have := (zx HX2 Bz).lt; omega
          have o3_6 : bb < v6 := by have := (zx HX3 Bz).lt; omega
          have o4_6 : v4 < v6 := by have := (zx HX4 Bz).lt; omega
          have o5_6 : v5 < v6 := by have := (zx HX5 Bz).lt; omega
          have ow_6 : w.heap.size ≤ v6 := by have := hB.size; have := Bz.size; omega
          replace hfr := hfr.below hN
          replace hB := zAa (zAa hB Bz) hN
          replace HX0 := zh ((zx HX0 Bz).below hN)
          replace HX1 := zh ((zx HX1 Bz).below hN)
          replace HX2 := zh ((zx HX2 Bz).below hN)
          replace HX3 := zh ((zx HX3 Bz).below hN)
          replace HX4 := zh ((zx HX4 Bz).below hN)
          replace HX5 := zh ((zx HX5 Bz).below hN)
          have HX6 := zh x6
          clear x6 hN Bz hb6
          have Bz := Below.refl V23.heap.size V23
          clear hs5
          go_wp2_with fail
          go_meet
          case rel => exact ⟨HX0.out.below (zAa Bz (by go_grown)), (FrOk.below hfr (by go_grown)), HX4.out.below (zAa Bz (by go_grown)), Lone.of (HX1.out.below (zAa Bz (by go_grown))) rfl (bareY_ok (Sl.nil _) (fun _ h => (by cases h)) (Sl.nil _) (fun _ h => (by cases h)) (Sl.lit (f := Gp.cs) (L := [⟨some ⟨v5, 0, none⟩, 2, 2, [0, 0]⟩]) (HX6.out.below (zAa Bz (by go_grown))) rfl rfl Gp.cs_len) (fun v hv => by obtain rfl := List.mem_singleton.1 hv; exact ⟨Sl.lit (f := ics) (HX5.out.below (zAa Bz (by go_grown))) rfl rfl ics_len, by simp⟩) (by simp)) sn_11, zAa hB (zAa Bz (by go_grown))⟩
        · have Bz := Below.refl V11.heap.size V11
          obtain ⟨p1_0, p1_1, p1_2, p1_3, p1_4, p1_5, p1_6, p1_7, p1_8, p1_9, p1_10, p1_11, p1_12, -⟩ := (zx HX1 Bz).cz
          have f1_0 := (zx HX1 Bz).frozen 0
          have f1_1 := (zx HX1 Bz).frozen 1
          have f1_2 := (zx HX1 Bz).frozen 2
          have f1_3 := (zx HX1 Bz).frozen 3
          have f1_4 := (zx HX1 Bz).frozen 4
          have f1_5 := (zx HX1 Bz).frozen 5
          have f1_6 := (zx HX1 Bz).frozen 6
          have f1_7 := (zx HX1 Bz).frozen 7
          have f1_8 := (zx HX1 Bz).frozen 8
          have f1_9 := (zx HX1 Bz).frozen 9
          have f1_10 := (zx HX1 Bz).frozen 10
          have f1_11 := (zx HX1 Bz).frozen 11
          have f1_12 := (zx HX1 Bz).frozen 12
          have y1 := (zx HX1 Bz).lt
          have p4_1 := (zx HX4 Bz).cell 1 (.slice (some ⟨lb, 0, none⟩) 1 1) rfl
          have zi : ((12 : Nat) : Int) = 12 := rfl
          rw [zi]
          clear zi
          go_wp2_with fail
          clear p1_0 p1_1 p1_2 p1_3 p1_4 p1_5 p1_6 p1_7 p1_8 p1_9 p1_10 p1_11 p1_12 f1_0 f1_1 f1_2 f1_3 f1_4 f1_5 f1_6 f1_7 f1_8 f1_9 f1_10 f1_11 f1_12 y1 p4_1
          obtain ⟨V21, hW, x, kk, far, bel⟩ := st13_0_13 (.int .u8 4) (.slice none 0 0) (.slice none 0 0) (.int .i64 0) (.int .i64 0) (.int .i64 0) (.int .i64 0) (.int .i64 0) (.int .i64 0) (.int .i64 0) (.int .i64 0) (.slice none 0 0) (.slice (some ⟨V11.heap.size + 1, 0, none⟩) 1 1) (zx HX1 Bz) nofun nofun nofun nofun nofun nofun nofun nofun nofun nofun nofun nofun nofun
          have hzV21 : V21.heap.size = V11.heap.size := by rw [hW]; simp
          rw [← hW]
          clear hW
          replace hfr := hfr.k kk
          replace hB := bel w.heap.size w (by omega) (zAa hB Bz)
          replace HX0 := zh (far _ _ _ (by omega) (zx HX0 Bz))
          replace HX2 := zh (far _ _ _ (by omega) (zx HX2 Bz))
          replace HX3 := zh (far _ _ _ (by omega) (zx HX3 Bz))
          replace HX4 := zh (far _ _ _ (by omega) (zx HX4 Bz))
          replace HX1 := zh x
          clear x kk far bel Bz
          have Bz := Below.refl V21.heap.size V21
          have hz : V21.heap.size = V11.heap.size := by omega
          obtain ⟨V22, hW, x5, hN⟩ := zAb V21 #[.int .i64 0, .int .i64 4] 3
          have hs5 : V22.heap.size = V21.heap.size + 1 := by rw [hW]; simp
          rw [← hW]
          clear hW
          rw [hz] at x5 hs5
          obtain ⟨v5, hb5⟩ : ∃ b, b = V11.heap.size := ⟨_, rfl⟩
          rw [← hb5] at x5 hs5 HX1 ⊢
          have o0_5 : v2 < v5 := by have := (zx HX0 Bz).lt; omega
          have o1_5 : lb < v5 := by have := (zx HX1 Bz).lt; omega
          have o2_5 : kb < v5 := by have := (zx HX2 Bz).lt; omega
          have o3_5 : bb < v5 := by have := (zx HX3 Bz).lt; omega
          have o4_5 : v4 < v5 := by have := (zx HX4 Bz).lt; omega
          have ow_5 : w.heap.size ≤ v5 := by have := hB.size; have := Bz.size; omega
          replace hfr := hfr.below hN
          replace hB := zAa (zAa hB Bz) hN
          replace HX0 := zh ((zx HX0 Bz).below hN)
          replace HX1 := zh ((zx HX1 Bz).below hN)
          replace HX2 := zh ((zx HX2 Bz).below hN)
          replace HX3 := zh ((zx HX3 Bz).below hN)
          replace HX4 := zh ((zx HX4 Bz).below hN)
          have HX5 := zh x5
          clear x5 hN Bz hb5
          have Bz := Below.refl V22.heap.size V22
          obtain ⟨V23, hW, x6, hN⟩ := zAb V22 #[.slice (some ⟨v5, 0, none⟩) 2 2] 39
          have hs6 : V23.heap.size = V22.heap.size + 1 := by rw [hW]; simp
          rw [← hW]
          clear hW
          rw [hs5] at x6 hs6
          obtain ⟨v6, hb6⟩ : ∃ b, b = v5 + 1 := ⟨_, rfl⟩
          rw [← hb6] at x6 hs6 HX1 ⊢
          have o0_6 : v2 < v6 := by have := (zx HX0 Bz).lt; omega
          have o1_6 : lb < v6 := by have := (zx HX1 Bz).lt; omega
          have o2_6 : kb < v6 := by have := (zx HX2 Bz).lt; omega
          have o3_6 : bb < v6 := by have := (zx HX3 Bz).lt; omega
          have o4_6 : v4 < v6 := by have := (zx HX4 Bz).lt; omega
          have o5_6 : v5 < v6 := by have := (zx HX5 Bz).lt; omega
          have ow_6 : w.heap.size ≤ v6 := by have := hB.size; have := Bz.size; omega
          replace hfr := hfr.below hN
          replace hB := zAa (zAa hB Bz) hN
          replace HX0 := zh ((zx HX0 Bz).below hN)
          replace HX1 := zh ((zx HX1 Bz).below hN)
          replace HX2 := zh ((zx HX2 Bz).below hN)
          replace HX3 := zh ((zx HX3 Bz).below hN)
          replace HX4 := zh ((zx HX4 Bz).below hN)
          replace HX5 := zh ((zx HX5 Bz).below hN)
          have HX6 := zh x6
          clear x6 hN Bz hb6
          have Bz := Below.refl V23.heap.size V23
          clear hs5
          go_wp2_with fail
          go_meet
          case rel => exact ⟨HX0.out.below (zAa Bz (by go_grown)), (FrOk.below hfr (by go_grown)), HX4.out.below (zAa Bz (by go_grown)), Lone.of (HX1.out.below (zAa Bz (by go_grown))) rfl (bareY_ok (Sl.nil _) (fun _ h => (by cases h)) (Sl.nil _) (fun _ h => (by cases h)) (Sl.lit (f := Gp.cs) (L := [⟨some ⟨v5, 0, none⟩, 2, 2, [0, 4]⟩]) (HX6.out.below (zAa Bz (by go_grown))) rfl rfl Gp.cs_len) (fun v hv => by obtain rfl := List.mem_singleton.1 hv; exact ⟨Sl.lit (f := ics) (HX5.out.below (zAa Bz (by go_grown))) rfl rfl ics_len, by simp⟩) (by simp)) sn_12, zAa hB (zAa Bz (by go_grown))⟩
        · have Bz := Below.refl V11.heap.size V11
          obtain ⟨p1_0, p1_1, p1_2, p1_3, p1_4, p1_5, p1_6, p1_7, p1_8, p1_9, p1_10, p1_11, p1_12, -⟩ := (zx HX1 Bz).cz
          have f1_0 := (zx HX1 Bz).frozen 0
          have f1_1 := (zx HX1 Bz).frozen 1
          have f1_2 := (zx HX1 Bz).frozen 2
          have f1_3 := (zx HX1 Bz).frozen 3
          have f1_4 := (zx HX1 Bz).frozen 4
          have f1_5 := (zx HX1 Bz).frozen 5
          have f1_6 := (zx HX1 Bz).frozen 6
          have f1_7 := (zx HX1 Bz).frozen 7
          have f1_8 := (zx HX1 Bz).frozen 8
          have f1_9 := (zx HX1 Bz).frozen 9
          have f1_10 := (zx HX1 Bz).frozen 10
          have f1_11 := (zx HX1 Bz).frozen 11
          have f1_12 := (zx HX1 Bz).frozen 12
          have y1 := (zx HX1 Bz).lt
          have p4_1 := (zx HX4 Bz).cell 1 (.slice (some ⟨lb, 0, none⟩) 1 1) rfl
          have zi : ((13 : Nat) : Int) = 13 := rfl
          rw [zi]
          clear zi
          go_wp2_with fail
          clear p1_0 p1_1 p1_2 p1_3 p1_4 p1_5 p1_6 p1_7 p1_8 p1_9 p1_10 p1_11 p1_12 f1_0 f1_1 f1_2 f1_3 f1_4 f1_5 f1_6 f1_7 f1_8 f1_9 f1_10 f1_11 f1_12 y1 p4_1
          obtain ⟨V21, hW, x, kk, far, bel⟩ := st13_0_13 (.int .u8 4) (.slice none 0 0) (.slice none 0 0) (.int .i64 0) (.int .i64 0) (.int .i64 0) (.int .i64 0) (.int .i64 0) (.int .i64 0) (.int .i64 0) (.int .i64 0) (.slice none 0 0) (.slice (some ⟨V11.heap.size + 1, 0, none⟩) 1 1) (zx HX1 Bz) nofun nofun nofun nofun nofun nofun nofun nofun nofun nofun nofun nofun nofun
          have hzV21 : V21.heap.size = V11.heap.size := by rw [hW]; simp
          rw [← hW]
          clear hW
          replace hfr := hfr.k kk
          replace hB := bel w.heap.size w (by omega) (zAa hB Bz)
          replace HX0 := zh (far _ _ _ (by omega) (zx HX0 Bz))
          replace HX2 := zh (far _ _ _ (by omega) (zx HX2 Bz))
          replace HX3 := zh (far _ _ _ (by omega) (zx HX3 Bz))
          replace HX4 := zh (far _ _ _ (by omega) (zx HX4 Bz))
          replace HX1 := zh x
          clear x kk far bel Bz
          have Bz := Below.refl V21.heap.size V21
          have hz : V21.heap.size = V11.heap.size := by omega
          obtain ⟨V22, hW, x5, hN⟩ := zAb V21 #[.int .i64 1, .int .i64 0] 3
          have hs5 : V22.heap.size = V21.heap.size + 1 := by rw [hW]; simp
          rw [← hW]
          clear hW
          rw [hz] at x5 hs5
          obtain ⟨v5, hb5⟩ : ∃ b, b = V11.heap.size := ⟨_, rfl⟩
          rw [← hb5] at x5 hs5 HX1 ⊢
          have o0_5 : v2 < v5 := by have := (zx HX0 Bz).lt; omega
          have o1_5 : lb < v5 := by have := (zx HX1 Bz).lt; omega
          have o2_5 : kb < v5 := by have := (zx HX2 Bz).lt; omega
          have o3_5 : bb < v5 := by have := (zx HX3 Bz).lt; omega
          have o4_5 : v4 < v5 := by have := (zx HX4 Bz).lt; omega
          have ow_5 : w.heap.size ≤ v5 := by have := hB.size; have := Bz.size; omega
          replace hfr := hfr.below hN
          replace hB := zAa (zAa hB Bz) hN
          replace HX0 := zh ((zx HX0 Bz).below hN)
          replace HX1 := zh ((zx HX1 Bz).below hN)
          replace HX2 := zh ((zx HX2 Bz).below hN)
          replace HX3 := zh ((zx HX3 Bz).below hN)
          replace HX4 := zh ((zx HX4 Bz).below hN)
          have HX5 := zh x5
          clear x5 hN Bz hb5
          have Bz := Below.refl V22.heap.size V22
          obtain ⟨V23, hW, x6, hN⟩ := zAb V22 #[.slice (some ⟨v5, 0, none⟩) 2 2] 39
          have hs6 : V23.heap.size = V22.heap.size + 1 := by rw [hW]; simp
          rw [← hW]
          clear hW
          rw [hs5] at x6 hs6
          obtain ⟨v6, hb6⟩ : ∃ b, b = v5 + 1 := ⟨_, rfl⟩
          rw [← hb6] at x6 hs6 HX1 ⊢
          have o0_6 : v2 < v6 := by have := (zx HX0 Bz).lt; omega
          have o1_6 : lb < v6 := by have := (zx HX1 Bz).lt; omega
          have o2_6 : kb < v6 := by have := (zx HX2 Bz).lt; omega
          have o3_6 : bb < v6 := by have := (zx HX3 Bz).lt; omega
          have o4_6 : v4 < v6 := by have := (zx HX4 Bz).lt; omega
          have o5_6 : v5 < v6 := by have := (zx HX5 Bz).lt; omega
          have ow_6 : w.heap.size ≤ v6 := by have := hB.size; have := Bz.size; omega
          replace hfr := hfr.below hN
          replace hB := zAa (zAa hB Bz) hN
          replace HX0 := zh ((zx HX0 Bz).below hN)
          replace HX1 := zh ((zx HX1 Bz).below hN)
          replace HX2 := zh ((zx HX2 Bz).below hN)
          replace HX3 := zh ((zx HX3 Bz).below hN)
          replace HX4 := zh ((zx HX4 Bz).below hN)
          replace HX5 := zh ((zx HX5 Bz).below hN)
          have HX6 := zh x6
          clear x6 hN Bz hb6
          have Bz := Below.refl V23.heap.size V23
          clear hs5
          go_wp2_with fail
          go_meet
          case rel => exact ⟨HX0.out.below (zAa Bz (by go_grown)), (FrOk.below hfr (by go_grown)), HX4.out.below (zAa Bz (by go_grown)), Lone.of (HX1.out.below (zAa Bz (by go_grown))) rfl (bareY_ok (Sl.nil _) (fun _ h => (by cases h)) (Sl.nil _) (fun _ h => (by cases h)) (Sl.lit (f := Gp.cs) (L := [⟨some ⟨v5, 0, none⟩, 2, 2, [1, 0]⟩]) (HX6.out.below (zAa Bz (by go_grown))) rfl rfl Gp.cs_len) (fun v hv => by obtain rfl := List.mem_singleton.1 hv; exact ⟨Sl.lit (f := ics) (HX5.out.below (zAa Bz (by go_grown))) rfl rfl ics_len, by simp⟩) (by simp)) sn_13, zAa hB (zAa Bz (by go_grown))⟩
        · have Bz := Below.refl V11.heap.size V11
          obtain ⟨p1_0, p1_1, p1_2, p1_3, p1_4, p1_5, p1_6, p1_7, p1_8, p1_9, p1_10, p1_11, p1_12, -⟩ := (zx HX1 Bz).cz
          have f1_0 := (zx HX1 Bz).frozen 0
          have f1_1 := (zx HX1 Bz).frozen 1
          have f1_2 := (zx HX1 Bz).frozen 2
          have f1_3 := (zx HX1 Bz).frozen 3
          have f1_4 := (zx HX1 Bz).frozen 4
          have f1_5 := (zx HX1 Bz).frozen 5
          have f1_6 := (zx HX1 Bz).frozen 6
          have f1_7 := (zx HX1 Bz).frozen 7
          have f1_8 := (zx HX1 Bz).frozen 8
          have f1_9 := (zx HX1 Bz).frozen 9
          have f1_10 := (zx HX1 Bz).frozen 10
          have f1_11 := (zx HX1 Bz).frozen 11
          have f1_12 := (zx HX1 Bz).frozen 12
          have y1 := (zx HX1 Bz).lt
          have p4_1 := (zx HX4 Bz).cell 1 (.slice (some ⟨lb, 0, none⟩) 1 1) rfl
          have zi : ((14 : Nat) : Int) = 14 := rfl
          rw [zi]
          clear zi
          go_wp2_with fail
          clear p1_0 p1_1 p1_2 p1_3 p1_4 p1_5 p1_6 p1_7 p1_8 p1_9 p1_10 p1_11 p1_12 f1_0 f1_1 f1_2 f1_3 f1_4 f1_5 f1_6 f1_7 f1_8 f1_9 f1_10 f1_11 f1_12 y1 p4_1
          obtain ⟨V21, hW, x, kk, far, bel⟩ := st13_0_13 (.int .u8 1) (.slice (some ⟨V11.heap.size, 0, none⟩) 1 1) (.slice none 0 0) (.int .i64 0) (.int .i64 0) (.int .i64 0) (.int .i64 0) (.int .i64 0) (.int .i64 0) (.int .i64 0) (.int .i64 0) (.slice none 0 0) (.slice none 0 0) (zx HX1 Bz) nofun nofun nofun nofun nofun nofun nofun nofun nofun nofun nofun nofun nofun
          have hzV21 : V21.heap.size = V11.heap.size := by rw [hW]; simp
          rw [← hW]
          clear hW
          replace hfr := hfr.k kk
          replace hB := bel w.heap.size w (by omega) (zAa hB Bz)
          replace HX0 := zh (far _ _ _ (by omega) (zx HX0 Bz))
          replace HX2 := zh (far _ _ _ (by omega) (zx HX2 Bz))
          replace HX3 := zh (far _ _ _ (by omega) (zx HX3 Bz))
          replace HX4 := zh (far _ _ _ (by omega) (zx HX4 Bz))
          replace HX1 := zh x
          clear x kk far bel Bz
          have Bz := Below.refl V21.heap.size V21
          have hz : V21.heap.size = V11.heap.size := by omega
          obtain ⟨V22, hW, x5, hN⟩ := zAb V21 #[(Value.slice none 0 0)] 54
          have hs5 : V22.heap.size = V21.heap.size + 1 := by rw [hW]; simp
          rw [← hW]
          clear hW
          rw [hz] at x5 hs5
          obtain ⟨v5, hb5⟩ : ∃ b, b = V11.heap.size := ⟨_, rfl⟩
          rw [← hb5] at x5 hs5 HX1 ⊢
          have o0_5 : v2 < v5 := by have := (zx HX0 Bz).lt; omega
          have o1_5 : lb < v5 := by have := (zx HX1 Bz).lt; omega
          have o2_5 : kb < v5 := by have := (zx HX2 Bz).lt; omega
          have o3_5 : bb < v5 := by have := (zx HX3 Bz).lt; omega
          have o4_5 : v4 < v5 := by have := (zx HX4 Bz).lt; omega
          have ow_5 : w.heap.size ≤ v5 := by have := hB.size; have := Bz.size; omega
          replace hfr := hfr.below hN
          replace hB := zAa (zAa hB Bz) hN
          replace HX0 := zh ((zx HX0 Bz).below hN)
          replace HX1 := zh ((zx HX1 Bz).below hN)
          replace HX2 := zh ((zx HX2 Bz).below hN)
          replace HX3 := zh ((zx HX3 Bz).below hN)
          replace HX4 := zh ((zx HX4 Bz).below hN)
          have HX5 := zh x5
          clear x5 hN Bz hb5
          have Bz := Below.refl V22.heap.size V22
          go_wp2_with fail
          go_meet
          case rel => exact ⟨HX0.out.below (zAa Bz (by go_grown)), (FrOk.below hfr (by go_grown)), HX4.out.below (zAa Bz (by go_grown)), Lone.of (HX1.out.below (zAa Bz (by go_grown))) rfl (bareY_ok (Sl.lit (f := Vc.cs) (L := [⟨none, 0, 0, []⟩]) (HX5.out.below (zAa Bz (by go_grown))) rfl rfl Vc.cs_len) (nil_ok (by simp)) (Sl.nil _) (fun _ h => (by cases h)) (Sl.nil _) (fun _ h => (by cases h)) (by simp)) sn_14, zAa hB (zAa Bz (by go_grown))⟩
        · have Bz := Below.refl V11.heap.size V11
          obtain ⟨p1_0, p1_1, p1_2, p1_3, p1_4, p1_5, p1_6, p1_7, p1_8, p1_9, p1_10, p1_11, p1_12, -⟩ := (zx HX1 Bz).cz
          have f1_0 := (zx HX1 Bz).frozen 0
          have f1_1 := (zx HX1 Bz).frozen 1
          have f1_2 := (zx HX1 Bz).frozen 2
          have f1_3 := (zx HX1 Bz).frozen 3
          have f1_4 := (zx HX1 Bz).frozen 4
          have f1_5 := (zx HX1 Bz).frozen 5
          have f1_6 := (zx HX1 Bz).frozen 6
          have f1_7 := (zx HX1 Bz).frozen 7
          have f1_8 := (zx HX1 Bz).frozen 8
          have f1_9 := (zx HX1 Bz).frozen 9
          have f1_10 := (zx HX1 Bz).frozen 10
          have f1_11 := (zx HX1 Bz).frozen 11
          have f1_12 := (zx HX1 Bz).frozen 12
          have y1 := (zx HX1 Bz).lt
          have p4_1 := (zx HX4 Bz).cell 1 (.slice (some ⟨lb, 0, none⟩) 1 1) rfl
          have zi : ((15 : Nat) : Int) = 15 := rfl
          rw [zi]
          clear zi
          obtain ⟨Z, hZ, hmz⟩ := makeR 1 1 rfl (by decide)
          go_wp2_with fail
          (try simp only [List.append_eq, List.cons_append, List.nil_append])
          refine wp_region_plan (.pure 0 (.take 1 (.only 2 (.pure 3 (.pure 4 (.only 5 .done)))))) [5] (fun w' => w'.cell? ⟨v4, 1, none⟩ = some (.slice (some ⟨lb, 0, none⟩) 1 1)) (by kernel_rfl) (by kernel_rfl) p4_1 ?_
          refine wpPlan_pure (o := ⟨some _, _, _, _, _, _⟩) rfl rfl (fun w' => by go_simp <;> with_reducible rfl) ?_
          try simp only [Act.put, List.setIfInBounds_toArray, List.set_cons_zero, List.set_cons_succ]
          refine wpPlan_take (o := ⟨some _, _, _, _, _, _⟩) rfl rfl (fun w' p4_1 => by go_simp <;> with_reducible rfl) ?_
          try simp only [Act.put, List.setIfInBounds_toArray, List.set_cons_zero, List.set_cons_succ]
          refine wpPlan_call (o := ⟨some 133, _, _, _, _, _⟩) rfl rfl (fun K hK => ?_)
          go_simp
          refine hK.out _ _ (cell_al p4_1) (fun _ => ?_)
          try simp only [Act.put, List.setIfInBounds_toArray, List.set_cons_zero, List.set_cons_succ]
          clear hK K
          iterate 2 (refine wpPlan_pure (o := ⟨some _, _, _, _, _, _⟩) rfl rfl (fun w' => by go_simp <;> with_reducible rfl) ?_; try simp only [Act.put, List.setIfInBounds_toArray, List.set_cons_zero, List.set_cons_succ])
          refine wpPlan_late (o := ⟨none, _, _, _, _, _⟩) rfl rfl (by decide) (fun K hK => ?_)
          go_simp
          refine hK.out _ _ ?_
          try simp only [Act.put, List.setIfInBounds_toArray, List.set_cons_zero, List.set_cons_succ]
          clear hK K
          refine wpPlan_done ?_
          clear p1_0 p1_1 p1_2 p1_3 p1_4 p1_5 p1_6 p1_7 p1_8 p1_9 p1_10 p1_11 p1_12 f1_0 f1_1 f1_2 f1_3 f1_4 f1_5 f1_6 f1_7 f1_8 f1_9 f1_10 f1_11 f1_12 y1 p4_1
          obtain ⟨V21, hW, x, kk, far, bel⟩ := st13_0_13 (.int .u8 3) (.slice none 0 0) (.slice (some ⟨V11.heap.size, 0, none⟩) 1 1) (.int .i64 0) (.int .i64 0) (.int .i64 0) (.int .i64 0) (.int .i64 0) (.int .i64 0) (.int .i64 0) (.int .i64 0) (.slice none 0 0) (.slice none 0 0) (zx HX1 Bz) nofun nofun nofun nofun nofun nofun nofun nofun nofun nofun nofun nofun nofun
          have hzV21 : V21.heap.size = V11.heap.size := by rw [hW]; simp
          rw [← hW]
          clear hW
          replace hfr := hfr.k kk
          replace hB := bel w.heap.size w (by omega) (zAa hB Bz)
          replace HX0 := zh (far _ _ _ (by omega) (zx HX0 Bz))
          replace HX2 := zh (far _ _ _ (by omega) (zx HX2 Bz))
          replace HX3 := zh (far _ _ _ (by omega) (zx HX3 Bz))
          replace HX4 := zh (far _ _ _ (by omega) (zx HX4 Bz))
          replace HX1 := zh x
          clear x kk far bel Bz
          have Bz := Below.refl V21.heap.size V21
          have hz : V21.heap.size = V11.heap.size := by omega
          obtain ⟨V22, hW, x5, hN⟩ := zAb V21 Z 27
          have hs5 : V22.heap.size = V21.heap.size + 1 := by rw [hW]; simp
          rw [← hW]
          clear hW
          rw [hz] at x5 hs5
          obtain ⟨v5, hb5⟩ : ∃ b, b = V11.heap.size := ⟨_, rfl⟩
          rw [← hb5] at x5 hs5 HX1 ⊢
          have o0_5 : v2 < v5 := by have := (zx HX0 Bz).lt; omega
          have o1_5 : lb < v5 := by have := (zx HX1 Bz).lt; omega
          have o2_5 : kb < v5 := by have := (zx HX2 Bz).lt; omega
          have o3_5 : bb < v5 := by have := (zx HX3 Bz).lt; omega
          have o4_5 : v4 < v5 := by have := (zx HX4 Bz).lt; omega
          have ow_5 : w.heap.size ≤ v5 := by have := hB.size; have := Bz.size; omega
          replace hfr := hfr.below hN
          replace hB := zAa (zAa hB Bz) hN
          replace HX0 := zh ((zx HX0 Bz).below hN)
          replace HX1 := zh ((zx HX1 Bz).below hN)
          replace HX2 := zh ((zx HX2 Bz).below hN)
          replace HX3 := zh ((zx HX3 Bz).below hN)
          replace HX4 := zh ((zx HX4 Bz).below hN)
          have HX5 := zh x5
          clear x5 hN Bz hb5
          have Bz := Below.refl V22.heap.size V22
          go_wp2_with fail
          go_meet
          case rel => exact ⟨HX0.out.below (zAa Bz (by go_grown)), (FrOk.below hfr (by go_grown)), HX4.out.below (zAa Bz (by go_grown)), Lone.of (HX1.out.below (zAa Bz (by go_grown))) rfl (bareY_ok (Sl.nil _) (fun _ h => (by cases h)) (zR (HX5.out.below (zAa Bz (by go_grown))) hZ) (z_ok fun x hx => List.eq_of_mem_replicate hx) (Sl.nil _) (fun _ h => (by cases h)) (by decide)) sn_15, zAa hB (zAa Bz (by go_grown))⟩
        · have Bz := Below.refl V11.heap.size V11
          obtain ⟨p1_0, p1_1, p1_2, p1_3, p1_4, p1_5, p1_6, p1_7, p1_8, p1_9, p1_10, p1_11, p1_12, -⟩ := (zx HX1 Bz).cz
          have f1_0 := (zx HX1 Bz).frozen 0
          have f1_1 := (zx HX1 Bz).frozen 1
          have f1_2 := (zx HX1 Bz).frozen 2
          have f1_3 := (zx HX1 Bz).frozen 3
          have f1_4 := (zx HX1 Bz).frozen 4
          have f1_5 := (zx HX1 Bz).frozen 5
          have f1_6 := (zx HX1 Bz).frozen 6
          have f1_7 := (zx HX1 Bz).frozen 7
          have f1_8 := (zx HX1 Bz).frozen 8
          have f1_9 := (zx HX1 Bz).frozen 9
          have f1_10 := (zx HX1 Bz).frozen 10
          have f1_11 := (zx HX1 Bz).frozen 11
          have f1_12 := (zx HX1 Bz).frozen 12
          have y1 := (zx HX1 Bz).lt
          have p4_1 := (zx HX4 Bz).cell 1 (.slice (some ⟨lb, 0, none⟩) 1 1) rfl
          have zi : ((16 : Nat) : Int) = 16 := rfl
          rw [zi]
          clear zi
          go_wp2_with fail
          clear p1_0 p1_1 p1_2 p1_3 p1_4 p1_5 p1_6 p1_7 p1_8 p1_9 p1_10 p1_11 p1_12 f1_0 f1_1 f1_2 f1_3 f1_4 f1_5 f1_6 f1_7 f1_8 f1_9 f1_10 f1_11 f1_12 y1 p4_1
          obtain ⟨V21, hW, x, kk, far, bel⟩ := st13_0_13 (.int .u8 4) (.slice none 0 0) (.slice none 0 0) (.int .i64 0) (.int .i64 0) (.int .i64 0) (.int .i64 0) (.int .i64 0) (.int .i64 0) (.int .i64 0) (.int .i64 0) (.slice none 0 0) (.slice (some ⟨V11.heap.size + 1, 0, none⟩) 1 1) (zx HX1 Bz) nofun nofun nofun nofun nofun nofun nofun nofun nofun nofun nofun nofun nofun
          have hzV21 : V21.heap.size = V11.heap.size := by rw [hW]; simp
          rw [← hW]
          clear hW
          replace hfr := hfr.k kk
          replace hB := bel w.heap.size w (by omega) (zAa hB Bz)
          replace HX0 := zh (far _ _ _ (by omega) (zx HX0 Bz))
          replace HX2 := zh (far _ _ _ (by omega) (zx HX2 Bz))
          replace HX3 := zh (far _ _ _ (by omega) (zx HX3 Bz))
          replace HX4 := zh (far _ _ _ (by omega) (zx HX4 Bz))
          replace HX1 := zh x
          clear x kk far bel Bz
          have Bz := Below.refl V21.heap.size V21
          have hz : V21.heap.size = V11.heap.size := by omega
          obtain ⟨V22, hW, x5, hN⟩ := zAb V21 #[] 3
          have hs5 : V22.heap.size = V21.heap.size + 1 := by rw [hW]; simp
          rw [← hW]
          clear hW
          rw [hz] at x5 hs5
          obtain ⟨v5, hb5⟩ : ∃ b, b = V11.heap.size := ⟨_, rfl⟩
          rw [← hb5] at x5 hs5 HX1 ⊢
          have o0_5 : v2 < v5 := by have := (zx HX0 Bz).lt; omega
          have o1_5 : lb < v5 := by have := (zx HX1 Bz).lt; omega
          have o2_5 : kb < v5 := by have := (zx HX2 Bz).lt; omega
          have o3_5 : bb < v5 := by have := (zx HX3 Bz).lt; omega
          have o4_5 : v4 < v5 := by have := (zx HX4 Bz).lt; omega
          have ow_5 : w.heap.size ≤ v5 := by have := hB.size; have := Bz.size; omega
          replace hfr := hfr.below hN
          replace hB := zAa (zAa hB Bz) hN
          replace HX0 := zh ((zx HX0 Bz).below hN)
          replace HX1 := zh ((zx HX1 Bz).below hN)
          replace HX2 := zh ((zx HX2 Bz).below hN)
          replace HX3 := zh ((zx HX3 Bz).below hN)
          replace HX4 := zh ((zx HX4 Bz).below hN)
          have HX5 := zh x5
          clear x5 hN Bz hb5
          have Bz := Below.refl V22.heap.size V22
          obtain ⟨V23, hW, x6, hN⟩ := zAb V22 #[.slice (some ⟨v5, 0, none⟩) 0 0] 39
          have hs6 : V23.heap.size = V22.heap.size + 1 := by rw [hW]; simp
          rw [← hW]
          clear hW
          rw [hs5] at x6 hs6
          obtain ⟨v6, hb6⟩ : ∃ b, b = v5 + 1 := ⟨_, rfl⟩
          rw [← hb6] at x6 hs6 HX1 ⊢
          have o0_6 : v2 < v6 := by have := (zx HX0 Bz).lt; omega
          have o1_6 : lb < v6 := by have := (zx HX1 Bz).lt; omega
          have o2_6 : kb < v6 := by have := (zx HX2 Bz).lt; omega
          have o3_6 : bb < v6 := by have := (zx HX3 Bz).lt; omega
          have o4_6 : v4 < v6 := by have := (zx HX4 Bz).lt; omega
          have o5_6 : v5 < v6 := by have := (zx HX5 Bz).lt; omega
          have ow_6 : w.heap.size ≤ v6 := by have := hB.size; have := Bz.size; omega
          replace hfr := hfr.below hN
          replace hB := zAa (zAa hB Bz) hN
          replace HX0 := zh ((zx HX0 Bz).below hN)
          replace HX1 := zh ((zx HX1 Bz).below hN)
          replace HX2 := zh ((zx HX2 Bz).below hN)
          replace HX3 := zh ((zx HX3 Bz).below hN)
          replace HX4 := zh ((zx HX4 Bz).below hN)
          replace HX5 := zh ((zx HX5 Bz).below hN)
          have HX6 := zh x6
          clear x6 hN Bz hb6
          have Bz := Below.refl V23.heap.size V23
          clear hs5
          go_wp2_with fail
          go_meet
          case rel => exact ⟨HX0.out.below (zAa Bz (by go_grown)), (FrOk.below hfr (by go_grown)), HX4.out.below (zAa Bz (by go_grown)), Lone.of (HX1.out.below (zAa Bz (by go_grown))) rfl (bareY_ok (Sl.nil _) (fun _ h => (by cases h)) (Sl.nil _) (fun _ h => (by cases h)) (Sl.lit (f := Gp.cs) (L := [⟨some ⟨v5, 0, none⟩, 0, 0, []⟩]) (HX6.out.below (zAa Bz (by go_grown))) rfl rfl Gp.cs_len) (fun v hv => by obtain rfl := List.mem_singleton.1 hv; exact ⟨Sl.lit (f := ics) (HX5.out.below (zAa Bz (by go_grown))) rfl rfl ics_len, by simp⟩) (by simp)) sn_16, zAa hB (zAa Bz (by go_grown))⟩
      case rest =>
        clear HX0 HX1 HX2 HX3 HX4 hfr hB
        obtain ⟨hx0, hfr, hx1, ⟨y, hsl, hok, hsz⟩, hB0⟩ := hcut
        obtain ⟨wx, rfl, hB⟩ : ∃ wx, wx = _ ∧ Below w.heap.size w wx := ⟨_, rfl, hB0⟩
        have HX0 := zh hx0
        have HX1 := zh hx1
        have HSL := zh hsl
        have HOK := zh hok
        have HSZ := zh hsz
        clear hx0 hx1 hsl hok hsz hB0
        have Bz := Below.refl wx.heap.size wx
        obtain ⟨p1_0, p1_1, -⟩ := (zx HX1 Bz).cz
        go_wp2_with fail
        with_reducible refine (check_is (HSL.out.below (zAa (b := wx) Bz (by go_grown))) (HOK.out.below (zAa (b := wx) Bz (by go_grown))) (m := 1) (by omega) (by omega) (zh (Tab.below hT.out (zAa hB (zAa (b := wx) Bz (by go_grown))))) 22 (zh (check_of HSZ.out))).mono ?_
        rintro e w31 ⟨rfl, b31⟩
        replace b31 := zAa (a := wx) (by go_grown) b31
        replace hfr := hfr.below b31
        replace Bz := zAa Bz b31
        clear b31
        clear p1_0 p1_1
        obtain ⟨p1_0, p1_1, -⟩ := (zx HX1 Bz).cz
        go_wp2_with fail
        with_reducible refine (sizes_no (HSL.out.below (zAa (b := w31) Bz (by go_grown))) (HOK.out.below (zAa (b := w31) Bz (by go_grown))) (m := 1) (by omega) (by omega) (zh (Tab.below hT.out (zAa hB (zAa (b := w31) Bz (by go_grown))))) HSZ).mono ?_
        rintro e w32 ⟨A32, c32, rfl, b32⟩
        replace b32 := zAa (a := w31) (by go_grown) b32
        replace hfr := hfr.below b32
        replace Bz := zAa Bz b32
        clear b32
        clear p1_0 p1_1
        go_wp2_with fail
        go_roundg (17 - (i + 1))
        case measure => have := HGK.out; omega
        case rel => exact ⟨i + 1, by omega, rfl, by go_num, HX0.out.below (zAa Bz (by go_grown)), (FrOk.below hfr (by go_grown)), zAa hB (zAa Bz (by go_grown))⟩
    · obtain rfl : i = 17 := by omega
      have i1 : ¬ ((17 : Nat) : Int) < 17 := by decide
      have HX1 := HX0
      have HX2 := HX0
      have Bz := Below.refl wr.heap.size wr
      have q0 := (zx HX0 Bz).lt
      go_wp2_with fail
      with_reducible refine (picture_b).mono ?_
      rintro e w41 ⟨lb, kb, bb, rfl, xl, xk, xb, ⟨d1, d2, d3, d4, d5, d6⟩, b41⟩
      replace b41 := zAa (a := wr) (by go_grown) b41
      replace hfr := hfr.below b41
      replace Bz := zAa Bz b41
      clear b41
      replace hB := zAa hB Bz
      replace HX0 := zh (zx HX0 Bz)
      replace HX1 := zh (zx HX1 Bz)
      replace HX2 := zh (zx HX2 Bz)
      clear Bz
      have Bz := Below.refl w41.heap.size w41
      have HX3 := zh xl
      clear xl
      have HX4 := zh xk
      clear xk
      have HX5 := zh xb
      clear xb
      go_upto_region 45 with (fail)
      obtain ⟨V41, hW, x6, hN⟩ := zAb w41 #[.int .i64 4, .slice (some ⟨lb, 0, none⟩) 1 1] 30
      rw [← hW]
      clear hW
      obtain ⟨v6, hb6⟩ : ∃ b, b = w41.heap.size := ⟨_, rfl⟩
      rw [← hb6] at x6 ⊢
      have o0_6 : v2 < v6 := by have := (zx HX0 Bz).lt; omega
      have o1_6 : v2 < v6 := by have := (zx HX1 Bz).lt; omega
      have o2_6 : v2 < v6 := by have := (zx HX2 Bz).lt; omega
      have o3_6 : lb < v6 := by have := (zx HX3 Bz).lt; omega
      have o4_6 : kb < v6 := by have := (zx HX4 Bz).lt; omega
      have o5_6 : bb < v6 := by have := (zx HX5 Bz).lt; omega
      have ow_6 : w.heap.size ≤ v6 := by have := hB.size; have := Bz.size; omega
      replace hfr := hfr.below hN
      replace hB := zAa (zAa hB Bz) hN
      replace HX0 := zh ((zx HX0 Bz).below hN)
      replace HX1 := zh ((zx HX1 Bz).below hN)
      replace HX2 := zh ((zx HX2 Bz).below hN)
      replace HX3 := zh ((zx HX3 Bz).below hN)
      replace HX4 := zh ((zx HX4 Bz).below hN)
      replace HX5 := zh ((zx HX5 Bz).below hN)
      have HX6 := zh x6
      clear x6 hN Bz hb6
      have Bz := Below.refl V41.heap.size V41
      have p3_9 := (zx HX3 Bz).cell 9 (.int .i64 1) rfl
      have f3_9 := (zx HX3 Bz).frozen 9
      have y3 := (zx HX3 Bz).lt
      have p6_1 := (zx HX6 Bz).cell 1 (.slice (some ⟨lb, 0, none⟩) 1 1) rfl
      go_upto_region 46 with (fail)
      obtain ⟨V42, hW, x, kk, far, bel⟩ := st13_9_1 (.int .i64 2) (zx HX3 Bz) nofun
      rw [← hW]
      clear hW
      replace hfr := hfr.k kk
      replace hB := bel w.heap.size w (by omega) (zAa hB Bz)
      replace HX0 := zh (far _ _ _ (by omega) (zx HX0 Bz))
      replace HX1 := zh (far _ _ _ (by omega) (zx HX1 Bz))
      replace HX2 := zh (far _ _ _ (by omega) (zx HX2 Bz))
      replace HX4 := zh (far _ _ _ (by omega) (zx HX4 Bz))
      replace HX5 := zh (far _ _ _ (by omega) (zx HX5 Bz))
      replace HX6 := zh (far _ _ _ (by omega) (zx HX6 Bz))
      replace HX3 := zh x
      clear x kk far bel Bz
      have Bz := Below.refl V42.heap.size V42
      clear p3_9 f3_9 y3 p6_1
      have hl5 : Lone V42 lb 4 (.ok [4, 4]) := Lone.of (zx HX3 Bz) rfl (picY_ok (Sl.nil _) (fun _ h => (by cases h)) (Sl.lit (f := Fr.cs) (L := [zFr]) (zx HX5 Bz) rfl rfl Fr.cs_len) (z_ok (by simp)) (Sl.lit (f := Fr.cs) (L := [zFr, zFr, zFr, zFr]) (zx HX4 Bz) rfl rfl Fr.cs_len) (z_ok (by simp)) (by decide)) sn_st
      clear HX3
      clear HX4
      clear HX5
      go_upto_region 47 with (fail)
      obtain ⟨V43, hW, x7, hN⟩ := zAb V42 #[.int .i64 0, .int .i64 2] 3
      have hs7 : V43.heap.size = V42.heap.size + 1 := by rw [hW]; simp
      rw [← hW]
      clear hW
      obtain ⟨v7, hb7⟩ : ∃ b, b = V42.heap.size := ⟨_, rfl⟩
      rw [← hb7] at x7 hs7 ⊢
      have o0_7 : v2 < v7 := by have := (zx HX0 Bz).lt; omega
      have o1_7 : v2 < v7 := by have := (zx HX1 Bz).lt; omega
      have o2_7 : v2 < v7 := by have := (zx HX2 Bz).lt; omega
      have o6_7 : v6 < v7 := by have := (zx HX6 Bz).lt; omega
      have ow_7 : w.heap.size ≤ v7 := by have := hB.size; have := Bz.size; omega
      replace hfr := hfr.below hN
      replace hl5 := hl5.below hN
      replace hB := zAa (zAa hB Bz) hN
      replace HX0 := zh ((zx HX0 Bz).below hN)
      replace HX1 := zh ((zx HX1 Bz).below hN)
      replace HX2 := zh ((zx HX2 Bz).below hN)
      replace HX6 := zh ((zx HX6 Bz).below hN)
      have HX7 := zh x7
      clear x7 hN Bz hb7
      have Bz := Below.refl V43.heap.size V43
      obtain ⟨V44, hW, x8, hN⟩ := zAb V43 #[.int .i64 1] 3
      have hs8 : V44.heap.size = V43.heap.size + 1 := by rw [hW]; simp
      rw [← hW]
      clear hW
      rw [hs7] at x8 hs8
      obtain ⟨v8, hb8⟩ : ∃ b, b = v7 + 1 := ⟨_, rfl⟩
      rw [← hb8] at x8 hs8  ⊢
      have o0_8 : v2 < v8 := by have := (zx HX0 Bz).lt; omega
      have o1_8 : v2 < v8 := by have := (zx HX1 Bz).lt; omega
      have o2_8 : v2 < v8 := by have := (zx HX2 Bz).lt; omega
      have o6_8 : v6 < v8 := by have := (zx HX6 Bz).lt; omega
      have o7_8 : v7 < v8 := by have := (zx HX7 Bz).lt; omega
      have ow_8 : w.heap.size ≤ v8 := by have := hB.size; have := Bz.size; omega
      replace hfr := hfr.below hN
      replace hl5 := hl5.below hN
      replace hB := zAa (zAa hB Bz) hN
      replace HX0 := zh ((zx HX0 Bz).below hN)
      replace HX1 := zh ((zx HX1 Bz).below hN)
      replace HX2 := zh ((zx HX2 Bz).below hN)
      replace HX6 := zh ((zx HX6 Bz).below hN)
      replace HX7 := zh ((zx HX7 Bz).below hN)
      have HX8 := zh x8
      clear x8 hN Bz hb8
      have Bz := Below.refl V44.heap.size V44
      clear hs7
      obtain ⟨V45, hW, x9, hN⟩ := zAb V44 #[.slice (some ⟨v7, 0, none⟩) 2 2, .slice (some ⟨v8, 0, none⟩) 1 1] 39
      have hs9 : V45.heap.size = V44.heap.size + 1 := by rw [hW]; simp
      rw [← hW]
      clear hW
      rw [hs8] at x9 hs9
      obtain ⟨v9, hb9⟩ : ∃ b, b = v8 + 1 := ⟨_, rfl⟩
      rw [← hb9] at x9 hs9  ⊢
      have o0_9 : v2 < v9 := by have := (zx HX0 Bz).lt; omega
      have o1_9 : v2 < v9 := by have := (zx HX1 Bz).lt; omega
      have o2_9 : v2 < v9 := by have := (zx HX2 Bz).lt; omega
      have o6_9 : v6 < v9 := by have := (zx HX6 Bz).lt; omega
      have o7_9 : v7 < v9 := by have := (zx HX7 Bz).lt; omega
      have o8_9 : v8 < v9 := by have := (zx HX8 Bz).lt; omega
      have ow_9 : w.heap.size ≤ v9 := by have := hB.size; have := Bz.size; omega
      replace hfr := hfr.below hN
      replace hl5 := hl5.below hN
      replace hB := zAa (zAa hB Bz) hN
      replace HX0 := zh ((zx HX0 Bz).below hN)
      replace HX1 := zh ((zx HX1 Bz).below hN)
      replace HX2 := zh ((zx HX2 Bz).below hN)
      replace HX6 := zh ((zx HX6 Bz).below hN)
      replace HX7 := zh ((zx HX7 Bz).below hN)
      replace HX8 := zh ((zx HX8 Bz).below hN)
      have HX9 := zh x9
      clear x9 hN Bz hb9
      have Bz := Below.refl V45.heap.size V45
      clear hs8
      obtain ⟨V46, hW, x10, hN⟩ := zAb V45 #[.int .u8 4, .slice none 0 0, .slice none 0 0, .int .i64 0, .int .i64 0, .int .i64 0, .int .i64 0, .int .i64 0, .int .i64 0, .int .i64 0, .int .i64 0, .slice none 0 0, .slice (some ⟨v9, 0, none⟩) 2 2] 38
      have hs10 : V46.heap.size = V45.heap.size + 1 := by rw [hW]; simp
      rw [← hW]
      clear hW
      rw [hs9] at x10 hs10
      obtain ⟨v10, hb10⟩ : ∃ b, b = v9 + 1 := ⟨_, rfl⟩
      rw [← hb10] at x10 hs10  ⊢
      have o0_10 : v2 < v10 := by have := (zx HX0 Bz).lt; omega
      have o1_10 : v2 < v10 := by have := (zx HX1 Bz).lt; omega
      have o2_10 : v2 < v10 := by have := (zx HX2 Bz).lt; omega
      have o6_10 : v6 < v10 := by have := (zx HX6 Bz).lt; omega
      have o7_10 : v7 < v10 := by have := (zx HX7 Bz).lt; omega
      have o8_10 : v8 < v10 := by have := (zx HX8 Bz).lt; omega
      have o9_10 : v9 < v10 := by have := (zx HX9 Bz).lt; omega
      have ow_10 : w.heap.size ≤ v10 := by have := hB.size; have := Bz.size; omega
      replace hfr := hfr.below hN
      replace hl5 := hl5.below hN
      replace hB := zAa (zAa hB Bz) hN
      replace HX0 := zh ((zx HX0 Bz).below hN)
      replace HX1 := zh ((zx HX1 Bz).below hN)
      replace HX2 := zh ((zx HX2 Bz).below hN)
      replace HX6 := zh ((zx HX6 Bz).below hN)
      replace HX7 := zh ((zx HX7 Bz).below hN)
      replace HX8 := zh ((zx HX8 Bz).below hN)
      replace HX9 := zh ((zx HX9 Bz).below hN)
      have HX10 := zh x10
      clear x10 hN Bz hb10
      have Bz := Below.refl V46.heap.size V46
      clear hs9
      obtain ⟨V47, hW, x11, hN⟩ := zAb V46 #[.int .i64 3, .slice (some ⟨v10, 0, none⟩) 1 1] 30
      have hs11 : V47.heap.size = V46.heap.size + 1 := by rw [hW]; simp
      rw [← hW]
      clear hW
      rw [hs10] at x11 hs11
      obtain ⟨v11, hb11⟩ : ∃ b, b = v10 + 1 := ⟨_, rfl⟩
      rw [← hb11] at x11 hs11  ⊢
      have o0_11 : v2 < v11 := by have := (zx HX0 Bz).lt; omega
      have o1_11 : v2 < v11 := by have := (zx HX1 Bz).lt; omega
      have o2_11 : v2 < v11 := by have := (zx HX2 Bz).lt; omega
      have o6_11 : v6 < v11 := by have := (zx HX6 Bz).lt; omega
      have o7_11 : v7 < v11 := by have := (zx HX7 Bz).lt; omega
      have o8_11 : v8 < v11 := by have := (zx HX8 Bz).lt; omega
      have o9_11 : v9 < v11 := by have := (zx HX9 Bz).lt; omega
      have o10_11 : v10 < v11 := by have := (zx HX10 Bz).lt; omega
      have ow_11 : w.heap.size ≤ v11 := by have := hB.size; have := Bz.size; omega
      replace hfr := hfr.below hN
      replace hl5 := hl5.below hN
      replace hB := zAa (zAa hB Bz) hN
      replace HX0 := zh ((zx HX0 Bz).below hN)
      replace HX1 := zh ((zx HX1 Bz).below hN)
      replace HX2 := zh ((zx HX2 Bz).below hN)
      replace HX6 := zh ((zx HX6 Bz).below hN)
      replace HX7 := zh ((zx HX7 Bz).below hN)
      replace HX8 := zh ((zx HX8 Bz).below hN)
      replace HX9 := zh ((zx HX9 Bz).below hN)
      replace HX10 := zh ((zx HX10 Bz).below hN)
      have HX11 := zh x11
      clear x11 hN Bz hb11
      have Bz := Below.refl V47.heap.size V47
      clear hs10
      have hl6 : Lone V47 v10 3 (.ok [3, 2]) := Lone.of (zx HX10 Bz) rfl (bareY_ok (Sl.nil _) (fun _ h => (by cases h)) (Sl.nil _) (fun _ h => (by cases h)) (Sl.lit (f := Gp.cs) (L := [⟨some ⟨v7, 0, none⟩, 2, 2, [0, 2]⟩, ⟨some ⟨v8, 0, none⟩, 1, 1, [1]⟩]) (zx HX9 Bz) rfl rfl Gp.cs_len) (fun v hv => by rcases List.mem_cons.1 hv with rfl | hv; exact ⟨Sl.lit (f := ics) (zx HX7 Bz) rfl rfl ics_len, by simp⟩; obtain rfl := List.mem_singleton.1 hv; exact ⟨Sl.lit (f := ics) (zx HX8 Bz) rfl rfl ics_len, by simp⟩) (by simp)) sn_pool
      clear hs11
      clear HX7
      clear HX8
      clear HX9
      clear HX10
      replace hB := zAa hB Bz
      replace HX0 := zh (zx HX0 Bz)
      replace HX1 := zh (zx HX1 Bz)
      replace HX2 := zh (zx HX2 Bz)
      replace HX6 := zh (zx HX6 Bz)
      replace HX11 := zh (zx HX11 Bz)
      replace hfr := hfr.below Bz
      replace hl5 := hl5.below Bz
      replace hl6 := hl6.below Bz
      clear Bz
      (try simp only [List.append_eq, List.cons_append, List.nil_append])
      refine wide_47 (Nat.le_of_ble_eq_true rfl) (fun u1 u2 u3 u4 u5 nb7 lb7 W7 hx hl7 hq => ?_)
      try simp only [Act.put, List.setIfInBounds_toArray, List.set_cons_zero, List.set_cons_succ]
      replace hB := zAa hB hq
      replace HX0 := zh (HX0.out.below hq)
      replace HX1 := zh (HX1.out.below hq)
      replace HX2 := zh (HX2.out.below hq)
      replace HX6 := zh (HX6.out.below hq)
      replace HX11 := zh (HX11.out.below hq)
      replace hfr := hfr.below hq
      replace hl5 := hl5.below hq
      replace hl6 := hl6.below hq
      have HX12 := zh hx
      clear hx hq
      have Bz := Below.refl W7.heap.size W7
      go_upto_region 48 with (fail)
      replace hB := zAa hB Bz
      replace HX0 := zh (zx HX0 Bz)
      replace HX1 := zh (zx HX1 Bz)
      replace HX2 := zh (zx HX2 Bz)
      replace HX6 := zh (zx HX6 Bz)
      replace HX11 := zh (zx HX11 Bz)
      replace HX12 := zh (zx HX12 Bz)
      replace hfr := hfr.below Bz
      replace hl5 := hl5.below Bz
      replace hl6 := hl6.below Bz
      replace hl7 := hl7.below Bz
      clear Bz
      (try simp only [List.append_eq, List.cons_append, List.nil_append])
      refine wide_48 (Nat.le_of_ble_eq_true rfl) (fun u1 u2 u3 u4 u5 nb8 lb8 W8 hx hl8 hq => ?_)
      try simp only [Act.put, List.setIfInBounds_toArray, List.set_cons_zero, List.set_cons_succ]
      replace hB := zAa hB hq
      replace HX0 := zh (HX0.out.below hq)
      replace HX1 := zh (HX1.out.below hq)
      replace HX2 := zh (HX2.out.below hq)
      replace HX6 := zh (HX6.out.below hq)
      replace HX11 := zh (HX11.out.below hq)
      replace HX12 := zh (HX12.out.below hq)
      replace hfr := hfr.below hq
      replace hl5 := hl5.below hq
      replace hl6 := hl6.below hq
      replace hl7 := hl7.below hq
      have HX13 := zh hx
      clear hx hq
      have Bz := Below.refl W8.heap.size W8
      go_upto_region 49 with (fail)
      have XX0 := zh (zx HX0 Bz)
      have XX1 := zh (zx HX1 Bz)
      have XX2 := zh (zx HX2 Bz)
      have XX6 := zh (zx HX6 Bz)
      have XX11 := zh (zx HX11 Bz)
      have XX12 := zh (zx HX12 Bz)
      have XX13 := zh (zx HX13 Bz)
      have Yhfr := zh (hfr.below Bz)
      have Yhl5 := zh (hl5.below Bz)
      have Yhl6 := zh (hl6.below Bz)
      have Yhl7 := zh (hl7.below Bz)
      have Yhl8 := zh (hl8.below Bz)
      have hBD := Below.refl W8.heap.size W8
      go_upto_region 50 with (fail)
      obtain ⟨V48, hW, x14, hN⟩ := zAb W8 #[.int .i64 1, .slice none 0 0] 30
      rw [← hW]
      clear hW
      obtain ⟨v14, hb14⟩ : ∃ b, b = W8.heap.size := ⟨_, rfl⟩
      rw [← hb14] at x14 ⊢
      have o0_14 : v2 < v14 := by have := (zx HX0 Bz).lt; omega
      have o1_14 : v2 < v14 := by have := (zx HX1 Bz).lt; omega
      have o2_14 : v2 < v14 := by have := (zx HX2 Bz).lt; omega
      have o6_14 : v6 < v14 := by have := (zx HX6 Bz).lt; omega
      have o11_14 : v11 < v14 := by have := (zx HX11 Bz).lt; omega
      have o12_14 : nb7 < v14 := by have := (zx HX12 Bz).lt; omega
      have o13_14 : nb8 < v14 := by have := (zx HX13 Bz).lt; omega
      have ow_14 : w.heap.size ≤ v14 := by have := hB.size; have := Bz.size; omega
      have ow_14_hBD : W8.heap.size ≤ v14 := by have := hBD.size; have := Bz.size; omega
      replace hfr := hfr.below hN
      replace hl5 := hl5.below hN
      replace hl6 := hl6.below hN
      replace hl7 := hl7.below hN
      replace hl8 := hl8.below hN
      replace hB := zAa (zAa hB Bz) hN
      replace hBD := zAa (zAa hBD Bz) hN
      replace HX0 := zh ((zx HX0 Bz).below hN)
      replace HX1 := zh ((zx HX1 Bz).below hN)
      replace HX2 := zh ((zx HX2 Bz).below hN)
      replace HX6 := zh ((zx HX6 Bz).below hN)
      replace HX11 := zh ((zx HX11 Bz).below hN)
      replace HX12 := zh ((zx HX12 Bz).below hN)
      replace HX13 := zh ((zx HX13 Bz).below hN)
      have HX14 := zh x14
      clear x14 hN Bz hb14
      have Bz := Below.refl V48.heap.size V48
      go_wp2_with fail
      have XX14 := zh (zx HX14 Bz)
      have HB1 := zh (zAa hB Bz)
      have HB2 := zh (zAa hBD Bz)
      clear hB hBD Bz HX0 HX1 HX2 HX6 HX11 HX12 HX13 HX14 hfr hl5 hl6 hl7 hl8
      go_loopg [10] 17 (fun gk s wr => DP17 w W8 v14 gk s wr)
      case atStart => exact ⟨0, none, 0, by omega, rfl, rfl, HB1.out, XX14.out, OwnR.nil _ _ _ _, HB2.out⟩
      case round =>
            clear HB1 HB2 XX14
            obtain ⟨i, H, hc, hi2, hgk2, rfl, hB, hx9, how, hBD⟩ := hrel
            have HGK := zh hgk2
            have HX14 := zh hx9
            clear hgk2 hx9
            by_cases hlt2 : i < 17
            · have i1 : (i : Int) < 17 := by omega
              have Bz := Below.refl wr.heap.size wr
              have p14_1 := (zx HX14 Bz).cell 1 (.slice H i hc) rfl
              go_wp2_with (at_builtin; refine And.left (b := True) ?_)
              refine ⟨?_, trivial⟩
              obtain ⟨V71, hW, x15, hN⟩ := zAb wr #[.int .u8 3, .slice none 0 0, .slice none 0 0, .int .i64 0, .int .i64 0, .int .i64 0, .int .i64 0, .int .i64 0, .int .i64 0, .int .i64 0, .int .i64 0, .slice none 0 0, .slice none 0 0] 38
              rw [← hW]
              clear hW
              obtain ⟨v15, hb15⟩ : ∃ b, b = wr.heap.size := ⟨_, rfl⟩
              rw [← hb15] at x15 ⊢
              have o14_15 : v14 < v15 := by have := (zx HX14 Bz).lt; omega
              have ow_15 : w.heap.size ≤ v15 := by have := hB.size; have := Bz.size; omega
              replace how := how.below hN
              replace hB := zAa (zAa hB Bz) hN
              replace hBD := zAa (zAa hBD Bz) hN
              replace HX14 := zh ((zx HX14 Bz).below hN)
              have HX15 := zh x15
              clear x15 hN Bz hb15
              have Bz := Below.refl V71.heap.size V71
              clear p14_1
              have hdr : V71.drew.heap.size = V71.heap.size := rfl
              have hdr2 : V71.drew.drew.heap.size = V71.heap.size := rfl
              refine Elt.app elt_ly1 rfl _ _ rfl (v14 + 1) (.slice H i hc) (i) (List.replicate i reluY) rfl how (.slice (some ⟨v15, 0, none⟩) 1 1) (1) ([reluY]) rfl (From.one (HX15.out.below (zAa Bz (by go_grown))) (reluY) rfl (elt_ly1.len _)) (by omega) (by have := (zx HX14 Bz).lt; omega) ?_
              intro H71 c71 w71 ho71 hg71
              replace hB := (zAa (zAa hB Bz) (by go_grown)).trans (hg71.below (by have := hB.size; have := Bz.size; omega) (fun g hg => by have := how.base g hg; omega))
              replace hBD := (zAa (zAa hBD Bz) (by go_grown)).trans (hg71.below (by have := hBD.size; have := Bz.size; omega) (fun g hg => by have := how.base g hg; omega))
              replace HX14 := zh (hg71.bx (zx HX14 Bz) (how.off (by omega)))
              clear HX15
              clear hdr hdr2
              clear hg71 Bz
              have Bz := Below.refl w71.heap.size w71
              have p14_1 := (zx HX14 Bz).cell 1 (.slice H i hc) rfl
              have f14_1 := (zx HX14 Bz).frozen 1
              have y14 := (zx HX14 Bz).lt
              go_upto_region 52 with (fail)
              obtain ⟨V72, hW, x, kk, far, bel⟩ := st2_1_1 (.slice H71 (i + 1) c71) (zx HX14 Bz) nofun
              rw [← hW]
              clear hW
              replace ho71 := ho71.far far (by omega)
              replace hB := bel w.heap.size w (by omega) (zAa hB Bz)
              replace hBD := bel W8.heap.size W8 (by omega) (zAa hBD Bz)
              replace HX14 := zh x
              clear x kk far bel Bz
              have Bz := Below.refl V72.heap.size V72
              clear p14_1 f14_1 y14
              go_wp2_with fail
              go_roundg (17 - (i + 1))
              case measure => have := HGK.out; omega
              case rel => exact ⟨i + 1, _, _, by omega, rfl, by go_num, zAa hB (zAa Bz (by go_grown)), HX14.out.below (zAa Bz (by go_grown)), (rep_snoc _ i) ▸ ho71.below (zAa Bz (by go_grown)), zAa hBD (zAa Bz (by go_grown))⟩
            · obtain rfl : i = 17 := by omega
              have i1 : ¬ ((17 : Nat) : Int) < 17 := by decide
              have HX0 := zh (XX0.out.below hBD)
              have HX1 := zh (XX1.out.below hBD)
              have HX2 := zh (XX2.out.below hBD)
              have HX6 := zh (XX6.out.below hBD)
              have HX11 := zh (XX11.out.below hBD)
              have HX12 := zh (XX12.out.below hBD)
              have HX13 := zh (XX13.out.below hBD)
              have hfr := Yhfr.out.below hBD
              have hl5 := Yhl5.out.below hBD
              have hl6 := Yhl6.out.below hBD
              have hl7 := Yhl7.out.below hBD
              have hl8 := Yhl8.out.below hBD
              have Bz := Below.refl wr.heap.size wr
              obtain ⟨p6_0, p6_1, -⟩ := (zx HX6 Bz).cz
              go_wp2_with fail
              with_reducible refine (lone_sizes (Lone.below hl5 (by go_grown)) (zh (Tab.below hT.out (zAa hB (zAa (b := wr) Bz (by go_grown)))))).mono ?_
              rintro e w81 ⟨A81, n81, c81, rfl, hl81, hc81, b81⟩
              replace b81 := zAa (a := wr) (by go_grown) b81
              replace hfr := hfr.below b81
              replace hl6 := hl6.below b81
              replace hl7 := hl7.below b81
              replace hl8 := hl8.below b81
              replace how := how.below b81
              replace Bz := zAa Bz b81
              clear b81
              clear p6_0 p6_1
              go_wp2_with fail
              obtain ⟨V81, hW, x90, hN⟩ := zAb w81 #[.int .i64 4, .int .i64 4] 3
              rw [← hW]
              clear hW
              obtain ⟨v90, hb90⟩ : ∃ b, b = w81.heap.size := ⟨_, rfl⟩
              rw [← hb90] at x90 ⊢
              have o0_90 : v2 < v90 := by have := (zx HX0 Bz).lt; omega
              have o1_90 : v2 < v90 := by have := (zx HX1 Bz).lt; omega
              have o2_90 : v2 < v90 := by have := (zx HX2 Bz).lt; omega
              have o6_90 : v6 < v90 := by have := (zx HX6 Bz).lt; omega
              have o11_90 : v11 < v90 := by have := (zx HX11 Bz).lt; omega
              have o12_90 : nb7 < v90 := by have := (zx HX12 Bz).lt; omega
              have o13_90 : nb8 < v90 := by have := (zx HX13 Bz).lt; omega
              have o14_90 : v14 < v90 := by have := (zx HX14 Bz).lt; omega
              have ow_90 : w.heap.size ≤ v90 := by have := hB.size; have := Bz.size; omega
              replace hfr := hfr.below hN
              replace hl6 := hl6.below hN
              replace hl7 := hl7.below hN
              replace hl8 := hl8.below hN
              replace hl81 := hl81.below hN
              replace how := how.below hN
              replace hB := zAa (zAa hB Bz) hN
              replace HX0 := zh ((zx HX0 Bz).below hN)
              replace HX1 := zh ((zx HX1 Bz).below hN)
              replace HX2 := zh ((zx HX2 Bz).below hN)
              replace HX6 := zh ((zx HX6 Bz).below hN)
              replace HX11 := zh ((zx HX11 Bz).below hN)
              replace HX12 := zh ((zx HX12 Bz).below hN)
              replace HX13 := zh ((zx HX13 Bz).below hN)
              replace HX14 := zh ((zx HX14 Bz).below hN)
              have HX90 := zh x90
              clear x90 hN Bz hb90
              have Bz := Below.refl V81.heap.size V81
              with_reducible refine (sameInts_q (Sl.below hl81 (by go_grown)) (ints_sl [4, 4] (zx HX90 Bz) 2 rfl) (by have := hl81.len; simp at this; omega) (by omega) true (zh rfl)).mono ?_
              rintro e w82 ⟨rfl, b82⟩
              replace b82 := zAa (a := V81) (by go_grown) b82
              replace hfr := hfr.below b82
              replace hl6 := hl6.below b82
              replace hl7 := hl7.below b82
              replace hl8 := hl8.below b82
              replace how := how.below b82
              replace Bz := zAa Bz b82
              clear b82
              obtain ⟨p11_0, p11_1, -⟩ := (zx HX11 Bz).cz
              go_wp2_with fail
              with_reducible refine (lone_sizes (Lone.below hl6 (by go_grown)) (zh (Tab.below hT.out (zAa hB (zAa (b := w82) Bz (by go_grown)))))).mono ?_
              rintro e w83 ⟨A83, n83, c83, rfl, hl83, hc83, b83⟩
              replace b83 := zAa (a := w82) (by go_grown) b83
              replace hfr := hfr.below b83
              replace hl7 := hl7.below b83
              replace hl8 := hl8.below b83
              replace how := how.below b83
              replace Bz := zAa Bz b83
              clear b83
              clear p11_0 p11_1
              go_wp2_with fail
              obtain ⟨V82, hW, x91, hN⟩ := zAb w83 #[.int .i64 3, .int .i64 2] 3
              rw [← hW]
              clear hW
              obtain ⟨v91, hb91⟩ : ∃ b, b = w83.heap.size := ⟨_, rfl⟩
              rw [← hb91] at x91 ⊢
              have o0_91 : v2 < v91 := by have := (zx HX0 Bz).lt; omega
              have o1_91 : v2 < v91 := by have := (zx HX1 Bz).lt; omega
              have o2_91 : v2 < v91 := by have := (zx HX2 Bz).lt; omega
              have o6_91 : v6 < v91 := by have := (zx HX6 Bz).lt; omega
              have o11_91 : v11 < v91 := by have := (zx HX11 Bz).lt; omega
              have o12_91 : nb7 < v91 := by have := (zx HX12 Bz).lt; omega
              have o13_91 : nb8 < v91 := by have := (zx HX13 Bz).lt; omega
              have o14_91 : v14 < v91 := by have := (zx HX14 Bz).lt; omega
              have o90_91 : v90 < v91 := by have := (zx HX90 Bz).lt; omega
              have ow_91 : w.heap.size ≤ v91 := by have := hB.size; have := Bz.size; omega
              replace hfr := hfr.below hN
              replace hl7 := hl7.below hN
              replace hl8 := hl8.below hN
              replace hl83 := hl83.below hN
              replace how := how.below hN
              replace hB := zAa (zAa hB Bz) hN
              replace HX0 := zh ((zx HX0 Bz).below hN)
              replace HX1 := zh ((zx HX1 Bz).below hN)
              replace HX2 := zh ((zx HX2 Bz).below hN)
              replace HX6 := zh ((zx HX6 Bz).below hN)
              replace HX11 := zh ((zx HX11 Bz).below hN)
              replace HX12 := zh ((zx HX12 Bz).below hN)
              replace HX13 := zh ((zx HX13 Bz).below hN)
              replace HX14 := zh ((zx HX14 Bz).below hN)
              replace HX90 := zh ((zx HX90 Bz).below hN)
              have HX91 := zh x91
              clear x91 hN Bz hb91
              have Bz := Below.refl V82.heap.size V82
              with_reducible refine (sameInts_q (Sl.below hl83 (by go_grown)) (ints_sl [3, 2] (zx HX91 Bz) 2 rfl) (by have := hl83.len; simp at this; omega) (by omega) true (zh rfl)).mono ?_
              rintro e w84 ⟨rfl, b84⟩
              replace b84 := zAa (a := V82) (by go_grown) b84
              replace hfr := hfr.below b84
              replace hl7 := hl7.below b84
              replace hl8 := hl8.below b84
              replace how := how.below b84
              replace Bz := zAa Bz b84
              clear b84
              obtain ⟨p12_0, p12_1, -⟩ := (zx HX12 Bz).cz
              go_wp2_with fail
              with_reducible refine (lone_check (Lone.below hl7 (by go_grown)) (zh (Tab.below hT.out (zAa hB (zAa (b := w84) Bz (by go_grown))))) 0 (zh (by decide))).mono ?_
              rintro e w85 ⟨rfl, b85⟩
              replace b85 := zAa (a := w84) (by go_grown) b85
              replace hfr := hfr.below b85
              replace hl8 := hl8.below b85
              replace how := how.below b85
              replace Bz := zAa Bz b85
              clear b85
              clear p12_0 p12_1
              obtain ⟨p13_0, p13_1, -⟩ := (zx HX13 Bz).cz
              go_wp2_with fail
              with_reducible refine (lone_check (Lone.below hl8 (by go_grown)) (zh (Tab.below hT.out (zAa hB (zAa (b := w85) Bz (by go_grown))))) 25 (zh (by decide))).mono ?_
              rintro e w86 ⟨rfl, b86⟩
              replace b86 := zAa (a := w85) (by go_grown) b86
              replace hfr := hfr.below b86
              replace how := how.below b86
              replace Bz := zAa Bz b86
              clear b86
              clear p13_0 p13_1
              obtain ⟨p14_0, p14_1, -⟩ := (zx HX14 Bz).cz
              go_wp2_with fail
              with_reducible refine (check_is ((OwnR.below how (by go_grown)).sl' elt_ly1 List.length_replicate) (m := 1) relu_ok (by omega) (by omega) (zh (Tab.below hT.out (zAa hB (zAa (b := w86) Bz (by go_grown))))) 25 (zh (check_of (sn_deep (by simp))))).mono ?_
              rintro e w87 ⟨rfl, b87⟩
              replace b87 := zAa (a := w86) (by go_grown) b87
              replace hfr := hfr.below b87
              replace Bz := zAa Bz b87
              clear b87
              clear p14_0 p14_1
              go_wp2_with fail
              with_reducible refine (check_is (m := 1) (Sl.nil _) (lys_nil _) (by omega) (by omega) (zh (Tab.below hT.out (zAa hB (zAa (b := w87) Bz (by go_grown))))) 25 (zh (check_of sn_nil))).mono ?_
              rintro e w88 ⟨rfl, b88⟩
              replace b88 := zAa (a := w87) (by go_grown) b88
              replace hfr := hfr.below b88
              replace Bz := zAa Bz b88
              clear b88
              go_wp2_with fail
              with_reducible refine (check_is (m := 1) (Sl.nil _) (lys_nil _) (by omega) (by omega) (zh (Tab.below hT.out (zAa hB (zAa (b := w88) Bz (by go_grown))))) 0 (zh (check_of sn_64))).mono ?_
              rintro e w89 ⟨rfl, b89⟩
              replace b89 := zAa (a := w88) (by go_grown) b89
              replace hfr := hfr.below b89
              replace Bz := zAa Bz b89
              clear b89
              go_wp2_with fail
              with_reducible refine (many_q (zh (Tab.below hT.out (zAa hB (zAa (b := w89) Bz (by go_grown)))))).mono ?_
              rintro e w90 ⟨rfl, b90⟩
              replace b90 := zAa (a := w89) (by go_grown) b90
              replace hfr := hfr.below b90
              replace Bz := zAa Bz b90
              clear b90
              replace hB := zAa hB Bz
              replace HX0 := zh (zx HX0 Bz)
              clear Bz HX1 HX2 HX6 HX11 HX12 HX13 HX14 HX90 HX91 hl5 hl6 hl7 hl8
              have Bz := Below.refl w90.heap.size w90
              go_wp2_with fail
              with_reducible refine (exQuery_is 2 2 rfl (by omega) 0 1 0 (by omega) (by omega) (zh (Tab.below hT.out (zAa hB (zAa (b := w90) Bz (by go_grown)))))).mono ?_
              rintro e w91 ⟨q91, rfl, hq91, hi91, b91⟩
              replace b91 := zAa (a := w90) (by go_grown) b91
              replace hfr := hfr.below b91
              replace Bz := zAa Bz b91
              clear b91
              replace hB := zAa hB Bz
              replace HX0 := zh (zx HX0 Bz)
              clear Bz
              have Bz := Below.refl w91.heap.size w91
              have hBQ := Below.refl w91.heap.size w91
              have YQ := zh hq91
              clear hq91
              go_upto_region 56 with (fail)
              obtain ⟨V83, hW, x92, hN⟩ := zAb w91 #[.slice q91.xA q91.xn q91.xc, .int .i64 q91.label, .slice q91.oA q91.on q91.oc, .slice q91.hA q91.hn q91.hc, .int .u8 q91.norm] 47
              rw [← hW]
              clear hW
              obtain ⟨v92, hb92⟩ : ∃ b, b = w91.heap.size := ⟨_, rfl⟩
              rw [← hb92] at x92 ⊢
              have o0_92 : v2 < v92 := by have := (zx HX0 Bz).lt; omega
              have ow_92 : w.heap.size ≤ v92 := by have := hB.size; have := Bz.size; omega
              have ow_92_hBQ : w91.heap.size ≤ v92 := by have := hBQ.size; have := Bz.size; omega
              replace hfr := hfr.below hN
              replace hB := zAa (zAa hB Bz) hN
              replace hBQ := zAa (zAa hBQ Bz) hN
              replace HX0 := zh ((zx HX0 Bz).below hN)
              have HX92 := zh x92
              clear x92 hN Bz hb92
              have Bz := Below.refl V83.heap.size V83
              have p92_4 := (zx HX92 Bz).cell 4 (.int .u8 q91.norm) rfl
              have f92_4 := (zx HX92 Bz).frozen 4
              have y92 := (zx HX92 Bz).lt
              go_upto_region 57 with (fail)
              obtain ⟨V84, hW, x, kk, far, bel⟩ := st5_4_1 (.int .u8 3) (zx HX92 Bz) nofun
              rw [← hW]
              clear hW
              replace hfr := hfr.k kk
              replace hB := bel w.heap.size w (by omega) (zAa hB Bz)
              replace hBQ := bel w91.heap.size w91 (by omega) (zAa hBQ Bz)
              replace HX0 := zh (far _ _ _ (by omega) (zx HX0 Bz))
              replace HX92 := zh x
              clear x kk far bel Bz
              have Bz := Below.refl V84.heap.size V84
              clear p92_4 f92_4 y92
              go_upto_region 57 with (fail)
              have hPQ : w.heap.size ≤ V84.heap.size := by have := hB.size; have := Bz.size; omega
              have hPQ2 : w91.heap.size ≤ V84.heap.size := by have := hBQ.size; have := Bz.size; omega
              have HX0_lt : v2 < V84.heap.size := by have := HX0.out.lt; have := Bz.size; omega
              have HX92_lt : v92 < V84.heap.size := by have := HX92.out.lt; have := Bz.size; omega
              go_wp2_with fail
              with_reducible refine (exQuery_two 0 1 0 (by omega) (by omega) (zh (Tab.below hT.out (zAa hB (zAa (b := V84) Bz (by go_grown)))))).mono ?_
              rintro e w92 ⟨g92, xc92, oA92, oc92, hA92, hc92, X92, O92, H92, rfl, hoX, hoO, hoH, apO, apH, haX, haO, haH, hlen, b92⟩
              replace b92 := zAa (a := V84) (by go_grown) b92
              replace hfr := hfr.below b92
              replace Bz := zAa Bz b92
              clear b92
              replace hB := zAa hB Bz
              replace hBQ := zAa hBQ Bz
              replace HX0 := zh (zx HX0 Bz)
              replace HX92 := zh (zx HX92 Bz)
              clear Bz
              have Bz := Below.refl w92.heap.size w92
              go_upto_region 58 with (fail)
              obtain ⟨V85, hW, x93, hN⟩ := zAb w92 #[.slice (some ⟨g92, 0, none⟩) 2 xc92, .int .i64 0, .slice oA92 2 oc92, .slice hA92 2 hc92, .int .u8 1] 47
              rw [← hW]
              clear hW
              obtain ⟨v93, hb93⟩ : ∃ b, b = w92.heap.size := ⟨_, rfl⟩
              rw [← hb93] at x93 ⊢
              have o0_93 : v2 < v93 := by have := (zx HX0 Bz).lt; omega
              have o92_93 : v92 < v93 := by have := (zx HX92 Bz).lt; omega
              have ow_93 : w.heap.size ≤ v93 := by have := hB.size; have := Bz.size; omega
              have ow_93_hBQ : w91.heap.size ≤ v93 := by have := hBQ.size; have := Bz.size; omega
              have nv93_ox := OwnR.off' (b := v93) hoX (by omega)
              replace haH := haH.below hN
              replace haO := haO.below hN
              replace haX := haX.below hN
              replace hfr := hfr.below hN
              replace hoH := hoH.below hN
              replace hoO := hoO.below hN
              replace hoX := hoX.below hN
              replace hB := zAa (zAa hB Bz) hN
              replace hBQ := zAa (zAa hBQ Bz) hN
              replace HX0 := zh ((zx HX0 Bz).below hN)
              replace HX92 := zh ((zx HX92 Bz).below hN)
              have HX93 := zh x93
              clear x93 hN Bz hb93
              have Bz := Below.refl V85.heap.size V85
              obtain ⟨p0_0, p0_1, p0_2, p0_3, -⟩ := (zx HX0 Bz).cz
              have p93_0 := (zx HX93 Bz).cell 0 (.slice (some ⟨g92, 0, none⟩) 2 xc92) rfl
              obtain ⟨y1, hy1⟩ : ∃ y, X92[1]? = some y := ⟨X92[1]'(by have := hlen.out.1; omega), List.getElem?_eq_getElem _⟩
              have p500_0 : V85.cell? ⟨g92, 4, none⟩ = some (.bool y1.s) := elt_rat.cell hoX hy1 (j := 0) (u := .bool y1.s) (by omega) rfl
              have p500_1 : V85.cell? ⟨g92, 5, none⟩ = some (.slice y1.A y1.l y1.c) := elt_rat.cell hoX hy1 (j := 1) (u := .slice y1.A y1.l y1.c) (by omega) rfl
              have p500_2 : V85.cell? ⟨g92, 6, none⟩ = some (.bool y1.s') := elt_rat.cell hoX hy1 (j := 2) (u := .bool y1.s') (by omega) rfl
              have p500_3 : V85.cell? ⟨g92, 7, none⟩ = some (.slice y1.A' y1.l' y1.c') := elt_rat.cell hoX hy1 (j := 3) (u := .slice y1.A' y1.l' y1.c') (by omega) rfl
              have f500_0 : V85.frozen? ⟨g92, 4, none⟩ = false := hoX.frozen 4
              have f500_1 : V85.frozen? ⟨g92, 5, none⟩ = false := hoX.frozen 5
              have f500_2 : V85.frozen? ⟨g92, 6, none⟩ = false := hoX.frozen 6
              have f500_3 : V85.frozen? ⟨g92, 7, none⟩ = false := hoX.frozen 7
              have y500 : g92 < V85.heap.size := hoX.blk.1
              go_upto_region 59 with (fail)
              clear p500_0 f500_0 p500_1 f500_1 p500_2 f500_2 p500_3 f500_3 y500
              obtain ⟨VE, hV, ho2, hg2⟩ := fr_store1 hoX hy1 (rawFr v0 v1)
              simp only [rawFr] at hV
              rw [← hV]
              clear hV hy1
              replace hB := (zAa hB Bz).trans (hg2.below (by have := hB.size; have := Bz.size; omega) (fun g' hg' => by have := hoX.base g' hg'; omega))
              replace hBQ := (zAa hBQ Bz).trans (hg2.below (by have := hBQ.size; have := Bz.size; omega) (fun g' hg' => by have := hoX.base g' hg'; omega))
              replace HX0 := zh (hg2.bx (zx HX0 Bz) (hoX.off (HX0_lt)))
              replace HX92 := zh (hg2.bx (zx HX92 Bz) (hoX.off (HX92_lt)))
              replace HX93 := zh (hg2.bx (zx HX93 Bz) nv93_ox)
              replace hoO := hoO.grown hg2 apO
              replace hoH := hoH.grown hg2 apH
              replace haX := haX.k hg2.k
              replace haO := haO.k hg2.k
              replace haH := haH.k hg2.k
              replace hfr := hfr.k hg2.k
              have hqp := qy_set (label := 0) ho2 hoO hoH haX haO haH hfr hlen
              have hq91 := YQ.out.below hBQ
              clear hoX hoO hoH haX haO haH hg2 Bz hBQ YQ
              have Bz := Below.refl VE.heap.size VE
              clear p0_0 p0_1 p0_2 p0_3 p93_0
              go_wp2_with fail
              with_reducible refine (exQuery_is 2 2 rfl (by omega) 0 0 (-1) (by omega) (by omega) (zh (Tab.below hT.out (zAa hB (zAa (b := VE) Bz (by go_grown)))))).mono ?_
              rintro e w93 ⟨q93, rfl, hq93, hi93, b93⟩
              replace b93 := zAa (a := VE) (by go_grown) b93
              replace hfr := hfr.below b93
              replace hqp := hqp.below b93
              replace hq91 := hq91.below b93
              replace Bz := zAa Bz b93
              clear b93
              go_upto_region 60 with (fail)
              obtain ⟨V86, hW, x94, hN⟩ := zAb w93 #[.slice q93.xA q93.xn q93.xc, .int .i64 q93.label, .slice q93.oA q93.on q93.oc, .slice q93.hA q93.hn q93.hc, .int .u8 q93.norm] 47
              rw [← hW]
              clear hW
              obtain ⟨v94, hb94⟩ : ∃ b, b = w93.heap.size := ⟨_, rfl⟩
              rw [← hb94] at x94 ⊢
              have o0_94 : v2 < v94 := by have := (zx HX0 Bz).lt; omega
              have o92_94 : v92 < v94 := by have := (zx HX92 Bz).lt; omega
              have o93_94 : v93 < v94 := by have := (zx HX93 Bz).lt; omega
              have ow_94 : w.heap.size ≤ v94 := by have := hB.size; have := Bz.size; omega
              replace hfr := hfr.below hN
              replace hq93 := hq93.below hN
              replace hqp := hqp.below hN
              replace hq91 := hq91.below hN
              replace hB := zAa (zAa hB Bz) hN
              replace HX0 := zh ((zx HX0 Bz).below hN)
              replace HX92 := zh ((zx HX92 Bz).below hN)
              replace HX93 := zh ((zx HX93 Bz).below hN)
              have HX94 := zh x94
              clear x94 hN Bz hb94
              have Bz := Below.refl V86.heap.size V86
              obtain ⟨p92_0, p92_1, p92_2, p92_3, p92_4, -⟩ := (zx HX92 Bz).cz
              obtain ⟨p93_0, p93_1, p93_2, p93_3, p93_4, -⟩ := (zx HX93 Bz).cz
              obtain ⟨p94_0, p94_1, p94_2, p94_3, p94_4, -⟩ := (zx HX94 Bz).cz
              go_wp2_with fail
              (try simp only [List.append_eq, List.cons_append, List.nil_append])
              refine wp_region_plan (.take 0 (.take 1 (.take 3 (.only 2 (.only 4 (.take 5 (.take 6 (.take 7 (.take 9 (.only 8 (.only 10 (.take 11 (.take 12 (.take 13 (.only 14 (.only 15 (.only 16 (.take 17 (.take 18 (.take 19 (.take 21 (.only 20 (.only 22 (.take 23 (.take 24 (.take 25 (.take 27 (.only 26 (.only 28 (.take 29 (.take 30 (.take 31 (.only 32 (.take 33 (.take 34 .done))))))))))))))))))))))))))))))))))) [] (fun w' => w'.cell? ⟨v92, 0, none⟩ = some (.slice q91.xA q91.xn q91.xc) ∧ w'.cell? ⟨v92, 1, none⟩ = some (.int .i64 q91.label) ∧ w'.cell? ⟨v92, 2, none⟩ = some (.slice q91.oA q91.on q91.oc) ∧ w'.cell? ⟨v92, 3, none⟩ = some (.slice q91.hA q91.hn q91.hc) ∧ w'.cell? ⟨v92, 4, none⟩ = some (.int .u8 3) ∧ w'.cell? ⟨v93, 0, none⟩ = some (.slice (some ⟨g92, 0, none⟩) 2 xc92) ∧ w'.cell? ⟨v93, 1, none⟩ = some (.int .i64 0) ∧ w'.cell? ⟨v93, 2, none⟩ = some (.slice oA92 2 oc92) ∧ w'.cell? ⟨v93, 3, none⟩ = some (.slice hA92 2 hc92) ∧ w'.cell? ⟨v93, 4, none⟩ = some (.int .u8 1) ∧ w'.cell? ⟨v94, 0, none⟩ = some (.slice q93.xA q93.xn q93.xc) ∧ w'.cell? ⟨v94, 1, none⟩ = some (.int .i64 q93.label) ∧ w'.cell? ⟨v94, 2, none⟩ = some (.slice q93.oA q93.on q93.oc) ∧ w'.cell? ⟨v94, 3, none⟩ = some (.slice q93.hA q93.hn q93.hc) ∧ w'.cell? ⟨v94, 4, none⟩ = some (.int .u8 q93.norm)) (by kernel_rfl) (by kernel_rfl) ⟨p92_0, p92_1, p92_2, p92_3, p92_4, p93_0, p93_1, p93_2, p93_3, p93_4, p94_0, p94_1, p94_2, p94_3, p94_4⟩ ?_
              iterate 3 (refine wpPlan_take (o := ⟨some _, _, _, _, _, _⟩) rfl rfl (fun w' ⟨p92_0, p92_1, p92_2, p92_3, p92_4, p93_0, p93_1, p93_2, p93_3, p93_4, p94_0, p94_1, p94_2, p94_3, p94_4⟩ => by go_simp <;> with_reducible rfl) ?_; try simp only [Act.put, List.setIfInBounds_toArray, List.set_cons_zero, List.set_cons_succ])
              refine wpPlan_call (o := ⟨some 233, _, _, _, _, _⟩) rfl rfl (fun K hK => ?_)
              go_simp
              with_reducible refine (small_is 1 (zh (Tab.below hT.out (zAa hB (zAa (b := V86) Bz (by go_grown)))))).mono ?_
              rintro e w94 ⟨A94, n94, c94, L94, rfl, hs94, hn94, hok94, hp94, b94⟩
              replace b94 := zAa (a := V86) (by go_grown) b94
              replace hfr := hfr.below b94
              replace hq93 := hq93.below b94
              replace hqp := hqp.below b94
              replace hq91 := hq91.below b94
              replace Bz := zAa Bz b94
              clear b94
              clear p92_0 p92_1 p92_2 p92_3 p92_4 p93_0 p93_1 p93_2 p93_3 p93_4 p94_0 p94_1 p94_2 p94_3 p94_4
              obtain ⟨p92_0, p92_1, p92_2, p92_3, p92_4, -⟩ := (zx HX92 Bz).cz
              obtain ⟨p93_0, p93_1, p93_2, p93_3, p93_4, -⟩ := (zx HX93 Bz).cz
              obtain ⟨p94_0, p94_1, p94_2, p94_3, p94_4, -⟩ := (zx HX94 Bz).cz
              refine hK.out _ _ ⟨p92_0, p92_1, p92_2, p92_3, p92_4, p93_0, p93_1, p93_2, p93_3, p93_4, p94_0, p94_1, p94_2, p94_3, p94_4⟩ (fun _ => ?_)
              try simp only [Act.put, List.setIfInBounds_toArray, List.set_cons_zero, List.set_cons_succ]
              clear hK K
              refine wpPlan_call (o := ⟨some 235, _, _, _, _, _⟩) rfl rfl (fun K hK => ?_)
              go_simp
              with_reducible refine (query_is (Sl.below hs94 (by go_grown)) (LysOk.below hok94 (by go_grown)) (by omega) (by omega) ((QyOk.below hq91 (by go_grown)).norm 3) (zh (Tab.below hT.out (zAa hB (zAa (b := w94) Bz (by go_grown))))) 22 (zh (query_norm hp94.out.one rfl))).mono ?_
              rintro e w95 ⟨rfl, b95⟩
              replace b95 := zAa (a := w94) (by go_grown) b95
              replace hfr := hfr.below b95
              replace hq93 := hq93.below b95
              replace hqp := hqp.below b95
              replace Bz := zAa Bz b95
              clear b95
              clear p92_0 p92_1 p92_2 p92_3 p92_4 p93_0 p93_1 p93_2 p93_3 p93_4 p94_0 p94_1 p94_2 p94_3 p94_4
              obtain ⟨p92_0, p92_1, p92_2, p92_3, p92_4, -⟩ := (zx HX92 Bz).cz
              obtain ⟨p93_0, p93_1, p93_2, p93_3, p93_4, -⟩ := (zx HX93 Bz).cz
              obtain ⟨p94_0, p94_1, p94_2, p94_3, p94_4, -⟩ := (zx HX94 Bz).cz
              refine hK.out _ _ ⟨p92_0, p92_1, p92_2, p92_3, p92_4, p93_0, p93_1, p93_2, p93_3, p93_4, p94_0, p94_1, p94_2, p94_3, p94_4⟩ (fun _ => ?_)
              try simp only [Act.put, List.setIfInBounds_toArray, List.set_cons_zero, List.set_cons_succ]
              clear hK K
              iterate 4 (refine wpPlan_take (o := ⟨some _, _, _, _, _, _⟩) rfl rfl (fun w' ⟨p92_0, p92_1, p92_2, p92_3, p92_4, p93_0, p93_1, p93_2, p93_3, p93_4, p94_0, p94_1, p94_2, p94_3, p94_4⟩ => by go_simp <;> with_reducible rfl) ?_; try simp only [Act.put, List.setIfInBounds_toArray, List.set_cons_zero, List.set_cons_succ])
              refine wpPlan_call (o := ⟨some 239, _, _, _, _, _⟩) rfl rfl (fun K hK => ?_)
              go_simp
              with_reducible refine (small_is 1 (zh (Tab.below hT.out (zAa hB (zAa (b := w95) Bz (by go_grown)))))).mono ?_
              rintro e w96 ⟨A96, n96, c96, L96, rfl, hs96, hn96, hok96, hp96, b96⟩
              replace b96 := zAa (a := w95) (by go_grown) b96
              replace hfr := hfr.below b96
              replace hq93 := hq93.below b96
              replace hqp := hqp.below b96
              replace Bz := zAa Bz b96
              clear b96
              clear p92_0 p92_1 p92_2 p92_3 p92_4 p93_0 p93_1 p93_2 p93_3 p93_4 p94_0 p94_1 p94_2 p94_3 p94_4
              obtain ⟨p92_0, p92_1, p92_2, p92_3, p92_4, -⟩ := (zx HX92 Bz).cz
              obtain ⟨p93_0, p93_1, p93_2, p93_3, p93_4, -⟩ := (zx HX93 Bz).cz
              obtain ⟨p94_0, p94_1, p94_2, p94_3, p94_4, -⟩ := (zx HX94 Bz).cz
              refine hK.out _ _ ⟨p92_0, p92_1, p92_2, p92_3, p92_4, p93_0, p93_1, p93_2, p93_3, p93_4, p94_0, p94_1, p94_2, p94_3, p94_4⟩ (fun _ => ?_)
              try simp only [Act.put, List.setIfInBounds_toArray, List.set_cons_zero, List.set_cons_succ]
              clear hK K
              refine wpPlan_call (o := ⟨some 241, _, _, _, _, _⟩) rfl rfl (fun K hK => ?_)
              go_simp
              with_reducible refine (query_is (Sl.below hs96 (by go_grown)) (LysOk.below hok96 (by go_grown)) (by omega) (by omega) (QyOk.below hqp (by go_grown)) (zh (Tab.below hT.out (zAa hB (zAa (b := w96) Bz (by go_grown))))) 22 (zh (query_bad hp96.out.one (okQ_raw (x := rawFr v0 v1) (List.mem_set (by have := hlen.out.1; omega) _) rfl)))).mono ?_
              rintro e w97 ⟨rfl, b97⟩
              replace b97 := zAa (a := w96) (by go_grown) b97
              replace hfr := hfr.below b97
              replace hq93 := hq93.below b97
              replace Bz := zAa Bz b97
              clear b97
              clear p92_0 p92_1 p92_2 p92_3 p92_4 p93_0 p93_1 p93_2 p93_3 p93_4 p94_0 p94_1 p94_2 p94_3 p94_4
              obtain ⟨p92_0, p92_1, p92_2, p92_3, p92_4, -⟩ := (zx HX92 Bz).cz
              obtain ⟨p93_0, p93_1, p93_2, p93_3, p93_4, -⟩ := (zx HX93 Bz).cz
              obtain ⟨p94_0, p94_1, p94_2, p94_3, p94_4, -⟩ := (zx HX94 Bz).cz
              refine hK.out _ _ ⟨p92_0, p92_1, p92_2, p92_3, p92_4, p93_0, p93_1, p93_2, p93_3, p93_4, p94_0, p94_1, p94_2, p94_3, p94_4⟩ (fun _ => ?_)
              try simp only [Act.put, List.setIfInBounds_toArray, List.set_cons_zero, List.set_cons_succ]
              clear hK K
              iterate 3 (refine wpPlan_take (o := ⟨some _, _, _, _, _, _⟩) rfl rfl (fun w' ⟨p92_0, p92_1, p92_2, p92_3, p92_4, p93_0, p93_1, p93_2, p93_3, p93_4, p94_0, p94_1, p94_2, p94_3, p94_4⟩ => by go_simp <;> with_reducible rfl) ?_; try simp only [Act.put, List.setIfInBounds_toArray, List.set_cons_zero, List.set_cons_succ])
              refine wpPlan_call (o := ⟨some 245, _, _, _, _, _⟩) rfl rfl (fun K hK => ?_)
              go_simp
              with_reducible refine (small_is 1 (zh (Tab.below hT.out (zAa hB (zAa (b := w97) Bz (by go_grown)))))).mono ?_
              rintro e w98 ⟨A98, n98, c98, L98, rfl, hs98, hn98, hok98, hp98, b98⟩
              replace b98 := zAa (a := w97) (by go_grown) b98
              replace hfr := hfr.below b98
              replace hq93 := hq93.below b98
              replace Bz := zAa Bz b98
              clear b98
              clear p92_0 p92_1 p92_2 p92_3 p92_4 p93_0 p93_1 p93_2 p93_3 p93_4 p94_0 p94_1 p94_2 p94_3 p94_4
              obtain ⟨p92_0, p92_1, p92_2, p92_3, p92_4, -⟩ := (zx HX92 Bz).cz
              obtain ⟨p93_0, p93_1, p93_2, p93_3, p93_4, -⟩ := (zx HX93 Bz).cz
              obtain ⟨p94_0, p94_1, p94_2, p94_3, p94_4, -⟩ := (zx HX94 Bz).cz
              refine hK.out _ _ ⟨p92_0, p92_1, p92_2, p92_3, p92_4, p93_0, p93_1, p93_2, p93_3, p93_4, p94_0, p94_1, p94_2, p94_3, p94_4⟩ (fun _ => ?_)
              try simp only [Act.put, List.setIfInBounds_toArray, List.set_cons_zero, List.set_cons_succ]
              clear hK K
              refine wpPlan_call (o := ⟨some 246, _, _, _, _, _⟩) rfl rfl (fun K hK => ?_)
              go_simp
              with_reducible refine (exQuery_is 3 3 rfl (by omega) 0 1 0 (by omega) (by omega) (zh (Tab.below hT.out (zAa hB (zAa (b := w98) Bz (by go_grown)))))).mono ?_
              rintro e w99 ⟨q99, rfl, hq99, hi99, b99⟩
              replace b99 := zAa (a := w98) (by go_grown) b99
              replace hfr := hfr.below b99
              replace hok98 := hok98.below b99
              replace hq93 := hq93.below b99
              replace hs98 := hs98.below b99
              replace Bz := zAa Bz b99
              clear b99
              clear p92_0 p92_1 p92_2 p92_3 p92_4 p93_0 p93_1 p93_2 p93_3 p93_4 p94_0 p94_1 p94_2 p94_3 p94_4
              obtain ⟨p92_0, p92_1, p92_2, p92_3, p92_4, -⟩ := (zx HX92 Bz).cz
              obtain ⟨p93_0, p93_1, p93_2, p93_3, p93_4, -⟩ := (zx HX93 Bz).cz
              obtain ⟨p94_0, p94_1, p94_2, p94_3, p94_4, -⟩ := (zx HX94 Bz).cz
              refine hK.out _ _ ⟨p92_0, p92_1, p92_2, p92_3, p92_4, p93_0, p93_1, p93_2, p93_3, p93_4, p94_0, p94_1, p94_2, p94_3, p94_4⟩ (fun _ => ?_)
              try simp only [Act.put, List.setIfInBounds_toArray, List.set_cons_zero, List.set_cons_succ]
              clear hK K
              refine wpPlan_call (o := ⟨some 247, _, _, _, _, _⟩) rfl rfl (fun K hK => ?_)
              go_simp
              with_reducible refine (query_is (Sl.below hs98 (by go_grown)) (LysOk.below hok98 (by go_grown)) (by omega) (by omega) (QyOk.below hq99 (by go_grown)) (zh (Tab.below hT.out (zAa hB (zAa (b := w99) Bz (by go_grown))))) 22 (zh (query_bad hp98.out.one (okQ_count (by have := qyIs_cnt hi99.out; omega))))).mono ?_
              rintro e w100 ⟨rfl, b100⟩
              replace b100 := zAa (a := w99) (by go_grown) b100
              replace hfr := hfr.below b100
              replace hq93 := hq93.below b100
              replace Bz := zAa Bz b100
              clear b100
              clear p92_0 p92_1 p92_2 p92_3 p92_4 p93_0 p93_1 p93_2 p93_3 p93_4 p94_0 p94_1 p94_2 p94_3 p94_4
              obtain ⟨p92_0, p92_1, p92_2, p92_3, p92_4, -⟩ := (zx HX92 Bz).cz
              obtain ⟨p93_0, p93_1, p93_2, p93_3, p93_4, -⟩ := (zx HX93 Bz).cz
              obtain ⟨p94_0, p94_1, p94_2, p94_3, p94_4, -⟩ := (zx HX94 Bz).cz
              refine hK.out _ _ ⟨p92_0, p92_1, p92_2, p92_3, p92_4, p93_0, p93_1, p93_2, p93_3, p93_4, p94_0, p94_1, p94_2, p94_3, p94_4⟩ (fun _ => ?_)
              try simp only [Act.put, List.setIfInBounds_toArray, List.set_cons_zero, List.set_cons_succ]
              clear hK K
              iterate 4 (refine wpPlan_take (o := ⟨some _, _, _, _, _, _⟩) rfl rfl (fun w' ⟨p92_0, p92_1, p92_2, p92_3, p92_4, p93_0, p93_1, p93_2, p93_3, p93_4, p94_0, p94_1, p94_2, p94_3, p94_4⟩ => by go_simp <;> with_reducible rfl) ?_; try simp only [Act.put, List.setIfInBounds_toArray, List.set_cons_zero, List.set_cons_succ])
              refine wpPlan_call (o := ⟨some 251, _, _, _, _, _⟩) rfl rfl (fun K hK => ?_)
              go_simp
              with_reducible refine (small_is 1 (zh (Tab.below hT.out (zAa hB (zAa (b := w100) Bz (by go_grown)))))).mono ?_
              rintro e w101 ⟨A101, n101, c101, L101, rfl, hs101, hn101, hok101, hp101, b101⟩
              replace b101 := zAa (a := w100) (by go_grown) b101
              replace hfr := hfr.below b101
              replace hq93 := hq93.below b101
              replace Bz := zAa Bz b101
              clear b101
              clear p92_0 p92_1 p92_2 p92_3 p92_4 p93_0 p93_1 p93_2 p93_3 p93_4 p94_0 p94_1 p94_2 p94_3 p94_4
              obtain ⟨p92_0, p92_1, p92_2, p92_3, p92_4, -⟩ := (zx HX92 Bz).cz
              obtain ⟨p93_0, p93_1, p93_2, p93_3, p93_4, -⟩ := (zx HX93 Bz).cz
              obtain ⟨p94_0, p94_1, p94_2, p94_3, p94_4, -⟩ := (zx HX94 Bz).cz
              refine hK.out _ _ ⟨p92_0, p92_1, p92_2, p92_3, p92_4, p93_0, p93_1, p93_2, p93_3, p93_4, p94_0, p94_1, p94_2, p94_3, p94_4⟩ (fun _ => ?_)
              try simp only [Act.put, List.setIfInBounds_toArray, List.set_cons_zero, List.set_cons_succ]
              clear hK K
              refine wpPlan_call (o := ⟨some 253, _, _, _, _, _⟩) rfl rfl (fun K hK => ?_)
              go_simp
              with_reducible refine (query_is (Sl.below hs101 (by go_grown)) (LysOk.below hok101 (by go_grown)) (by omega) (by omega) (QyOk.below hq93 (by go_grown)) (zh (Tab.below hT.out (zAa hB (zAa (b := w101) Bz (by go_grown))))) 24 (zh ((query_val hp101.out.one hi93.out rfl (by omega)).trans (by decide)))).mono ?_
              rintro e w102 ⟨rfl, b102⟩
              replace b102 := zAa (a := w101) (by go_grown) b102
              replace hfr := hfr.below b102
              replace hq93 := hq93.below b102
              replace Bz := zAa Bz b102
              clear b102
              clear p92_0 p92_1 p92_2 p92_3 p92_4 p93_0 p93_1 p93_2 p93_3 p93_4 p94_0 p94_1 p94_2 p94_3 p94_4
              obtain ⟨p92_0, p92_1, p92_2, p92_3, p92_4, -⟩ := (zx HX92 Bz).cz
              obtain ⟨p93_0, p93_1, p93_2, p93_3, p93_4, -⟩ := (zx HX93 Bz).cz
              obtain ⟨p94_0, p94_1, p94_2, p94_3, p94_4, -⟩ := (zx HX94 Bz).cz
              refine hK.out _ _ ⟨p92_0, p92_1, p92_2, p92_3, p92_4, p93_0, p93_1, p93_2, p93_3, p93_4, p94_0, p94_1, p94_2, p94_3, p94_4⟩ (fun _ => ?_)
              try simp only [Act.put, List.setIfInBounds_toArray, List.set_cons_zero, List.set_cons_succ]
              clear hK K
              iterate 4 (refine wpPlan_take (o := ⟨some _, _, _, _, _, _⟩) rfl rfl (fun w' ⟨p92_0, p92_1, p92_2, p92_3, p92_4, p93_0, p93_1, p93_2, p93_3, p93_4, p94_0, p94_1, p94_2, p94_3, p94_4⟩ => by go_simp <;> with_reducible rfl) ?_; try simp only [Act.put, List.setIfInBounds_toArray, List.set_cons_zero, List.set_cons_succ])
              refine wpPlan_call (o := ⟨some 257, _, _, _, _, _⟩) rfl rfl (fun K hK => ?_)
              go_simp
              with_reducible refine (small_is 2 (zh (Tab.below hT.out (zAa hB (zAa (b := w102) Bz (by go_grown)))))).mono ?_
              rintro e w103 ⟨A103, n103, c103, L103, rfl, hs103, hn103, hok103, hp103, b103⟩
              replace b103 := zAa (a := w102) (by go_grown) b103
              replace hfr := hfr.below b103
              replace hq93 := hq93.below b103
              replace Bz := zAa Bz b103
              clear b103
              clear p92_0 p92_1 p92_2 p92_3 p92_4 p93_0 p93_1 p93_2 p93_3 p93_4 p94_0 p94_1 p94_2 p94_3 p94_4
              obtain ⟨p92_0, p92_1, p92_2, p92_3, p92_4, -⟩ := (zx HX92 Bz).cz
              obtain ⟨p93_0, p93_1, p93_2, p93_3, p93_4, -⟩ := (zx HX93 Bz).cz
              obtain ⟨p94_0, p94_1, p94_2, p94_3, p94_4, -⟩ := (zx HX94 Bz).cz
              refine hK.out _ _ ⟨p92_0, p92_1, p92_2, p92_3, p92_4, p93_0, p93_1, p93_2, p93_3, p93_4, p94_0, p94_1, p94_2, p94_3, p94_4⟩ (fun _ => ?_)
              try simp only [Act.put, List.setIfInBounds_toArray, List.set_cons_zero, List.set_cons_succ]
              clear hK K
              refine wpPlan_call (o := ⟨some 259, _, _, _, _, _⟩) rfl rfl (fun K hK => ?_)
              go_simp
              with_reducible refine (query_is (Sl.below hs103 (by go_grown)) (LysOk.below hok103 (by go_grown)) (by omega) (by omega) (QyOk.below hq93 (by go_grown)) (zh (Tab.below hT.out (zAa hB (zAa (b := w103) Bz (by go_grown))))) 22 (zh (query_err hp103.out.two))).mono ?_
              rintro e w104 ⟨rfl, b104⟩
              replace b104 := zAa (a := w103) (by go_grown) b104
              replace hfr := hfr.below b104
              replace Bz := zAa Bz b104
              clear b104
              clear p92_0 p92_1 p92_2 p92_3 p92_4 p93_0 p93_1 p93_2 p93_3 p93_4 p94_0 p94_1 p94_2 p94_3 p94_4
              obtain ⟨p92_0, p92_1, p92_2, p92_3, p92_4, -⟩ := (zx HX92 Bz).cz
              obtain ⟨p93_0, p93_1, p93_2, p93_3, p93_4, -⟩ := (zx HX93 Bz).cz
              obtain ⟨p94_0, p94_1, p94_2, p94_3, p94_4, -⟩ := (zx HX94 Bz).cz
              refine hK.out _ _ ⟨p92_0, p92_1, p92_2, p92_3, p92_4, p93_0, p93_1, p93_2, p93_3, p93_4, p94_0, p94_1, p94_2, p94_3, p94_4⟩ (fun _ => ?_)
              try simp only [Act.put, List.setIfInBounds_toArray, List.set_cons_zero, List.set_cons_succ]
              clear hK K
              iterate 3 (refine wpPlan_take (o := ⟨some _, _, _, _, _, _⟩) rfl rfl (fun w' ⟨p92_0, p92_1, p92_2, p92_3, p92_4, p93_0, p93_1, p93_2, p93_3, p93_4, p94_0, p94_1, p94_2, p94_3, p94_4⟩ => by go_simp <;> with_reducible rfl) ?_; try simp only [Act.put, List.setIfInBounds_toArray, List.set_cons_zero, List.set_cons_succ])
              refine wpPlan_call (o := ⟨some 263, _, _, _, _, _⟩) rfl rfl (fun K hK => ?_)
              go_simp
              with_reducible refine (awake10_q (zh (Tab.below hT.out (zAa hB (zAa (b := w104) Bz (by go_grown)))))).mono ?_
              rintro e w105 ⟨rfl, b105⟩
              replace b105 := zAa (a := w104) (by go_grown) b105
              replace hfr := hfr.below b105
              replace Bz := zAa Bz b105
              clear b105
              clear p92_0 p92_1 p92_2 p92_3 p92_4 p93_0 p93_1 p93_2 p93_3 p93_4 p94_0 p94_1 p94_2 p94_3 p94_4
              obtain ⟨p92_0, p92_1, p92_2, p92_3, p92_4, -⟩ := (zx HX92 Bz).cz
              obtain ⟨p93_0, p93_1, p93_2, p93_3, p93_4, -⟩ := (zx HX93 Bz).cz
              obtain ⟨p94_0, p94_1, p94_2, p94_3, p94_4, -⟩ := (zx HX94 Bz).cz
              refine hK.out _ _ ⟨p92_0, p92_1, p92_2, p92_3, p92_4, p93_0, p93_1, p93_2, p93_3, p93_4, p94_0, p94_1, p94_2, p94_3, p94_4⟩ (fun _ => ?_)
              try simp only [Act.put, List.setIfInBounds_toArray, List.set_cons_zero, List.set_cons_succ]
              clear hK K
              iterate 2 (refine wpPlan_take (o := ⟨some _, _, _, _, _, _⟩) rfl rfl (fun w' ⟨p92_0, p92_1, p92_2, p92_3, p92_4, p93_0, p93_1, p93_2, p93_3, p93_4, p94_0, p94_1, p94_2, p94_3, p94_4⟩ => by go_simp <;> with_reducible rfl) ?_; try simp only [Act.put, List.setIfInBounds_toArray, List.set_cons_zero, List.set_cons_succ])
              refine wpPlan_done ?_
              go_wp2_with fail
              go_ret
              have hF := zAa (c := w105) hB Bz
              exact ⟨rfl, zAa hF (by go_grown)⟩
open Go.RowKit Tw
namespace shapesNumbers
open Go.ChangeShapes Go.WideShapes Go.ChangeAt Go.RowKit Tw
theorem contract (H:Type) (enc:TypeId×Value→H) (W:World) (base:Nat) (args:Array Value) (ds gs:List (DataW H)) (before:List MemPlace)
  (hval:∀(j:Nat) t v,Tryd.f3.params[j]?=some t→args[j]?=some v→Value.okWide Tryd.prog W .any base t v)
  (hW:DataW.Whole enc Tryd.prog Tryd.f3.params.toList Rows.shapesNumbersSpec.vars false W args.toList ds gs before) (hL:laidMetH Tryd.prog Rows.shapesNumbersRow.laid W) :
  Calls Tryd.prog 3 args W fun e W'=>∃v,e=.returned v∧Rows.shapesNumbersSpec.post enc Tryd.prog Tryd.f3 false true false false W args v W':=by
 have hW':=hW
 obtain⟨p,q,hA0,hV,rfl,hfz,hnd⟩:=hW
 have hA:DataW.TrodAll enc Tryd.prog W 0 (fun _=>true) true Tryd.f3.params.toList args.toList ds p:=hA0
 rw[Tryd.params3] at hA hval
 obtain⟨hargs,rfl,rfl⟩:=trodAll_nil hA
 obtain rfl:args=#[]:=by cases args;simp_all
 obtain⟨rfl,rfl⟩:=trodVars_none hV
 refine(numbers10_q  (tab_of hL)).mono fun e W' ⟨he,bel⟩=>?_
 subst he
 exact⟨_,rfl,_,_,_,[],_,[],hW',trodAll_mk1 (shut_bool Tryd.underlying4 _),trodAll_mk0,rfl,bel.frame _,fun h=>by cases h⟩
theorem laid_met (os:Os):laidMet Tryd.prog Rows.shapesNumbersRow.laid ((laidWorld os).forCall (fun _ _=>0) ⟨#[],#[],[]⟩).memory :=
 laidMet_of_run' 8 (by kernel_rfl) (by kernel_rfl)
theorem reads (os:Os) {H:Type} (enc:TypeId×Value→H):∃places,DataW.whole enc Tryd.prog ((laidWorld os).forCall (fun _ _=>0) ⟨#[],#[],[]⟩).memory Tryd.f3.params.toList Rows.shapesNumbersSpec.vars false (#[]:Array Value).toList 8=some ([],[],places) :=
 ⟨[],by kernel_rfl⟩
theorem lifted (os:Os) (started:os.Started) (H:Type) (enc:TypeId×Value→H) (F:Stop.Interp) :
  ReturnsInHanded {} Tryd.checked os 3 .any ((OpenSpec.ofChange Rows.shapesNumbersSpec).preRow enc Tryd.prog Tryd.f3 Rows.shapesNumbersRow.domain false Rows.shapesNumbersRow.laid) (((OpenSpec.ofChange Rows.shapesNumbersSpec).at F).post enc Tryd.prog Tryd.f3 false true false false):=by
 obtain⟨places,hx⟩:=reads os enc
 refine returnsInHanded_of_row (C:=Tryd.checked) (s:=OpenSpec.ofChange Rows.shapesNumbersSpec) own started (by kernel_rfl) Tryd.func3
  (witness_row_at (enc:=enc) (C:=Tryd.checked) false (laidWorld os) #[] rfl (by kernel_rfl) (by kernel_rfl) (by kernel_rfl)
   (OpenSpec.preRow_of_cond 8 hx (by kernel_rfl) (fun k hk=>by cases hk) (by kernel_rfl) (laid_met os))) ?_
 intro W base args ds gs before hval hW _ _ _ hL _ _
 exact contract H enc W base args ds gs before hval hW hL
theorem said:Rows.ShapesNumbersSaid :=
 OpenClaim.holds_of_cond 3 Tryd.f3 rfl rfl rfl rfl rfl rfl rfl ⟨rfl,rfl,rfl,rfl,rfl⟩ rfl rfl rfl rfl rfl (by kernel_rfl) Tryd.func3 (by kernel_rfl)
  (of_decide_eq_true (by kernel_rfl)) (by unfold Func.isWrapper;first | (rw[if_pos (by decide +kernel)];kernel_rfl) | (rw[if_neg (by decide +kernel)];exact⟨rfl,rfl⟩))
  (fun os started H enc _ F=>by rw[OpenClaim.pre_eq_preRow];exact lifted os started H enc F)
theorem plain (f : FuncId) (fn : Func) (hf : Tryd.pinned.checked.prog.funcNamed "tripwire/tripwirelaw10.ShapesNumbers" = some f) (hfn : Tryd.pinned.checked.prog.funcs[f]? = some fn) :
  false=Tryd.pinned.checked.prog.looks []∧∀(j:Nat) t,fn.params[j]?=some t→Tryd.pinned.checked.prog.wantsStandIn t=false:=by
 obtain rfl : f = 3 := Option.some.inj ((show Tryd.prog.funcNamed "tripwire/tripwirelaw10.ShapesNumbers" = some 3 by kernel_rfl).symm.trans hf) |>.symm
 obtain rfl:fn=Tryd.f3:=(Option.some.inj (Tryd.func3.symm.trans hfn)).symm
 refine⟨by kernel_rfl,fun j t ht=>?_⟩
 rw[Tryd.params3] at ht
 simp at ht
theorem card:Rows.ShapesNumbersCardSaid :=
 Claim7.holds_tied_plain_at .later [] _ _ _ _ said (fun _ h=>by cases h) (by kernel_rfl) (fun _ h=>by cases h) shapesNumbers_row_tie rfl ⟨rfl,rfl⟩ (by kernel_rfl) rfl plain (by kernel_rfl)
end shapesNumbers
end Go.Proofs.YtfgbiccpecldfaaDoor
