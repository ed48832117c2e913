/-
  LuSolves: what an LU answers solves the columns' equations, and undoes them; the law answers true for any columns, size and vectors that came in. No condition. Written by wip/gen/lu15.py.
-/
import Derived.Test.YtomlghpnbeaaiaaGreatDoorYMbI
set_option maxHeartbeats 32000000
set_option maxRecDepth 100000
namespace Go.Proofs.YtomlghpnbeaaiaaGreatDoor
open Go.RowKit Tw
theorem solves_0 {w:World} {LA X Y:Option Addr} {nl cl nx cx ny cy:Nat} {CL:List Vc} {LX LY:List Tm} {z:Int} (hl:Sl Vc.cs 1 w LA nl cl CL) (hli:Hid (∀v∈CL,VgIn w v)) (hll:nl≤9223372036854775807) (_hx:Sl Tm.cs 5 w X nx cx LX) (_xi:Hid (∀t∈LX,TmIn w t)) (_hlx:nx≤9223372036854775807) (_hy:Sl Tm.cs 5 w Y ny cy LY) (_yi:Hid (∀t∈LY,TmIn w t)) (_hly:ny≤9223372036854775807) (S0:Hid (shortVcs 14 14 2 nl CL=false)) (hT:Hid (Tab w)) :
  Calls Tryz.prog 5 #[.slice LA nl cl,.int .i64 z,.slice X nx cx,.slice Y ny cy] w (Yes w):=by
 have hB:=Below.refl w.heap.size w;have Bz:=zr w;go_enter Tryz.func5,Tryz.ntmps5
 go_wp2_with fail
 with_reducible refine(shortVecs_q (hl.below (bT hB (bT (b:=w) Bz))) (zh fun v hv=>vg_lens ((hli.out v hv).below (bT hB (bT (b:=w) Bz)))) hll 14 14 2 false S0).mono ?_
 rintro e w1 ⟨rfl,b1⟩;replace b1:=zq (a:=w) b1;replace Bz:=bT Bz b1;clear b1;go_wp2_with fail
 with_reducible refine(awake7_q (zt hT hB Bz)).mono ?_
 rintro e w2 ⟨rfl,b2⟩;replace b2:=zq (a:=w1) b2;replace Bz:=bT Bz b2;clear b2;go_wp2_with fail
 go_ret
 have hF:=bT (c:=w2) hB Bz;exact⟨rfl,bT hF⟩
theorem solves_1 {w:World} {LA X Y:Option Addr} {nl cl nx cx ny cy:Nat} {CL:List Vc} {LX LY:List Tm} {z:Int} (hl:Sl Vc.cs 1 w LA nl cl CL) (hli:Hid (∀v∈CL,VgIn w v)) (hll:nl≤9223372036854775807) (hx:Sl Tm.cs 5 w X nx cx LX) (xi:Hid (∀t∈LX,TmIn w t)) (hlx:nx≤9223372036854775807) (_hy:Sl Tm.cs 5 w Y ny cy LY) (_yi:Hid (∀t∈LY,TmIn w t)) (_hly:ny≤9223372036854775807) (S0:Hid (shortVcs 14 14 2 nl CL=true)) (S1:Hid (zAm 14 2 ⟨X,nx,cx,LX⟩=false)) (hT:Hid (Tab w)) :
  Calls Tryz.prog 5 #[.slice LA nl cl,.int .i64 z,.slice X nx cx,.slice Y ny cy] w (Yes w):=by
 have hB:=Below.refl w.heap.size w;have Bz:=zr w;go_enter Tryz.func5,Tryz.ntmps5
 go_wp2_with fail
 with_reducible refine(shortVecs_q (hl.below (bT hB (bT (b:=w) Bz))) (zh fun v hv=>vg_lens ((hli.out v hv).below (bT hB (bT (b:=w) Bz)))) hll 14 14 2 true S0).mono ?_
 rintro e w1 ⟨rfl,b1⟩;replace b1:=zq (a:=w) b1;replace Bz:=bT Bz b1;clear b1;go_wp2_with fail
 with_reducible refine(zAh (hx.below (bT hB (bT (b:=w1) Bz))) (zh fun t ht=>tm_lens (xi.out t ht)) hlx 14 2 false S1).mono ?_
 rintro e w2 ⟨rfl,b2⟩;replace b2:=zq (a:=w1) b2;replace Bz:=bT Bz b2;clear b2;go_wp2_with fail
 with_reducible refine(awake7_q (zt hT hB Bz)).mono ?_
 rintro e w3 ⟨rfl,b3⟩;replace b3:=zq (a:=w2) b3;replace Bz:=bT Bz b3;clear b3;go_wp2_with fail
 go_ret
 have hF:=bT (c:=w3) hB Bz;exact⟨rfl,bT hF⟩
theorem solves_2 {w:World} {LA X Y:Option Addr} {nl cl nx cx ny cy:Nat} {CL:List Vc} {LX LY:List Tm} {z:Int} (hl:Sl Vc.cs 1 w LA nl cl CL) (hli:Hid (∀v∈CL,VgIn w v)) (hll:nl≤9223372036854775807) (hx:Sl Tm.cs 5 w X nx cx LX) (xi:Hid (∀t∈LX,TmIn w t)) (hlx:nx≤9223372036854775807) (hy:Sl Tm.cs 5 w Y ny cy LY) (yi:Hid (∀t∈LY,TmIn w t)) (hly:ny≤9223372036854775807) (S0:Hid (shortVcs 14 14 2 nl CL=true)) (S1:Hid (zAm 14 2 ⟨X,nx,cx,LX⟩=true)) (S2:Hid (zAm 14 2 ⟨Y,ny,cy,LY⟩=false)) (hT:Hid (Tab w)) :
  Calls Tryz.prog 5 #[.slice LA nl cl,.int .i64 z,.slice X nx cx,.slice Y ny cy] w (Yes w):=by
 have hB:=Below.refl w.heap.size w;have Bz:=zr w;go_enter Tryz.func5,Tryz.ntmps5
 go_wp2_with fail
 with_reducible refine(shortVecs_q (hl.below (bT hB (bT (b:=w) Bz))) (zh fun v hv=>vg_lens ((hli.out v hv).below (bT hB (bT (b:=w) Bz)))) hll 14 14 2 true S0).mono ?_
 rintro e w1 ⟨rfl,b1⟩;replace b1:=zq (a:=w) b1;replace Bz:=bT Bz b1;clear b1;go_wp2_with fail
 with_reducible refine(zAh (hx.below (bT hB (bT (b:=w1) Bz))) (zh fun t ht=>tm_lens (xi.out t ht)) hlx 14 2 true S1).mono ?_
 rintro e w2 ⟨rfl,b2⟩;replace b2:=zq (a:=w1) b2;replace Bz:=bT Bz b2;clear b2;go_wp2_with fail
 with_reducible refine(zAh (hy.below (bT hB (bT (b:=w2) Bz))) (zh fun t ht=>tm_lens (yi.out t ht)) hly 14 2 false S2).mono ?_
 rintro e w3 ⟨rfl,b3⟩;replace b3:=zq (a:=w2) b3;replace Bz:=bT Bz b3;clear b3;go_wp2_with fail
 with_reducible refine(awake7_q (zt hT hB Bz)).mono ?_
 rintro e w4 ⟨rfl,b4⟩;replace b4:=zq (a:=w3) b4;replace Bz:=bT Bz b4;clear b4;go_wp2_with fail
 go_ret
 have hF:=bT (c:=w4) hB Bz;exact⟨rfl,bT hF⟩
theorem solves_b1 {w:World} {LA X Y:Option Addr} {nl cl nx cx ny cy:Nat} {CL:List Vc} {LX LY:List Tm} {z:Int} (hl:Sl Vc.cs 1 w LA nl cl CL) (hli:Hid (∀v∈CL,VgIn w v)) (hll:nl≤9223372036854775807) (hx:Sl Tm.cs 5 w X nx cx LX) (xi:Hid (∀t∈LX,TmIn w t)) (hlx:nx≤9223372036854775807) (hy:Sl Tm.cs 5 w Y ny cy LY) (yi:Hid (∀t∈LY,TmIn w t)) (hly:ny≤9223372036854775807) (S0:Hid (shortVcs 14 14 2 nl CL=true)) (S1:Hid (zAm 14 2 ⟨X,nx,cx,LX⟩=true)) (S2:Hid (zAm 14 2 ⟨Y,ny,cy,LY⟩=true)) (i1:z<0) (hT:Hid (Tab w)) :
  Calls Tryz.prog 5 #[.slice LA nl cl,.int .i64 z,.slice X nx cx,.slice Y ny cy] w (Yes w):=by
 have hB:=Below.refl w.heap.size w;have Bz:=zr w;go_enter Tryz.func5,Tryz.ntmps5
 go_wp2_with fail
 with_reducible refine(shortVecs_q (hl.below (bT hB (bT (b:=w) Bz))) (zh fun v hv=>vg_lens ((hli.out v hv).below (bT hB (bT (b:=w) Bz)))) hll 14 14 2 true S0).mono ?_
 rintro e w1 ⟨rfl,b1⟩;replace b1:=zq (a:=w) b1;replace Bz:=bT Bz b1;clear b1;go_wp2_with fail
 with_reducible refine(zAh (hx.below (bT hB (bT (b:=w1) Bz))) (zh fun t ht=>tm_lens (xi.out t ht)) hlx 14 2 true S1).mono ?_
 rintro e w2 ⟨rfl,b2⟩;replace b2:=zq (a:=w1) b2;replace Bz:=bT Bz b2;clear b2;go_wp2_with fail
 with_reducible refine(zAh (hy.below (bT hB (bT (b:=w2) Bz))) (zh fun t ht=>tm_lens (yi.out t ht)) hly 14 2 true S2).mono ?_
 rintro e w3 ⟨rfl,b3⟩;replace b3:=zq (a:=w2) b3;replace Bz:=bT Bz b3;clear b3;go_wp2_with fail
 with_reducible refine(factor_no z (.inl i1)).mono ?_
 rintro e w4 ⟨rfl,b4⟩;replace b4:=zq (a:=w3) b4;replace Bz:=bT Bz b4;clear b4;go_wp2_with fail
 with_reducible refine(awake7_q (zt hT hB Bz)).mono ?_
 rintro e w5 ⟨rfl,b5⟩;replace b5:=zq (a:=w4) b5;replace Bz:=bT Bz b5;clear b5;go_wp2_with fail
 go_ret
 have hF:=bT (c:=w5) hB Bz;exact⟨rfl,bT hF⟩
theorem solves_b2 {w:World} {LA X Y:Option Addr} {nl cl nx cx ny cy:Nat} {CL:List Vc} {LX LY:List Tm} {z:Int} (hl:Sl Vc.cs 1 w LA nl cl CL) (hli:Hid (∀v∈CL,VgIn w v)) (hll:nl≤9223372036854775807) (hx:Sl Tm.cs 5 w X nx cx LX) (xi:Hid (∀t∈LX,TmIn w t)) (hlx:nx≤9223372036854775807) (hy:Sl Tm.cs 5 w Y ny cy LY) (yi:Hid (∀t∈LY,TmIn w t)) (hly:ny≤9223372036854775807) (S0:Hid (shortVcs 14 14 2 nl CL=true)) (S1:Hid (zAm 14 2 ⟨X,nx,cx,LX⟩=true)) (S2:Hid (zAm 14 2 ⟨Y,ny,cy,LY⟩=true)) (i1:¬z<0) (i2:256<z) (hT:Hid (Tab w)) :
  Calls Tryz.prog 5 #[.slice LA nl cl,.int .i64 z,.slice X nx cx,.slice Y ny cy] w (Yes w):=by
 have hB:=Below.refl w.heap.size w;have Bz:=zr w;go_enter Tryz.func5,Tryz.ntmps5
 go_wp2_with fail
 with_reducible refine(shortVecs_q (hl.below (bT hB (bT (b:=w) Bz))) (zh fun v hv=>vg_lens ((hli.out v hv).below (bT hB (bT (b:=w) Bz)))) hll 14 14 2 true S0).mono ?_
 rintro e w1 ⟨rfl,b1⟩;replace b1:=zq (a:=w) b1;replace Bz:=bT Bz b1;clear b1;go_wp2_with fail
 with_reducible refine(zAh (hx.below (bT hB (bT (b:=w1) Bz))) (zh fun t ht=>tm_lens (xi.out t ht)) hlx 14 2 true S1).mono ?_
 rintro e w2 ⟨rfl,b2⟩;replace b2:=zq (a:=w1) b2;replace Bz:=bT Bz b2;clear b2;go_wp2_with fail
 with_reducible refine(zAh (hy.below (bT hB (bT (b:=w2) Bz))) (zh fun t ht=>tm_lens (yi.out t ht)) hly 14 2 true S2).mono ?_
 rintro e w3 ⟨rfl,b3⟩;replace b3:=zq (a:=w2) b3;replace Bz:=bT Bz b3;clear b3;go_wp2_with fail
 with_reducible refine(factor_no z (.inr (.inl i2))).mono ?_
 rintro e w4 ⟨rfl,b4⟩;replace b4:=zq (a:=w3) b4;replace Bz:=bT Bz b4;clear b4;go_wp2_with fail
 with_reducible refine(awake7_q (zt hT hB Bz)).mono ?_
 rintro e w5 ⟨rfl,b5⟩;replace b5:=zq (a:=w4) b5;replace Bz:=bT Bz b5;clear b5;go_wp2_with fail
 go_ret
 have hF:=bT (c:=w5) hB Bz;exact⟨rfl,bT hF⟩
theorem solves_b3 {w:World} {LA X Y:Option Addr} {nl cl nx cx ny cy:Nat} {CL:List Vc} {LX LY:List Tm} {z:Int} (hl:Sl Vc.cs 1 w LA nl cl CL) (hli:Hid (∀v∈CL,VgIn w v)) (hll:nl≤9223372036854775807) (hx:Sl Tm.cs 5 w X nx cx LX) (xi:Hid (∀t∈LX,TmIn w t)) (hlx:nx≤9223372036854775807) (hy:Sl Tm.cs 5 w Y ny cy LY) (yi:Hid (∀t∈LY,TmIn w t)) (hly:ny≤9223372036854775807) (S0:Hid (shortVcs 14 14 2 nl CL=true)) (S1:Hid (zAm 14 2 ⟨X,nx,cx,LX⟩=true)) (S2:Hid (zAm 14 2 ⟨Y,ny,cy,LY⟩=true)) (i1:¬z<0) (i2:¬256<z) (i3:(nl:Int)≠z) (hT:Hid (Tab w)) :
  Calls Tryz.prog 5 #[.slice LA nl cl,.int .i64 z,.slice X nx cx,.slice Y ny cy] w (Yes w):=by
 have g0:((nl:Int) != z)=true:=bne_iff_ne.2 i3;have hB:=Below.refl w.heap.size w;have Bz:=zr w;go_enter Tryz.func5,Tryz.ntmps5
 go_wp2_with fail
 with_reducible refine(shortVecs_q (hl.below (bT hB (bT (b:=w) Bz))) (zh fun v hv=>vg_lens ((hli.out v hv).below (bT hB (bT (b:=w) Bz)))) hll 14 14 2 true S0).mono ?_
 rintro e w1 ⟨rfl,b1⟩;replace b1:=zq (a:=w) b1;replace Bz:=bT Bz b1;clear b1;go_wp2_with fail
 with_reducible refine(zAh (hx.below (bT hB (bT (b:=w1) Bz))) (zh fun t ht=>tm_lens (xi.out t ht)) hlx 14 2 true S1).mono ?_
 rintro e w2 ⟨rfl,b2⟩;replace b2:=zq (a:=w1) b2;replace Bz:=bT Bz b2;clear b2;go_wp2_with fail
 with_reducible refine(zAh (hy.below (bT hB (bT (b:=w2) Bz))) (zh fun t ht=>tm_lens (yi.out t ht)) hly 14 2 true S2).mono ?_
 rintro e w3 ⟨rfl,b3⟩;replace b3:=zq (a:=w2) b3;replace Bz:=bT Bz b3;clear b3;go_wp2_with fail
 with_reducible refine(factor_no z (.inr (.inr i3))).mono ?_
 rintro e w4 ⟨rfl,b4⟩;replace b4:=zq (a:=w3) b4;replace Bz:=bT Bz b4;clear b4;go_wp2_with fail
 with_reducible refine(awake7_q (zt hT hB Bz)).mono ?_
 rintro e w5 ⟨rfl,b5⟩;replace b5:=zq (a:=w4) b5;replace Bz:=bT Bz b5;clear b5;go_wp2_with fail
 go_ret
 have hF:=bT (c:=w5) hB Bz;exact⟨rfl,bT hF⟩
theorem solves_b4 {w:World} {LA X Y:Option Addr} {nl cl nx cx ny cy:Nat} {CL:List Vc} {LX LY:List Tm} (hl:Sl Vc.cs 1 w LA nl cl CL) (hli:Hid (∀v∈CL,VgIn w v)) (hll:nl≤9223372036854775807) (hx:Sl Tm.cs 5 w X nx cx LX) (xi:Hid (∀t∈LX,TmIn w t)) (hlx:nx≤9223372036854775807) (hy:Sl Tm.cs 5 w Y ny cy LY) (yi:Hid (∀t∈LY,TmIn w t)) (hly:ny≤9223372036854775807) (S0:Hid (shortVcs 14 14 2 nl CL=true)) (S1:Hid (zAm 14 2 ⟨X,nx,cx,LX⟩=true)) (S2:Hid (zAm 14 2 ⟨Y,ny,cy,LY⟩=true)) (HR:Hid ((CL.all fun v=>rightB v.L (nl:Int))=false)) (hT:Hid (Tab w)) :
  Calls Tryz.prog 5 #[.slice LA nl cl,.int .i64 (nl:Int),.slice X nx cx,.slice Y ny cy] w (Yes w):=by
 have hnl:=(cw_small (k:=14) (cnt:=14) (most:=2) hl hli.out S0.out).2.1;have i1:¬(nl:Int)<0:=zo;have i2:¬256<(nl:Int):=zo;have g0:((nl:Int) !=(nl:Int))=false:=by simp
 have hB:=Below.refl w.heap.size w;have Bz:=zr w;go_enter Tryz.func5,Tryz.ntmps5
 go_wp2_with fail
 with_reducible refine(shortVecs_q (hl.below (bT hB (bT (b:=w) Bz))) (zh fun v hv=>vg_lens ((hli.out v hv).below (bT hB (bT (b:=w) Bz)))) hll 14 14 2 true S0).mono ?_
 rintro e w1 ⟨rfl,b1⟩;replace b1:=zq (a:=w) b1;replace Bz:=bT Bz b1;clear b1;go_wp2_with fail
 with_reducible refine(zAh (hx.below (bT hB (bT (b:=w1) Bz))) (zh fun t ht=>tm_lens (xi.out t ht)) hlx 14 2 true S1).mono ?_
 rintro e w2 ⟨rfl,b2⟩;replace b2:=zq (a:=w1) b2;replace Bz:=bT Bz b2;clear b2;go_wp2_with fail
 with_reducible refine(zAh (hy.below (bT hB (bT (b:=w2) Bz))) (zh fun t ht=>tm_lens (yi.out t ht)) hly 14 2 true S2).mono ?_
 rintro e w3 ⟨rfl,b3⟩;replace b3:=zq (a:=w2) b3;replace Bz:=bT Bz b3;clear b3;go_wp2_with fail
 with_reducible refine(factorBadS (hl.below (bT hB (bT (b:=w3) Bz))) (zh fun v hv=>⟨(VgIn.sl (hli.out v hv)).below (bT hB (bT (b:=w3) Bz)),fun t ht=>(right_frk (k:=14) (cnt:=14) (most:=2) hli.out S0.out v hv t ht).below (bT hB (bT (b:=w3) Bz)),Nat.le_trans (right_nk (k:=14) (cnt:=14) (most:=2) S0.out v hv) zd,VgIn.nul (hli.out v hv)⟩) hnl HR.out (nl:Int) rfl (zt hT hB Bz)).mono ?_
 rintro e w4 ⟨rfl,b4⟩;replace b4:=zq (a:=w3) b4;replace Bz:=bT Bz b4;clear b4;go_wp2_with fail
 with_reducible refine(mright_q (m:=2) (hl.below (bT hB (bT (b:=w4) Bz))) (zh fun v hv=>⟨(VgIn.sl (hli.out v hv)).below (bT hB (bT (b:=w4) Bz)),fun t ht=>(right_frk (k:=14) (cnt:=14) (most:=2) hli.out S0.out v hv t ht).below (bT hB (bT (b:=w4) Bz)),Nat.le_trans (right_nk (k:=14) (cnt:=14) (most:=2) S0.out v hv) zd⟩) zd zo zo false HR (zt hT hB Bz)).mono ?_
 rintro e w5 ⟨rfl,b5⟩;replace b5:=zq (a:=w4) b5;replace Bz:=bT Bz b5;clear b5;go_wp2_with fail
 with_reducible refine(awake7_q (zt hT hB Bz)).mono ?_
 rintro e w6 ⟨rfl,b6⟩;replace b6:=zq (a:=w5) b6;replace Bz:=bT Bz b6;clear b6;go_wp2_with fail
 go_ret
 have hF:=bT (c:=w6) hB Bz;exact⟨rfl,bT hF⟩
theorem solves_b5 {w:World} {LA X Y:Option Addr} {nl cl nx cx ny cy:Nat} {CL:List Vc} {LX LY:List Tm} (hl:Sl Vc.cs 1 w LA nl cl CL) (hli:Hid (∀v∈CL,VgIn w v)) (hll:nl≤9223372036854775807) (hx:Sl Tm.cs 5 w X nx cx LX) (xi:Hid (∀t∈LX,TmIn w t)) (hlx:nx≤9223372036854775807) (hy:Sl Tm.cs 5 w Y ny cy LY) (yi:Hid (∀t∈LY,TmIn w t)) (hly:ny≤9223372036854775807) (S0:Hid (shortVcs 14 14 2 nl CL=true)) (S1:Hid (zAm 14 2 ⟨X,nx,cx,LX⟩=true)) (S2:Hid (zAm 14 2 ⟨Y,ny,cy,LY⟩=true)) (HR:Hid ((CL.all fun v=>rightB v.L (nl:Int))=true)) (HSN:Hid ((facUp (facT (CL.map fun v=>prs v.L) nl) nl).isNone=true)) (hT:Hid (Tab w)) :
  Calls Tryz.prog 5 #[.slice LA nl cl,.int .i64 (nl:Int),.slice X nx cx,.slice Y ny cy] w (Yes w):=by
 obtain⟨_,hnl,hC⟩:=cw_small (k:=14) (cnt:=14) (most:=2) hl hli.out S0.out;obtain⟨hcm,hrx⟩:=cm_right (k:=14) (cnt:=14) (most:=2) hl hli.out S0.out HR.out;have HRX:=zh hrx;have HC:=zh hC;have HLM:Hid (∀x∈(CL.map fun v=>prs v.L),x.length≤1000):=zh fun x hx=>Nat.le_trans (HC.out x hx).1 zd;have HRC:Hid (rightC (nl:Int) (CL.map fun v=>prs v.L)=true):=zh (rightC_iff.2 HRX.out);have HFM:Hid (facM (2+2) nl≤3600000012):=zh (Nat.le_trans (facM_mono 4 hnl) zd);clear hC hrx;have i1:¬(nl:Int)<0:=zo;have i2:¬256<(nl:Int):=zo;have g0:((nl:Int) !=(nl:Int))=false:=by simp
 have hB:=Below.refl w.heap.size w;have Bz:=zr w;go_enter Tryz.func5,Tryz.ntmps5
 go_wp2_with fail
 with_reducible refine(shortVecs_q (hl.below (bT hB (bT (b:=w) Bz))) (zh fun v hv=>vg_lens ((hli.out v hv).below (bT hB (bT (b:=w) Bz)))) hll 14 14 2 true S0).mono ?_
 rintro e w1 ⟨rfl,b1⟩;replace b1:=zq (a:=w) b1;replace hcm:=hcm.below b1;replace Bz:=bT Bz b1;clear b1;go_wp2_with fail
 with_reducible refine(zAh (hx.below (bT hB (bT (b:=w1) Bz))) (zh fun t ht=>tm_lens (xi.out t ht)) hlx 14 2 true S1).mono ?_
 rintro e w2 ⟨rfl,b2⟩;replace b2:=zq (a:=w1) b2;replace hcm:=hcm.below b2;replace Bz:=bT Bz b2;clear b2;go_wp2_with fail
 with_reducible refine(zAh (hy.below (bT hB (bT (b:=w2) Bz))) (zh fun t ht=>tm_lens (yi.out t ht)) hly 14 2 true S2).mono ?_
 rintro e w3 ⟨rfl,b3⟩;replace b3:=zq (a:=w2) b3;replace hcm:=hcm.below b3;replace Bz:=bT Bz b3;clear b3;go_wp2_with fail
 with_reducible refine(factorSing (CM.below hcm) HLM.out zo HFM.out HRC.out HSN.out (nl:Int) rfl (zt hT hB Bz)).mono ?_
 rintro e w4 ⟨rfl,b4⟩;replace b4:=zq (a:=w3) b4;replace Bz:=bT Bz b4;clear b4;go_wp2_with fail
 with_reducible refine(mright_q (m:=2) (hl.below (bT hB (bT (b:=w4) Bz))) (zh fun v hv=>⟨(VgIn.sl (hli.out v hv)).below (bT hB (bT (b:=w4) Bz)),fun t ht=>(right_frk (k:=14) (cnt:=14) (most:=2) hli.out S0.out v hv t ht).below (bT hB (bT (b:=w4) Bz)),Nat.le_trans (right_nk (k:=14) (cnt:=14) (most:=2) S0.out v hv) zd⟩) zd zo zo true HR (zt hT hB Bz)).mono ?_
 rintro e w5 ⟨rfl,b5⟩;replace b5:=zq (a:=w4) b5;replace Bz:=bT Bz b5;clear b5;go_wp2_with fail
 with_reducible refine(awake7_q (zt hT hB Bz)).mono ?_
 rintro e w6 ⟨rfl,b6⟩;replace b6:=zq (a:=w5) b6;replace Bz:=bT Bz b6;clear b6;go_wp2_with fail
 go_ret
 have hF:=bT (c:=w6) hB Bz;refine⟨?_,bT hF⟩;show Ending.returned (.bool (!decide ((nl:Int)<0)&&!decide (256<(nl:Int))))=_
 rw[decide_eq_false (by omega:¬(nl:Int)<0),decide_eq_false (by omega:¬256<(nl:Int))];rfl
theorem solves_ok11 {w:World} {LA X Y:Option Addr} {nl cl nx cx ny cy:Nat} {CL:List Vc} {LX LY:List Tm} (hl:Sl Vc.cs 1 w LA nl cl CL) (hli:Hid (∀v∈CL,VgIn w v)) (hll:nl≤9223372036854775807) (hx:Sl Tm.cs 5 w X nx cx LX) (xi:Hid (∀t∈LX,TmIn w t)) (hlx:nx≤9223372036854775807) (hy:Sl Tm.cs 5 w Y ny cy LY) (yi:Hid (∀t∈LY,TmIn w t)) (hly:ny≤9223372036854775807) (xc:X=none→cx=0) (yc:Y=none→cy=0) (S0:Hid (shortVcs 14 14 2 nl CL=true)) (S1:Hid (zAm 14 2 ⟨X,nx,cx,LX⟩=true)) (S2:Hid (zAm 14 2 ⟨Y,ny,cy,LY⟩=true)) (HR:Hid ((CL.all fun v=>rightB v.L (nl:Int))=true)) (HSM:Hid ((facUp (facT (CL.map fun v=>prs v.L) nl) nl).isSome=true)) (HNF:Hid (fitsB nl (nrm (prs LX))=true)) (HNB:Hid (fitsB nl (nrm (prs LY))=true)) (hT:Hid (Tab w)) :
  Calls Tryz.prog 5 #[.slice LA nl cl,.int .i64 (nl:Int),.slice X nx cx,.slice Y ny cy] w (Yes w):=by
 obtain⟨_,hnl,hC⟩:=cw_small (k:=14) (cnt:=14) (most:=2) hl hli.out S0.out;obtain⟨hcm,hrx⟩:=cm_right (k:=14) (cnt:=14) (most:=2) hl hli.out S0.out HR.out;have HRX:=zh hrx;have HC:=zh hC;have HLM:Hid (∀x∈(CL.map fun v=>prs v.L),x.length≤1000):=zh fun x hx=>Nat.le_trans (HC.out x hx).1 zd;have HRC:Hid (rightC (nl:Int) (CL.map fun v=>prs v.L)=true):=zh (rightC_iff.2 HRX.out);have HFM:Hid (facM (2+2) nl≤3600000012):=zh (Nat.le_trans (facM_mono 4 hnl) zd);clear hC hrx;obtain⟨hgx,hnx⟩:=gv_small (cnt:=14) (most:=2) hx xi.out xc S1.out;obtain⟨hgy,hny⟩:=gv_small (cnt:=14) (most:=2) hy yi.out yc S2.out;have wtx:wtot (prs LX)≤56:=Nat.le_trans (wtot_le (sz_small (cnt:=14) (most:=2) xi.out S1.out)) (by rw[hgx.len];omega);have wty:wtot (prs LY)≤56:=Nat.le_trans (wtot_le (sz_small (cnt:=14) (most:=2) yi.out S2.out)) (by rw[hgy.len];omega);have HLX:Hid ((prs LX).length≤14):=zh (by rw[hgx.len];exact hnx);have HLN:Hid ((CL.map fun v=>prs v.L).length=nl):=zh hcm.len;have HIN:Hid (∀c∈(CL.map fun v=>prs v.L),∀x∈c,0≤x.1∧x.1<(nl:Int)):=zh fun c hc=>(HRX.out c hc).2;have HRI:Hid (∀x∈(CL.map fun v=>prs v.L),Rise x):=zh fun x hx=>(HRX.out x hx).1.rise;have HTM:Hid (∀x∈(CL.map fun v=>prs v.L),x.length≤14∧wtot x≤56):=zh fun x hx=>HC.out x hx;have HSZ:=zh hcm.szs;have HCS:Hid (∀x∈(CL.map fun v=>prs v.L),Rise x∧∀y∈x,sz y.2+1≤4):=zh fun x hx=>⟨HRI.out x hx,HSZ.out x hx⟩;have HCT:Hid (∀x∈(CL.map fun v=>prs v.L),(Rise x∧∀y∈x,sz y.2+1≤4)∧x.length≤14):=zh fun x hx=>⟨HCS.out x hx,(HC.out x hx).1⟩;have g0:((nl:Int) !=(nl:Int))=false:=by simp
 have HL1:Hid (nrm (timesP (CL.map fun v=>prs v.L) (layF nl (back (fwd (facST (CL.map fun v=>prs v.L) nl) (pget (prs LX))) (facST (CL.map fun v=>prs v.L) nl))))=nrm (prs LX)):=zh (lawS1 HLN.out HIN.out HSM.out HNF.out);have HL2:Hid (nrm (idxP ((CL.map fun v=>prs v.L).map fun x=>pdot (layF nl (btDn (facST (CL.map fun v=>prs v.L) nl) (btUp (facST (CL.map fun v=>prs v.L) nl) (pget (prs LY)) fun _=>0))) x))=nrm (prs LY)):=zh (lawS2 HLN.out HIN.out HSM.out HNB.out);have HL3:Hid ((layF nl (back (fwd (facST (CL.map fun v=>prs v.L) nl) (pget (nrm (timesP (CL.map fun v=>prs v.L) (nrm (prs LY)))))) (facST (CL.map fun v=>prs v.L) nl)))=nrm (prs LY)):=zh (lawS3 HLN.out HSM.out (P:=prs LY) HNB.out);have HL4:Hid ((layF nl (btDn (facST (CL.map fun v=>prs v.L) nl) (btUp (facST (CL.map fun v=>prs v.L) nl) (pget (nrm (idxP ((CL.map fun v=>prs v.L).map fun x=>pdot (prs LX) x)))) fun _=>0)))=nrm (prs LX)):=zh (lawS4 HLN.out HIN.out HSM.out HNF.out);have hB:=Below.refl w.heap.size w;have Bz:=zr w;go_enter Tryz.func5,Tryz.ntmps5
 go_wp2_with fail
 with_reducible refine(shortVecs_q (hl.below (bT hB (bT (b:=w) Bz))) (zh fun v hv=>vg_lens ((hli.out v hv).below (bT hB (bT (b:=w) Bz)))) hll 14 14 2 true S0).mono ?_
 rintro e w1 ⟨rfl,b1⟩;replace b1:=zq (a:=w) b1;replace hcm:=hcm.below b1;replace hgx:=hgx.below b1;replace hgy:=hgy.below b1;replace Bz:=bT Bz b1;clear b1;go_wp2_with fail
 with_reducible refine(zAh (hx.below (bT hB (bT (b:=w1) Bz))) (zh fun t ht=>tm_lens (xi.out t ht)) hlx 14 2 true S1).mono ?_
 rintro e w2 ⟨rfl,b2⟩;replace b2:=zq (a:=w1) b2;replace hcm:=hcm.below b2;replace hgx:=hgx.below b2;replace hgy:=hgy.below b2;replace Bz:=bT Bz b2;clear b2;go_wp2_with fail
 with_reducible refine(zAh (hy.below (bT hB (bT (b:=w2) Bz))) (zh fun t ht=>tm_lens (yi.out t ht)) hly 14 2 true S2).mono ?_
 rintro e w3 ⟨rfl,b3⟩;replace b3:=zq (a:=w2) b3;replace hcm:=hcm.below b3;replace hgx:=hgx.below b3;replace hgy:=hgy.below b3;replace Bz:=bT Bz b3;clear b3;go_wp2_with fail
 with_reducible refine(factorOk (C:=(CL.map fun v=>prs v.L)) (CM.below hcm) HLM.out zo HFM.out HRC.out HSM.out (nl:Int) rfl (zt hT hB Bz)).mono ?_
 rintro e w4 ⟨fb,rfl,h4,b4⟩;replace b4:=zq (a:=w3) b4;replace hcm:=hcm.below b4;replace hgx:=hgx.below b4;replace hgy:=hgy.below b4;replace Bz:=bT Bz b4;clear b4;have HPM:=zh (lu_perm h4 zo);go_wp2_with fail
 with_reducible refine(order_q (LuAt.below h4).lu zo).mono ?_
 rintro e w5 ⟨ra,ca,rfl,h5,h5r,b5⟩;replace b5:=zq (a:=w4) b5;replace hcm:=hcm.below b5;replace hgx:=hgx.below b5;replace hgy:=hgy.below b5;replace h4:=h4.below b5;replace Bz:=bT Bz b5;clear b5;go_wp2_with fail
 with_reducible refine(perm_q (Sl.below h5) (zh HPM.out.1.2) zo true (zh HPM.out.1.1)).mono ?_
 rintro e w6 ⟨rfl,b6⟩;replace b6:=zq (a:=w5) b6;replace h5r:=h5r.below b6;replace hcm:=hcm.below b6;replace hgx:=hgx.below b6;replace hgy:=hgy.below b6;replace h4:=h4.below b6;replace Bz:=bT Bz b6;clear b6;go_wp2_with fail
 with_reducible refine(perm_q (Sl.below h5r) (zh HPM.out.2.2) zo true (zh HPM.out.2.1)).mono ?_
 rintro e w7 ⟨rfl,b7⟩;replace b7:=zq (a:=w6) b7;replace hcm:=hcm.below b7;replace hgx:=hgx.below b7;replace hgy:=hgy.below b7;replace h4:=h4.below b7;replace Bz:=bT Bz b7;clear b7;go_wp2_with fail
 with_reducible refine(ftranS (LuAt.below h4) HCS.out (GV.below hgx) zd zd zo hnl HNF.out (zt hT hB Bz)).mono ?_
 rintro e w8 ⟨A8,n8,c8,rfl,h8,l8,b8⟩;replace b8:=zq (a:=w7) b8;replace hcm:=hcm.below b8;replace hgx:=hgx.below b8;replace hgy:=hgy.below b8;replace h4:=h4.below b8;replace Bz:=bT Bz b8;clear b8;go_wp2_with fail
 with_reducible refine(btranS (LuAt.below h4) HCS.out (GV.below hgy) zd zd zo hnl HNB.out (zt hT hB Bz)).mono ?_
 rintro e w9 ⟨A9,n9,c9,rfl,h9,l9,b9⟩;replace b9:=zq (a:=w8) b9;replace hcm:=hcm.below b9;replace hgx:=hgx.below b9;replace hgy:=hgy.below b9;replace h4:=h4.below b9;replace h8:=h8.below b9;replace Bz:=bT Bz b9;clear b9;go_wp2_with fail
 with_reducible refine(rightS (NV.below h8) zd zo (lay_nrm _ _) (lay_at _ _) (zt hT hB Bz)).mono ?_
 rintro e w10 ⟨rfl,b10⟩;replace b10:=zq (a:=w9) b10;replace hcm:=hcm.below b10;replace hgx:=hgx.below b10;replace hgy:=hgy.below b10;replace h4:=h4.below b10;replace h8:=h8.below b10;replace h9:=h9.below b10;replace Bz:=bT Bz b10;clear b10;go_wp2_with fail
 with_reducible refine(timesS (CM.below hcm) HCT.out (NV.below h8) (lay_nrm _ _) l8 hnl (zt hT hB Bz)).mono ?_
 rintro e w11 ⟨A11,n11,c11,rfl,h11,l11,b11⟩;replace b11:=zq (a:=w10) b11;replace hcm:=hcm.below b11;replace hgx:=hgx.below b11;replace hgy:=hgy.below b11;replace h4:=h4.below b11;replace h9:=h9.below b11;replace Bz:=bT Bz b11;clear b11;go_wp2_with fail
 with_reducible refine(normW 56 14 (GV.below hgx) hnx zd zd (zt hT hB Bz)).mono ?_
 rintro e w12 ⟨A12,n12,c12,rfl,h12,l12,b12⟩;replace b12:=zq (a:=w11) b12;replace hcm:=hcm.below b12;replace hgx:=hgx.below b12;replace hgy:=hgy.below b12;replace h4:=h4.below b12;replace h11:=h11.below b12;replace h9:=h9.below b12;replace Bz:=bT Bz b12;clear b12;go_wp2_with fail
 with_reducible refine(sameVec_q (NV.below h11) (NV.below h12) zd zd zo zo true (zh (decide_eq_true HL1.out))).mono ?_
 rintro e w13 ⟨rfl,b13⟩;replace b13:=zq (a:=w12) b13;replace hcm:=hcm.below b13;replace hgx:=hgx.below b13;replace hgy:=hgy.below b13;replace h4:=h4.below b13;replace h9:=h9.below b13;replace Bz:=bT Bz b13;clear b13;go_wp2_with fail
 with_reducible refine(rightS (NV.below h9) zd zo (lay_nrm _ _) (lay_at _ _) (zt hT hB Bz)).mono ?_
 rintro e w14 ⟨rfl,b14⟩;replace b14:=zq (a:=w13) b14;replace hcm:=hcm.below b14;replace hgx:=hgx.below b14;replace hgy:=hgy.below b14;replace h4:=h4.below b14;replace h9:=h9.below b14;replace Bz:=bT Bz b14;clear b14;go_wp2_with fail
 with_reducible refine(leftS (CM.below hcm) HCT.out (NV.below h9) (lay_nrm _ _) l9 hnl (zt hT hB Bz)).mono ?_
 rintro e w15 ⟨A15,n15,c15,rfl,h15,l15,b15⟩;replace b15:=zq (a:=w14) b15;replace hcm:=hcm.below b15;replace hgx:=hgx.below b15;replace hgy:=hgy.below b15;replace h4:=h4.below b15;replace Bz:=bT Bz b15;clear b15;go_wp2_with fail
 with_reducible refine(normW 56 14 (GV.below hgy) hny zd zd (zt hT hB Bz)).mono ?_
 rintro e w16 ⟨A16,n16,c16,rfl,h16,l16,b16⟩;replace b16:=zq (a:=w15) b16;replace hcm:=hcm.below b16;replace hgx:=hgx.below b16;replace hgy:=hgy.below b16;replace h4:=h4.below b16;replace h15:=h15.below b16;replace Bz:=bT Bz b16;clear b16;go_wp2_with fail
 with_reducible refine(sameVec_q (NV.below h15) (NV.below h16) zd zd zo zo true (zh (decide_eq_true HL2.out))).mono ?_
 rintro e w17 ⟨rfl,b17⟩;replace b17:=zq (a:=w16) b17;replace hcm:=hcm.below b17;replace hgx:=hgx.below b17;replace hgy:=hgy.below b17;replace h4:=h4.below b17;replace Bz:=bT Bz b17;clear b17;go_wp2_with fail
 with_reducible refine(timesW 56 5 14 56 14 56 1568 196 (CM.cw (CM.below hcm) HRI.out) (GV.below hgy) HTM.out hny wty zd zd zd zd zo zd zd zd (zt hT hB Bz)).mono ?_
 rintro e w18 ⟨A18,n18,c18,rfl,h18,l18,b18⟩;replace b18:=zq (a:=w17) b18;replace hcm:=hcm.below b18;replace hgx:=hgx.below b18;replace hgy:=hgy.below b18;replace h4:=h4.below b18;replace Bz:=bT Bz b18;clear b18;go_wp2_with fail
 with_reducible refine(ftranS (LuAt.below h4) HCS.out ((NV.below h18).gv (nrm_nrm _).rise) zd zd zo hnl (fit_times HIN.out _) (zt hT hB Bz)).mono ?_
 rintro e w19 ⟨A19,n19,c19,rfl,h19,l19,b19⟩;replace b19:=zq (a:=w18) b19;replace hcm:=hcm.below b19;replace hgx:=hgx.below b19;replace hgy:=hgy.below b19;replace h4:=h4.below b19;replace Bz:=bT Bz b19;clear b19;go_wp2_with fail
 with_reducible refine(leftC 56 5 14 141 14 (GV.below hgx) (CM.cw (CM.below hcm) HRI.out) hnx HLM.out hnl zd (CW.dotK (WT:=56) (N:=14) (CM.cw hcm HRI.out) wtx HLX.out zd) zd zd zd zd zd zd (zt hT hB Bz)).mono ?_
 rintro e w20 ⟨A20,n20,c20,rfl,h20,l20,b20⟩;replace b20:=zq (a:=w19) b20;replace hgx:=hgx.below b20;replace hgy:=hgy.below b20;replace h4:=h4.below b20;replace h19:=h19.below b20;replace Bz:=bT Bz b20;clear b20;go_wp2_with fail
 with_reducible refine(btranS (LuAt.below h4) HCS.out ((NV.below h20).gv (nrm_nrm _).rise) zd zd zo hnl (fit_left HLN.out _) (zt hT hB Bz)).mono ?_
 rintro e w21 ⟨A21,n21,c21,rfl,h21,l21,b21⟩;replace b21:=zq (a:=w20) b21;replace hgx:=hgx.below b21;replace hgy:=hgy.below b21;replace h19:=h19.below b21;replace Bz:=bT Bz b21;clear b21;go_wp2_with fail
 with_reducible refine(normW 56 14 (GV.below hgy) hny zd zd (zt hT hB Bz)).mono ?_
 rintro e w22 ⟨A22,n22,c22,rfl,h22,l22,b22⟩;replace b22:=zq (a:=w21) b22;replace hgx:=hgx.below b22;replace h19:=h19.below b22;replace h21:=h21.below b22;replace Bz:=bT Bz b22;clear b22;go_wp2_with fail
 with_reducible refine(sameVec_q (NV.below h19) (NV.below h22) zd zd zo zo true (zh (decide_eq_true HL3.out))).mono ?_
 rintro e w23 ⟨rfl,b23⟩;replace b23:=zq (a:=w22) b23;replace hgx:=hgx.below b23;replace h21:=h21.below b23;replace Bz:=bT Bz b23;clear b23;go_wp2_with fail
 with_reducible refine(normW 56 14 (GV.below hgx) hnx zd zd (zt hT hB Bz)).mono ?_
 rintro e w24 ⟨A24,n24,c24,rfl,h24,l24,b24⟩;replace b24:=zq (a:=w23) b24;replace h21:=h21.below b24;replace Bz:=bT Bz b24;clear b24;go_wp2_with fail
 with_reducible refine(sameVec_q (NV.below h21) (NV.below h24) zd zd zo zo true (zh (decide_eq_true HL4.out))).mono ?_
 rintro e w25 ⟨rfl,b25⟩;replace b25:=zq (a:=w24) b25;replace Bz:=bT Bz b25;clear b25;go_wp2_with fail
 with_reducible refine(awake7_q (zt hT hB Bz)).mono ?_
 rintro e w26 ⟨rfl,b26⟩;replace b26:=zq (a:=w25) b26;replace Bz:=bT Bz b26;clear b26;go_wp2_with fail
 go_ret
 have hF:=bT (c:=w26) hB Bz;exact⟨rfl,bT hF⟩
theorem solves_ok10 {w:World} {LA X Y:Option Addr} {nl cl nx cx ny cy:Nat} {CL:List Vc} {LX LY:List Tm} (hl:Sl Vc.cs 1 w LA nl cl CL) (hli:Hid (∀v∈CL,VgIn w v)) (hll:nl≤9223372036854775807) (hx:Sl Tm.cs 5 w X nx cx LX) (xi:Hid (∀t∈LX,TmIn w t)) (hlx:nx≤9223372036854775807) (hy:Sl Tm.cs 5 w Y ny cy LY) (yi:Hid (∀t∈LY,TmIn w t)) (hly:ny≤9223372036854775807) (xc:X=none→cx=0) (yc:Y=none→cy=0) (S0:Hid (shortVcs 14 14 2 nl CL=true)) (S1:Hid (zAm 14 2 ⟨X,nx,cx,LX⟩=true)) (S2:Hid (zAm 14 2 ⟨Y,ny,cy,LY⟩=true)) (HR:Hid ((CL.all fun v=>rightB v.L (nl:Int))=true)) (HSM:Hid ((facUp (facT (CL.map fun v=>prs v.L) nl) nl).isSome=true)) (HNF:Hid (fitsB nl (nrm (prs LX))=true)) (HNB:Hid (fitsB nl (nrm (prs LY))=false)) (hT:Hid (Tab w)) :
  Calls Tryz.prog 5 #[.slice LA nl cl,.int .i64 (nl:Int),.slice X nx cx,.slice Y ny cy] w (Yes w):=by
 obtain⟨_,hnl,hC⟩:=cw_small (k:=14) (cnt:=14) (most:=2) hl hli.out S0.out;obtain⟨hcm,hrx⟩:=cm_right (k:=14) (cnt:=14) (most:=2) hl hli.out S0.out HR.out;have HRX:=zh hrx;have HC:=zh hC;have HLM:Hid (∀x∈(CL.map fun v=>prs v.L),x.length≤1000):=zh fun x hx=>Nat.le_trans (HC.out x hx).1 zd;have HRC:Hid (rightC (nl:Int) (CL.map fun v=>prs v.L)=true):=zh (rightC_iff.2 HRX.out);have HFM:Hid (facM (2+2) nl≤3600000012):=zh (Nat.le_trans (facM_mono 4 hnl) zd);clear hC hrx;obtain⟨hgx,hnx⟩:=gv_small (cnt:=14) (most:=2) hx xi.out xc S1.out;obtain⟨hgy,hny⟩:=gv_small (cnt:=14) (most:=2) hy yi.out yc S2.out;have wtx:wtot (prs LX)≤56:=Nat.le_trans (wtot_le (sz_small (cnt:=14) (most:=2) xi.out S1.out)) (by rw[hgx.len];omega);have wty:wtot (prs LY)≤56:=Nat.le_trans (wtot_le (sz_small (cnt:=14) (most:=2) yi.out S2.out)) (by rw[hgy.len];omega);have HLX:Hid ((prs LX).length≤14):=zh (by rw[hgx.len];exact hnx);have HLN:Hid ((CL.map fun v=>prs v.L).length=nl):=zh hcm.len;have HIN:Hid (∀c∈(CL.map fun v=>prs v.L),∀x∈c,0≤x.1∧x.1<(nl:Int)):=zh fun c hc=>(HRX.out c hc).2;have HRI:Hid (∀x∈(CL.map fun v=>prs v.L),Rise x):=zh fun x hx=>(HRX.out x hx).1.rise;have HTM:Hid (∀x∈(CL.map fun v=>prs v.L),x.length≤14∧wtot x≤56):=zh fun x hx=>HC.out x hx;have HSZ:=zh hcm.szs;have HCS:Hid (∀x∈(CL.map fun v=>prs v.L),Rise x∧∀y∈x,sz y.2+1≤4):=zh fun x hx=>⟨HRI.out x hx,HSZ.out x hx⟩;have HCT:Hid (∀x∈(CL.map fun v=>prs v.L),(Rise x∧∀y∈x,sz y.2+1≤4)∧x.length≤14):=zh fun x hx=>⟨HCS.out x hx,(HC.out x hx).1⟩;have g0:((nl:Int) !=(nl:Int))=false:=by simp
 have HL1:Hid (nrm (timesP (CL.map fun v=>prs v.L) (layF nl (back (fwd (facST (CL.map fun v=>prs v.L) nl) (pget (prs LX))) (facST (CL.map fun v=>prs v.L) nl))))=nrm (prs LX)):=zh (lawS1 HLN.out HIN.out HSM.out HNF.out);have HL4:Hid ((layF nl (btDn (facST (CL.map fun v=>prs v.L) nl) (btUp (facST (CL.map fun v=>prs v.L) nl) (pget (nrm (idxP ((CL.map fun v=>prs v.L).map fun x=>pdot (prs LX) x)))) fun _=>0)))=nrm (prs LX)):=zh (lawS4 HLN.out HIN.out HSM.out HNF.out);have hB:=Below.refl w.heap.size w;have Bz:=zr w;go_enter Tryz.func5,Tryz.ntmps5
 go_wp2_with fail
 with_reducible refine(shortVecs_q (hl.below (bT hB (bT (b:=w) Bz))) (zh fun v hv=>vg_lens ((hli.out v hv).below (bT hB (bT (b:=w) Bz)))) hll 14 14 2 true S0).mono ?_
 rintro e w1 ⟨rfl,b1⟩;replace b1:=zq (a:=w) b1;replace hcm:=hcm.below b1;replace hgx:=hgx.below b1;replace hgy:=hgy.below b1;replace Bz:=bT Bz b1;clear b1;go_wp2_with fail
 with_reducible refine(zAh (hx.below (bT hB (bT (b:=w1) Bz))) (zh fun t ht=>tm_lens (xi.out t ht)) hlx 14 2 true S1).mono ?_
 rintro e w2 ⟨rfl,b2⟩;replace b2:=zq (a:=w1) b2;replace hcm:=hcm.below b2;replace hgx:=hgx.below b2;replace hgy:=hgy.below b2;replace Bz:=bT Bz b2;clear b2;go_wp2_with fail
 with_reducible refine(zAh (hy.below (bT hB (bT (b:=w2) Bz))) (zh fun t ht=>tm_lens (yi.out t ht)) hly 14 2 true S2).mono ?_
 rintro e w3 ⟨rfl,b3⟩;replace b3:=zq (a:=w2) b3;replace hcm:=hcm.below b3;replace hgx:=hgx.below b3;replace hgy:=hgy.below b3;replace Bz:=bT Bz b3;clear b3;go_wp2_with fail
 with_reducible refine(factorOk (C:=(CL.map fun v=>prs v.L)) (CM.below hcm) HLM.out zo HFM.out HRC.out HSM.out (nl:Int) rfl (zt hT hB Bz)).mono ?_
 rintro e w4 ⟨fb,rfl,h4,b4⟩;replace b4:=zq (a:=w3) b4;replace hcm:=hcm.below b4;replace hgx:=hgx.below b4;replace hgy:=hgy.below b4;replace Bz:=bT Bz b4;clear b4;have HPM:=zh (lu_perm h4 zo);go_wp2_with fail
 with_reducible refine(order_q (LuAt.below h4).lu zo).mono ?_
 rintro e w5 ⟨ra,ca,rfl,h5,h5r,b5⟩;replace b5:=zq (a:=w4) b5;replace hcm:=hcm.below b5;replace hgx:=hgx.below b5;replace hgy:=hgy.below b5;replace h4:=h4.below b5;replace Bz:=bT Bz b5;clear b5;go_wp2_with fail
 with_reducible refine(perm_q (Sl.below h5) (zh HPM.out.1.2) zo true (zh HPM.out.1.1)).mono ?_
 rintro e w6 ⟨rfl,b6⟩;replace b6:=zq (a:=w5) b6;replace h5r:=h5r.below b6;replace hcm:=hcm.below b6;replace hgx:=hgx.below b6;replace hgy:=hgy.below b6;replace h4:=h4.below b6;replace Bz:=bT Bz b6;clear b6;go_wp2_with fail
 with_reducible refine(perm_q (Sl.below h5r) (zh HPM.out.2.2) zo true (zh HPM.out.2.1)).mono ?_
 rintro e w7 ⟨rfl,b7⟩;replace b7:=zq (a:=w6) b7;replace hcm:=hcm.below b7;replace hgx:=hgx.below b7;replace hgy:=hgy.below b7;replace h4:=h4.below b7;replace Bz:=bT Bz b7;clear b7;go_wp2_with fail
 with_reducible refine(ftranS (LuAt.below h4) HCS.out (GV.below hgx) zd zd zo hnl HNF.out (zt hT hB Bz)).mono ?_
 rintro e w8 ⟨A8,n8,c8,rfl,h8,l8,b8⟩;replace b8:=zq (a:=w7) b8;replace hcm:=hcm.below b8;replace hgx:=hgx.below b8;replace hgy:=hgy.below b8;replace h4:=h4.below b8;replace Bz:=bT Bz b8;clear b8;go_wp2_with fail
 with_reducible refine(btranC_no (LuAt.below h4) (GV.below hgy) zd zd zo zo HNB.out (zt hT hB Bz)).mono ?_
 rintro e w9 ⟨rfl,b9⟩;replace b9:=zq (a:=w8) b9;replace hcm:=hcm.below b9;replace hgx:=hgx.below b9;replace hgy:=hgy.below b9;replace h4:=h4.below b9;replace h8:=h8.below b9;replace Bz:=bT Bz b9;clear b9;go_wp2_with fail
 with_reducible refine(rightS (NV.below h8) zd zo (lay_nrm _ _) (lay_at _ _) (zt hT hB Bz)).mono ?_
 rintro e w10 ⟨rfl,b10⟩;replace b10:=zq (a:=w9) b10;replace hcm:=hcm.below b10;replace hgx:=hgx.below b10;replace hgy:=hgy.below b10;replace h4:=h4.below b10;replace h8:=h8.below b10;replace Bz:=bT Bz b10;clear b10;go_wp2_with fail
 with_reducible refine(timesS (CM.below hcm) HCT.out (NV.below h8) (lay_nrm _ _) l8 hnl (zt hT hB Bz)).mono ?_
 rintro e w11 ⟨A11,n11,c11,rfl,h11,l11,b11⟩;replace b11:=zq (a:=w10) b11;replace hcm:=hcm.below b11;replace hgx:=hgx.below b11;replace hgy:=hgy.below b11;replace h4:=h4.below b11;replace Bz:=bT Bz b11;clear b11;go_wp2_with fail
 with_reducible refine(normW 56 14 (GV.below hgx) hnx zd zd (zt hT hB Bz)).mono ?_
 rintro e w12 ⟨A12,n12,c12,rfl,h12,l12,b12⟩;replace b12:=zq (a:=w11) b12;replace hcm:=hcm.below b12;replace hgx:=hgx.below b12;replace hgy:=hgy.below b12;replace h4:=h4.below b12;replace h11:=h11.below b12;replace Bz:=bT Bz b12;clear b12;go_wp2_with fail
 with_reducible refine(sameVec_q (NV.below h11) (NV.below h12) zd zd zo zo true (zh (decide_eq_true HL1.out))).mono ?_
 rintro e w13 ⟨rfl,b13⟩;replace b13:=zq (a:=w12) b13;replace hcm:=hcm.below b13;replace hgx:=hgx.below b13;replace hgy:=hgy.below b13;replace h4:=h4.below b13;replace Bz:=bT Bz b13;clear b13;go_wp2_with fail
 with_reducible refine(timesW 56 5 14 56 14 56 1568 196 (CM.cw (CM.below hcm) HRI.out) (GV.below hgy) HTM.out hny wty zd zd zd zd zo zd zd zd (zt hT hB Bz)).mono ?_
 rintro e w14 ⟨A14,n14,c14,rfl,h14,l14,b14⟩;replace b14:=zq (a:=w13) b14;replace hcm:=hcm.below b14;replace hgx:=hgx.below b14;replace h4:=h4.below b14;replace Bz:=bT Bz b14;clear b14;go_wp2_with fail
 with_reducible refine(ftranS (LuAt.below h4) HCS.out ((NV.below h14).gv (nrm_nrm _).rise) zd zd zo hnl (fit_times HIN.out _) (zt hT hB Bz)).mono ?_
 rintro e w15 ⟨A15,n15,c15,rfl,h15,l15,b15⟩;replace b15:=zq (a:=w14) b15;replace hcm:=hcm.below b15;replace hgx:=hgx.below b15;replace h4:=h4.below b15;replace Bz:=bT Bz b15;clear h15;clear b15;go_wp2_with fail
 with_reducible refine(leftC 56 5 14 141 14 (GV.below hgx) (CM.cw (CM.below hcm) HRI.out) hnx HLM.out hnl zd (CW.dotK (WT:=56) (N:=14) (CM.cw hcm HRI.out) wtx HLX.out zd) zd zd zd zd zd zd (zt hT hB Bz)).mono ?_
 rintro e w16 ⟨A16,n16,c16,rfl,h16,l16,b16⟩;replace b16:=zq (a:=w15) b16;replace hgx:=hgx.below b16;replace h4:=h4.below b16;replace Bz:=bT Bz b16;clear b16;go_wp2_with fail
 with_reducible refine(btranS (LuAt.below h4) HCS.out ((NV.below h16).gv (nrm_nrm _).rise) zd zd zo hnl (fit_left HLN.out _) (zt hT hB Bz)).mono ?_
 rintro e w17 ⟨A17,n17,c17,rfl,h17,l17,b17⟩;replace b17:=zq (a:=w16) b17;replace hgx:=hgx.below b17;replace Bz:=bT Bz b17;clear b17;go_wp2_with fail
 with_reducible refine(normW 56 14 (GV.below hgx) hnx zd zd (zt hT hB Bz)).mono ?_
 rintro e w18 ⟨A18,n18,c18,rfl,h18,l18,b18⟩;replace b18:=zq (a:=w17) b18;replace h17:=h17.below b18;replace Bz:=bT Bz b18;clear b18;go_wp2_with fail
 with_reducible refine(sameVec_q (NV.below h17) (NV.below h18) zd zd zo zo true (zh (decide_eq_true HL4.out))).mono ?_
 rintro e w19 ⟨rfl,b19⟩;replace b19:=zq (a:=w18) b19;replace Bz:=bT Bz b19;clear b19;go_wp2_with fail
 with_reducible refine(awake7_q (zt hT hB Bz)).mono ?_
 rintro e w20 ⟨rfl,b20⟩;replace b20:=zq (a:=w19) b20;replace Bz:=bT Bz b20;clear b20;go_wp2_with fail
 go_ret
 have hF:=bT (c:=w20) hB Bz;exact⟨rfl,bT hF⟩
theorem solves_ok01 {w:World} {LA X Y:Option Addr} {nl cl nx cx ny cy:Nat} {CL:List Vc} {LX LY:List Tm} (hl:Sl Vc.cs 1 w LA nl cl CL) (hli:Hid (∀v∈CL,VgIn w v)) (hll:nl≤9223372036854775807) (hx:Sl Tm.cs 5 w X nx cx LX) (xi:Hid (∀t∈LX,TmIn w t)) (hlx:nx≤9223372036854775807) (hy:Sl Tm.cs 5 w Y ny cy LY) (yi:Hid (∀t∈LY,TmIn w t)) (hly:ny≤9223372036854775807) (xc:X=none→cx=0) (yc:Y=none→cy=0) (S0:Hid (shortVcs 14 14 2 nl CL=true)) (S1:Hid (zAm 14 2 ⟨X,nx,cx,LX⟩=true)) (S2:Hid (zAm 14 2 ⟨Y,ny,cy,LY⟩=true)) (HR:Hid ((CL.all fun v=>rightB v.L (nl:Int))=true)) (HSM:Hid ((facUp (facT (CL.map fun v=>prs v.L) nl) nl).isSome=true)) (HNF:Hid (fitsB nl (nrm (prs LX))=false)) (HNB:Hid (fitsB nl (nrm (prs LY))=true)) (hT:Hid (Tab w)) :
  Calls Tryz.prog 5 #[.slice LA nl cl,.int .i64 (nl:Int),.slice X nx cx,.slice Y ny cy] w (Yes w):=by
 obtain⟨_,hnl,hC⟩:=cw_small (k:=14) (cnt:=14) (most:=2) hl hli.out S0.out;obtain⟨hcm,hrx⟩:=cm_right (k:=14) (cnt:=14) (most:=2) hl hli.out S0.out HR.out;have HRX:=zh hrx;have HC:=zh hC;have HLM:Hid (∀x∈(CL.map fun v=>prs v.L),x.length≤1000):=zh fun x hx=>Nat.le_trans (HC.out x hx).1 zd;have HRC:Hid (rightC (nl:Int) (CL.map fun v=>prs v.L)=true):=zh (rightC_iff.2 HRX.out);have HFM:Hid (facM (2+2) nl≤3600000012):=zh (Nat.le_trans (facM_mono 4 hnl) zd);clear hC hrx;obtain⟨hgx,hnx⟩:=gv_small (cnt:=14) (most:=2) hx xi.out xc S1.out;obtain⟨hgy,hny⟩:=gv_small (cnt:=14) (most:=2) hy yi.out yc S2.out;have wtx:wtot (prs LX)≤56:=Nat.le_trans (wtot_le (sz_small (cnt:=14) (most:=2) xi.out S1.out)) (by rw[hgx.len];omega);have wty:wtot (prs LY)≤56:=Nat.le_trans (wtot_le (sz_small (cnt:=14) (most:=2) yi.out S2.out)) (by rw[hgy.len];omega);have HLX:Hid ((prs LX).length≤14):=zh (by rw[hgx.len];exact hnx);have HLN:Hid ((CL.map fun v=>prs v.L).length=nl):=zh hcm.len;have HIN:Hid (∀c∈(CL.map fun v=>prs v.L),∀x∈c,0≤x.1∧x.1<(nl:Int)):=zh fun c hc=>(HRX.out c hc).2;have HRI:Hid (∀x∈(CL.map fun v=>prs v.L),Rise x):=zh fun x hx=>(HRX.out x hx).1.rise;have HTM:Hid (∀x∈(CL.map fun v=>prs v.L),x.length≤14∧wtot x≤56):=zh fun x hx=>HC.out x hx;have HSZ:=zh hcm.szs;have HCS:Hid (∀x∈(CL.map fun v=>prs v.L),Rise x∧∀y∈x,sz y.2+1≤4):=zh fun x hx=>⟨HRI.out x hx,HSZ.out x hx⟩;have HCT:Hid (∀x∈(CL.map fun v=>prs v.L),(Rise x∧∀y∈x,sz y.2+1≤4)∧x.length≤14):=zh fun x hx=>⟨HCS.out x hx,(HC.out x hx).1⟩;have g0:((nl:Int) !=(nl:Int))=false:=by simp
 have HL2:Hid (nrm (idxP ((CL.map fun v=>prs v.L).map fun x=>pdot (layF nl (btDn (facST (CL.map fun v=>prs v.L) nl) (btUp (facST (CL.map fun v=>prs v.L) nl) (pget (prs LY)) fun _=>0))) x))=nrm (prs LY)):=zh (lawS2 HLN.out HIN.out HSM.out HNB.out);have HL3:Hid ((layF nl (back (fwd (facST (CL.map fun v=>prs v.L) nl) (pget (nrm (timesP (CL.map fun v=>prs v.L) (nrm (prs LY)))))) (facST (CL.map fun v=>prs v.L) nl)))=nrm (prs LY)):=zh (lawS3 HLN.out HSM.out (P:=prs LY) HNB.out);have hB:=Below.refl w.heap.size w;have Bz:=zr w;go_enter Tryz.func5,Tryz.ntmps5
 go_wp2_with fail
 with_reducible refine(shortVecs_q (hl.below (bT hB (bT (b:=w) Bz))) (zh fun v hv=>vg_lens ((hli.out v hv).below (bT hB (bT (b:=w) Bz)))) hll 14 14 2 true S0).mono ?_
 rintro e w1 ⟨rfl,b1⟩;replace b1:=zq (a:=w) b1;replace hcm:=hcm.below b1;replace hgx:=hgx.below b1;replace hgy:=hgy.below b1;replace Bz:=bT Bz b1;clear b1;go_wp2_with fail
 with_reducible refine(zAh (hx.below (bT hB (bT (b:=w1) Bz))) (zh fun t ht=>tm_lens (xi.out t ht)) hlx 14 2 true S1).mono ?_
 rintro e w2 ⟨rfl,b2⟩;replace b2:=zq (a:=w1) b2;replace hcm:=hcm.below b2;replace hgx:=hgx.below b2;replace hgy:=hgy.below b2;replace Bz:=bT Bz b2;clear b2;go_wp2_with fail
 with_reducible refine(zAh (hy.below (bT hB (bT (b:=w2) Bz))) (zh fun t ht=>tm_lens (yi.out t ht)) hly 14 2 true S2).mono ?_
 rintro e w3 ⟨rfl,b3⟩;replace b3:=zq (a:=w2) b3;replace hcm:=hcm.below b3;replace hgx:=hgx.below b3;replace hgy:=hgy.below b3;replace Bz:=bT Bz b3;clear b3;go_wp2_with fail
 with_reducible refine(factorOk (C:=(CL.map fun v=>prs v.L)) (CM.below hcm) HLM.out zo HFM.out HRC.out HSM.out (nl:Int) rfl (zt hT hB Bz)).mono ?_
 rintro e w4 ⟨fb,rfl,h4,b4⟩;replace b4:=zq (a:=w3) b4;replace hcm:=hcm.below b4;replace hgx:=hgx.below b4;replace hgy:=hgy.below b4;replace Bz:=bT Bz b4;clear b4;have HPM:=zh (lu_perm h4 zo);go_wp2_with fail
 with_reducible refine(order_q (LuAt.below h4).lu zo).mono ?_
 rintro e w5 ⟨ra,ca,rfl,h5,h5r,b5⟩;replace b5:=zq (a:=w4) b5;replace hcm:=hcm.below b5;replace hgx:=hgx.below b5;replace hgy:=hgy.below b5;replace h4:=h4.below b5;replace Bz:=bT Bz b5;clear b5;go_wp2_with fail
 with_reducible refine(perm_q (Sl.below h5) (zh HPM.out.1.2) zo true (zh HPM.out.1.1)).mono ?_
 rintro e w6 ⟨rfl,b6⟩;replace b6:=zq (a:=w5) b6;replace h5r:=h5r.below b6;replace hcm:=hcm.below b6;replace hgx:=hgx.below b6;replace hgy:=hgy.below b6;replace h4:=h4.below b6;replace Bz:=bT Bz b6;clear b6;go_wp2_with fail
 with_reducible refine(perm_q (Sl.below h5r) (zh HPM.out.2.2) zo true (zh HPM.out.2.1)).mono ?_
 rintro e w7 ⟨rfl,b7⟩;replace b7:=zq (a:=w6) b7;replace hcm:=hcm.below b7;replace hgx:=hgx.below b7;replace hgy:=hgy.below b7;replace h4:=h4.below b7;replace Bz:=bT Bz b7;clear b7;go_wp2_with fail
 with_reducible refine(ftranC_no (LuAt.below h4) (GV.below hgx) zd zd zo zo HNF.out (zt hT hB Bz)).mono ?_
 rintro e w8 ⟨rfl,b8⟩;replace b8:=zq (a:=w7) b8;replace hcm:=hcm.below b8;replace hgx:=hgx.below b8;replace hgy:=hgy.below b8;replace h4:=h4.below b8;replace Bz:=bT Bz b8;clear b8;go_wp2_with fail
 with_reducible refine(btranS (LuAt.below h4) HCS.out (GV.below hgy) zd zd zo hnl HNB.out (zt hT hB Bz)).mono ?_
 rintro e w9 ⟨A9,n9,c9,rfl,h9,l9,b9⟩;replace b9:=zq (a:=w8) b9;replace hcm:=hcm.below b9;replace hgx:=hgx.below b9;replace hgy:=hgy.below b9;replace h4:=h4.below b9;replace Bz:=bT Bz b9;clear b9;go_wp2_with fail
 with_reducible refine(rightS (NV.below h9) zd zo (lay_nrm _ _) (lay_at _ _) (zt hT hB Bz)).mono ?_
 rintro e w10 ⟨rfl,b10⟩;replace b10:=zq (a:=w9) b10;replace hcm:=hcm.below b10;replace hgx:=hgx.below b10;replace hgy:=hgy.below b10;replace h4:=h4.below b10;replace h9:=h9.below b10;replace Bz:=bT Bz b10;clear b10;go_wp2_with fail
 with_reducible refine(leftS (CM.below hcm) HCT.out (NV.below h9) (lay_nrm _ _) l9 hnl (zt hT hB Bz)).mono ?_
 rintro e w11 ⟨A11,n11,c11,rfl,h11,l11,b11⟩;replace b11:=zq (a:=w10) b11;replace hcm:=hcm.below b11;replace hgx:=hgx.below b11;replace hgy:=hgy.below b11;replace h4:=h4.below b11;replace Bz:=bT Bz b11;clear b11;go_wp2_with fail
 with_reducible refine(normW 56 14 (GV.below hgy) hny zd zd (zt hT hB Bz)).mono ?_
 rintro e w12 ⟨A12,n12,c12,rfl,h12,l12,b12⟩;replace b12:=zq (a:=w11) b12;replace hcm:=hcm.below b12;replace hgx:=hgx.below b12;replace hgy:=hgy.below b12;replace h4:=h4.below b12;replace h11:=h11.below b12;replace Bz:=bT Bz b12;clear b12;go_wp2_with fail
 with_reducible refine(sameVec_q (NV.below h11) (NV.below h12) zd zd zo zo true (zh (decide_eq_true HL2.out))).mono ?_
 rintro e w13 ⟨rfl,b13⟩;replace b13:=zq (a:=w12) b13;replace hcm:=hcm.below b13;replace hgx:=hgx.below b13;replace hgy:=hgy.below b13;replace h4:=h4.below b13;replace Bz:=bT Bz b13;clear b13;go_wp2_with fail
 with_reducible refine(timesW 56 5 14 56 14 56 1568 196 (CM.cw (CM.below hcm) HRI.out) (GV.below hgy) HTM.out hny wty zd zd zd zd zo zd zd zd (zt hT hB Bz)).mono ?_
 rintro e w14 ⟨A14,n14,c14,rfl,h14,l14,b14⟩;replace b14:=zq (a:=w13) b14;replace hcm:=hcm.below b14;replace hgx:=hgx.below b14;replace hgy:=hgy.below b14;replace h4:=h4.below b14;replace Bz:=bT Bz b14;clear b14;go_wp2_with fail
 with_reducible refine(ftranS (LuAt.below h4) HCS.out ((NV.below h14).gv (nrm_nrm _).rise) zd zd zo hnl (fit_times HIN.out _) (zt hT hB Bz)).mono ?_
 rintro e w15 ⟨A15,n15,c15,rfl,h15,l15,b15⟩;replace b15:=zq (a:=w14) b15;replace hcm:=hcm.below b15;replace hgx:=hgx.below b15;replace hgy:=hgy.below b15;replace h4:=h4.below b15;replace Bz:=bT Bz b15;clear b15;go_wp2_with fail
 with_reducible refine(leftC 56 5 14 141 14 (GV.below hgx) (CM.cw (CM.below hcm) HRI.out) hnx HLM.out hnl zd (CW.dotK (WT:=56) (N:=14) (CM.cw hcm HRI.out) wtx HLX.out zd) zd zd zd zd zd zd (zt hT hB Bz)).mono ?_
 rintro e w16 ⟨A16,n16,c16,rfl,h16,l16,b16⟩;replace b16:=zq (a:=w15) b16;replace hgy:=hgy.below b16;replace h4:=h4.below b16;replace h15:=h15.below b16;replace Bz:=bT Bz b16;clear b16;go_wp2_with fail
 with_reducible refine(btranS (LuAt.below h4) HCS.out ((NV.below h16).gv (nrm_nrm _).rise) zd zd zo hnl (fit_left HLN.out _) (zt hT hB Bz)).mono ?_
 rintro e w17 ⟨A17,n17,c17,rfl,h17,l17,b17⟩;replace b17:=zq (a:=w16) b17;replace hgy:=hgy.below b17;replace h15:=h15.below b17;replace Bz:=bT Bz b17;clear h17;clear b17;go_wp2_with fail
 with_reducible refine(normW 56 14 (GV.below hgy) hny zd zd (zt hT hB Bz)).mono ?_
 rintro e w18 ⟨A18,n18,c18,rfl,h18,l18,b18⟩;replace b18:=zq (a:=w17) b18;replace h15:=h15.below b18;replace Bz:=bT Bz b18;clear b18;go_wp2_with fail
 with_reducible refine(sameVec_q (NV.below h15) (NV.below h18) zd zd zo zo true (zh (decide_eq_true HL3.out))).mono ?_
 rintro e w19 ⟨rfl,b19⟩;replace b19:=zq (a:=w18) b19;replace Bz:=bT Bz b19;clear b19;go_wp2_with fail
 with_reducible refine(awake7_q (zt hT hB Bz)).mono ?_
 rintro e w20 ⟨rfl,b20⟩;replace b20:=zq (a:=w19) b20;replace Bz:=bT Bz b20;clear b20;go_wp2_with fail
 go_ret
 have hF:=bT (c:=w20) hB Bz;exact⟨rfl,bT hF⟩
theorem solves_ok00 {w:World} {LA X Y:Option Addr} {nl cl nx cx ny cy:Nat} {CL:List Vc} {LX LY:List Tm} (hl:Sl Vc.cs 1 w LA nl cl CL) (hli:Hid (∀v∈CL,VgIn w v)) (hll:nl≤9223372036854775807) (hx:Sl Tm.cs 5 w X nx cx LX) (xi:Hid (∀t∈LX,TmIn w t)) (hlx:nx≤9223372036854775807) (hy:Sl Tm.cs 5 w Y ny cy LY) (yi:Hid (∀t∈LY,TmIn w t)) (hly:ny≤9223372036854775807) (xc:X=none→cx=0) (yc:Y=none→cy=0) (S0:Hid (shortVcs 14 14 2 nl CL=true)) (S1:Hid (zAm 14 2 ⟨X,nx,cx,LX⟩=true)) (S2:Hid (zAm 14 2 ⟨Y,ny,cy,LY⟩=true)) (HR:Hid ((CL.all fun v=>rightB v.L (nl:Int))=true)) (HSM:Hid ((facUp (facT (CL.map fun v=>prs v.L) nl) nl).isSome=true)) (HNF:Hid (fitsB nl (nrm (prs LX))=false)) (HNB:Hid (fitsB nl (nrm (prs LY))=false)) (hT:Hid (Tab w)) :
  Calls Tryz.prog 5 #[.slice LA nl cl,.int .i64 (nl:Int),.slice X nx cx,.slice Y ny cy] w (Yes w):=by
 obtain⟨_,hnl,hC⟩:=cw_small (k:=14) (cnt:=14) (most:=2) hl hli.out S0.out;obtain⟨hcm,hrx⟩:=cm_right (k:=14) (cnt:=14) (most:=2) hl hli.out S0.out HR.out;have HRX:=zh hrx;have HC:=zh hC;have HLM:Hid (∀x∈(CL.map fun v=>prs v.L),x.length≤1000):=zh fun x hx=>Nat.le_trans (HC.out x hx).1 zd;have HRC:Hid (rightC (nl:Int) (CL.map fun v=>prs v.L)=true):=zh (rightC_iff.2 HRX.out);have HFM:Hid (facM (2+2) nl≤3600000012):=zh (Nat.le_trans (facM_mono 4 hnl) zd);clear hC hrx;obtain⟨hgx,hnx⟩:=gv_small (cnt:=14) (most:=2) hx xi.out xc S1.out;obtain⟨hgy,hny⟩:=gv_small (cnt:=14) (most:=2) hy yi.out yc S2.out;have wtx:wtot (prs LX)≤56:=Nat.le_trans (wtot_le (sz_small (cnt:=14) (most:=2) xi.out S1.out)) (by rw[hgx.len];omega);have wty:wtot (prs LY)≤56:=Nat.le_trans (wtot_le (sz_small (cnt:=14) (most:=2) yi.out S2.out)) (by rw[hgy.len];omega);have HLX:Hid ((prs LX).length≤14):=zh (by rw[hgx.len];exact hnx);have HLN:Hid ((CL.map fun v=>prs v.L).length=nl):=zh hcm.len;have HIN:Hid (∀c∈(CL.map fun v=>prs v.L),∀x∈c,0≤x.1∧x.1<(nl:Int)):=zh fun c hc=>(HRX.out c hc).2;have HRI:Hid (∀x∈(CL.map fun v=>prs v.L),Rise x):=zh fun x hx=>(HRX.out x hx).1.rise;have HTM:Hid (∀x∈(CL.map fun v=>prs v.L),x.length≤14∧wtot x≤56):=zh fun x hx=>HC.out x hx;have HSZ:=zh hcm.szs;have HCS:Hid (∀x∈(CL.map fun v=>prs v.L),Rise x∧∀y∈x,sz y.2+1≤4):=zh fun x hx=>⟨HRI.out x hx,HSZ.out x hx⟩;have HCT:Hid (∀x∈(CL.map fun v=>prs v.L),(Rise x∧∀y∈x,sz y.2+1≤4)∧x.length≤14):=zh fun x hx=>⟨HCS.out x hx,(HC.out x hx).1⟩;have g0:((nl:Int) !=(nl:Int))=false:=by simp
 have hB:=Below.refl w.heap.size w;have Bz:=zr w;go_enter Tryz.func5,Tryz.ntmps5
 go_wp2_with fail
 with_reducible refine(shortVecs_q (hl.below (bT hB (bT (b:=w) Bz))) (zh fun v hv=>vg_lens ((hli.out v hv).below (bT hB (bT (b:=w) Bz)))) hll 14 14 2 true S0).mono ?_
 rintro e w1 ⟨rfl,b1⟩;replace b1:=zq (a:=w) b1;replace hcm:=hcm.below b1;replace hgx:=hgx.below b1;replace hgy:=hgy.below b1;replace Bz:=bT Bz b1;clear b1;go_wp2_with fail
 with_reducible refine(zAh (hx.below (bT hB (bT (b:=w1) Bz))) (zh fun t ht=>tm_lens (xi.out t ht)) hlx 14 2 true S1).mono ?_
 rintro e w2 ⟨rfl,b2⟩;replace b2:=zq (a:=w1) b2;replace hcm:=hcm.below b2;replace hgx:=hgx.below b2;replace hgy:=hgy.below b2;replace Bz:=bT Bz b2;clear b2;go_wp2_with fail
 with_reducible refine(zAh (hy.below (bT hB (bT (b:=w2) Bz))) (zh fun t ht=>tm_lens (yi.out t ht)) hly 14 2 true S2).mono ?_
 rintro e w3 ⟨rfl,b3⟩;replace b3:=zq (a:=w2) b3;replace hcm:=hcm.below b3;replace hgx:=hgx.below b3;replace hgy:=hgy.below b3;replace Bz:=bT Bz b3;clear b3;go_wp2_with fail
 with_reducible refine(factorOk (C:=(CL.map fun v=>prs v.L)) (CM.below hcm) HLM.out zo HFM.out HRC.out HSM.out (nl:Int) rfl (zt hT hB Bz)).mono ?_
 rintro e w4 ⟨fb,rfl,h4,b4⟩;replace b4:=zq (a:=w3) b4;replace hcm:=hcm.below b4;replace hgx:=hgx.below b4;replace hgy:=hgy.below b4;replace Bz:=bT Bz b4;clear b4;have HPM:=zh (lu_perm h4 zo);go_wp2_with fail
 with_reducible refine(order_q (LuAt.below h4).lu zo).mono ?_
 rintro e w5 ⟨ra,ca,rfl,h5,h5r,b5⟩;replace b5:=zq (a:=w4) b5;replace hcm:=hcm.below b5;replace hgx:=hgx.below b5;replace hgy:=hgy.below b5;replace h4:=h4.below b5;replace Bz:=bT Bz b5;clear b5;go_wp2_with fail
 with_reducible refine(perm_q (Sl.below h5) (zh HPM.out.1.2) zo true (zh HPM.out.1.1)).mono ?_
 rintro e w6 ⟨rfl,b6⟩;replace b6:=zq (a:=w5) b6;replace h5r:=h5r.below b6;replace hcm:=hcm.below b6;replace hgx:=hgx.below b6;replace hgy:=hgy.below b6;replace h4:=h4.below b6;replace Bz:=bT Bz b6;clear b6;go_wp2_with fail
 with_reducible refine(perm_q (Sl.below h5r) (zh HPM.out.2.2) zo true (zh HPM.out.2.1)).mono ?_
 rintro e w7 ⟨rfl,b7⟩;replace b7:=zq (a:=w6) b7;replace hcm:=hcm.below b7;replace hgx:=hgx.below b7;replace hgy:=hgy.below b7;replace h4:=h4.below b7;replace Bz:=bT Bz b7;clear b7;go_wp2_with fail
 with_reducible refine(ftranC_no (LuAt.below h4) (GV.below hgx) zd zd zo zo HNF.out (zt hT hB Bz)).mono ?_
 rintro e w8 ⟨rfl,b8⟩;replace b8:=zq (a:=w7) b8;replace hcm:=hcm.below b8;replace hgx:=hgx.below b8;replace hgy:=hgy.below b8;replace h4:=h4.below b8;replace Bz:=bT Bz b8;clear b8;go_wp2_with fail
 with_reducible refine(btranC_no (LuAt.below h4) (GV.below hgy) zd zd zo zo HNB.out (zt hT hB Bz)).mono ?_
 rintro e w9 ⟨rfl,b9⟩;replace b9:=zq (a:=w8) b9;replace hcm:=hcm.below b9;replace hgx:=hgx.below b9;replace hgy:=hgy.below b9;replace h4:=h4.below b9;replace Bz:=bT Bz b9;clear b9;go_wp2_with fail
 with_reducible refine(timesW 56 5 14 56 14 56 1568 196 (CM.cw (CM.below hcm) HRI.out) (GV.below hgy) HTM.out hny wty zd zd zd zd zo zd zd zd (zt hT hB Bz)).mono ?_
 rintro e w10 ⟨A10,n10,c10,rfl,h10,l10,b10⟩;replace b10:=zq (a:=w9) b10;replace hcm:=hcm.below b10;replace hgx:=hgx.below b10;replace h4:=h4.below b10;replace Bz:=bT Bz b10;clear b10;go_wp2_with fail
 with_reducible refine(ftranS (LuAt.below h4) HCS.out ((NV.below h10).gv (nrm_nrm _).rise) zd zd zo hnl (fit_times HIN.out _) (zt hT hB Bz)).mono ?_
 rintro e w11 ⟨A11,n11,c11,rfl,h11,l11,b11⟩;replace b11:=zq (a:=w10) b11;replace hcm:=hcm.below b11;replace hgx:=hgx.below b11;replace h4:=h4.below b11;replace Bz:=bT Bz b11;clear h11;clear b11;go_wp2_with fail
 with_reducible refine(leftC 56 5 14 141 14 (GV.below hgx) (CM.cw (CM.below hcm) HRI.out) hnx HLM.out hnl zd (CW.dotK (WT:=56) (N:=14) (CM.cw hcm HRI.out) wtx HLX.out zd) zd zd zd zd zd zd (zt hT hB Bz)).mono ?_
 rintro e w12 ⟨A12,n12,c12,rfl,h12,l12,b12⟩;replace b12:=zq (a:=w11) b12;replace h4:=h4.below b12;replace Bz:=bT Bz b12;clear b12;go_wp2_with fail
 with_reducible refine(btranS (LuAt.below h4) HCS.out ((NV.below h12).gv (nrm_nrm _).rise) zd zd zo hnl (fit_left HLN.out _) (zt hT hB Bz)).mono ?_
 rintro e w13 ⟨A13,n13,c13,rfl,h13,l13,b13⟩;replace b13:=zq (a:=w12) b13;replace Bz:=bT Bz b13;clear h13;clear b13;go_wp2_with fail
 with_reducible refine(awake7_q (zt hT hB Bz)).mono ?_
 rintro e w14 ⟨rfl,b14⟩;replace b14:=zq (a:=w13) b14;replace Bz:=bT Bz b14;clear b14;go_wp2_with fail
 go_ret
 have hF:=bT (c:=w14) hB Bz;exact⟨rfl,bT hF⟩
theorem solves_q {w:World} {LA X Y:Option Addr} {nl cl nx cx ny cy:Nat} {CL:List Vc} {LX LY:List Tm} {z:Int} (hl:Sl Vc.cs 1 w LA nl cl CL) (hli:Hid (∀v∈CL,VgIn w v)) (hll:nl≤9223372036854775807) (hx:Sl Tm.cs 5 w X nx cx LX) (xi:Hid (∀t∈LX,TmIn w t)) (hlx:nx≤9223372036854775807) (hy:Sl Tm.cs 5 w Y ny cy LY) (yi:Hid (∀t∈LY,TmIn w t)) (hly:ny≤9223372036854775807) (xc:X=none→cx=0) (yc:Y=none→cy=0) (hT:Hid (Tab w)) :
  Calls Tryz.prog 5 #[.slice LA nl cl,.int .i64 z,.slice X nx cx,.slice Y ny cy] w (Yes w):=by
 cases s0:shortVcs 14 14 2 nl CL
 ·exact solves_0 hl hli hll hx xi hlx hy yi hly (zh s0) hT
 cases s1:zAm 14 2 ⟨X,nx,cx,LX⟩
 ·exact solves_1 hl hli hll hx xi hlx hy yi hly (zh s0) (zh s1) hT
 cases s2:zAm 14 2 ⟨Y,ny,cy,LY⟩
 ·exact solves_2 hl hli hll hx xi hlx hy yi hly (zh s0) (zh s1) (zh s2) hT
 by_cases i1:z<0
 ·exact solves_b1 hl hli hll hx xi hlx hy yi hly (zh s0) (zh s1) (zh s2) i1 hT
 by_cases i2:256<z
 ·exact solves_b2 hl hli hll hx xi hlx hy yi hly (zh s0) (zh s1) (zh s2) i1 i2 hT
 by_cases i3:(nl:Int)=z
 ·subst i3;cases r:(CL.all fun v=>rightB v.L (nl:Int))
  ·exact solves_b4 hl hli hll hx xi hlx hy yi hly (zh s0) (zh s1) (zh s2) (zh r) hT
  ·cases u:(facUp (facT (CL.map fun v=>prs v.L) nl) nl).isSome
   ·exact solves_b5 hl hli hll hx xi hlx hy yi hly (zh s0) (zh s1) (zh s2) (zh r) (zh (by rw[Option.isNone_iff_eq_none];exact Option.not_isSome_iff_eq_none.1 (by rw[u];simp))) hT
   ·cases f:fitsB nl (nrm (prs LX))<;>cases b:fitsB nl (nrm (prs LY))
    ·exact solves_ok00 hl hli hll hx xi hlx hy yi hly xc yc (zh s0) (zh s1) (zh s2) (zh r) (zh u) (zh f) (zh b) hT
    ·exact solves_ok01 hl hli hll hx xi hlx hy yi hly xc yc (zh s0) (zh s1) (zh s2) (zh r) (zh u) (zh f) (zh b) hT
    ·exact solves_ok10 hl hli hll hx xi hlx hy yi hly xc yc (zh s0) (zh s1) (zh s2) (zh r) (zh u) (zh f) (zh b) hT
    ·exact solves_ok11 hl hli hll hx xi hlx hy yi hly xc yc (zh s0) (zh s1) (zh s2) (zh r) (zh u) (zh f) (zh b) hT
 ·exact solves_b3 hl hli hll hx xi hlx hy yi hly (zh s0) (zh s1) (zh s2) i1 i2 i3 hT
theorem solves_any {w:World} {l x y:Value} {n:Int} (hl:CsIn w l) (_:-9223372036854775808≤n∧n≤9223372036854775807) (hx:TsIn w x) (hy:TsIn w y) (hT:Tab w) :
  Calls Tryz.prog 5 #[l,.int .i64 n,x,y] w (Yes w):=by
 obtain⟨LA,nl,cl,CL,rfl,l1,l2,l3⟩:=hl;obtain⟨X,nx,cx,LX,rfl,x1,x2,x3,x4⟩:=hx;obtain⟨Y,ny,cy,LY,rfl,y1,y2,y3,y4⟩:=hy;exact solves_q l1 (zh l2) l3 x1 (zh x2) x3 y1 (zh y2) y3 x4 y4 (zh hT)
namespace luSolves
open Go.ChangeShapes Go.WideShapes Go.ChangeAt Go.RowKit Tw
theorem contract (H:Type) (enc:TypeId×Value→H) (W:World) (base:Nat) (args:Array Value) (ds gs:List (DataW H)) (before:List MemPlace)
  (hval:∀(j:Nat) t v,Tryz.f5.params[j]?=some t→args[j]?=some v→Value.okWide Tryz.prog W .any base t v)
  (hW:DataW.Whole enc Tryz.prog Tryz.f5.params.toList Rows.luSolvesSpec.vars false W args.toList ds gs before) (hL:laidMetH Tryz.prog Rows.luSolvesRow.laid W) :
  Calls Tryz.prog 5 args W fun e W'=>∃v,e=.returned v∧Rows.luSolvesSpec.post enc Tryz.prog Tryz.f5 false true false false W args v W':=by
 have hW':=hW;obtain⟨p,q,hA0,hV,rfl,hfz,hnd⟩:=hW;have hA:DataW.TrodAll enc Tryz.prog W 0 (fun _=>true) true Tryz.f5.params.toList args.toList ds p:=hA0;rw[Tryz.params5] at hA hval;obtain⟨v0,vs0,d0,ds0,p0,q0,hargs,rfl,rfl,h0,r0⟩:=trodAll_cons hA;obtain⟨v1,vs1,d1,ds1,p1,q1,rfl,rfl,rfl,h1,r1⟩:=trodAll_cons r0;obtain⟨v2,vs2,d2,ds2,p2,q2,rfl,rfl,rfl,h2,r2⟩:=trodAll_cons r1;obtain⟨v3,vs3,d3,ds3,p3,q3,rfl,rfl,rfl,h3,r3⟩:=trodAll_cons r2;obtain⟨rfl,rfl,rfl⟩:=trodAll_nil r3;obtain rfl:args=#[v0,v1,v2,v3]:=by cases args;simp_all
 obtain⟨rfl,rfl⟩:=trodVars_none hV;have lt0:∀x∈p0,x.block<W.heap.size:=by obtain⟨m,hm⟩:=h0;exact DataW.trod_lt m _ _ _ hm
 obtain⟨A0,l0,c0,rfl⟩:=okWide_slice Tryz.underlying36 (hval 0 36 v0 rfl rfl);have n0:=cs_of h0 ⟨_,_,_,rfl⟩;obtain⟨a1,rfl,rfl,rfl,w1⟩:=open_int Tryz.underlying3 (hval 1 3 v1 rfl rfl) h1;have lt2:∀x∈p2,x.block<W.heap.size:=by obtain⟨m,hm⟩:=h2;exact DataW.trod_lt m _ _ _ hm
 obtain⟨A2,l2,c2,rfl⟩:=okWide_slice Tryz.underlying34 (hval 2 34 v2 rfl rfl);have n2:=ts_of h2 ⟨_,_,_,rfl⟩;have lt3:∀x∈p3,x.block<W.heap.size:=by obtain⟨m,hm⟩:=h3;exact DataW.trod_lt m _ _ _ hm
 obtain⟨A3,l3,c3,rfl⟩:=okWide_slice Tryz.underlying34 (hval 3 34 v3 rfl rfl);have n3:=ts_of h3 ⟨_,_,_,rfl⟩;refine(solves_any n0 (bounds_i64 w1) n2 n3 (tab_of hL)).mono fun e W' ⟨he,bel⟩=>?_;subst he;exact⟨_,rfl,_,_,_,[],_,[],hW',trodAll_mk1 (shut_bool Tryz.underlying4 _),(trodAll_cons_mk (Below.trod laidOut (by kernel_rfl) (of_decide_eq_true (by kernel_rfl)) h0 bel lt0) (trodAll_cons_mk (shut_int Tryz.underlying3 w1) (trodAll_cons_mk (Below.trod laidOut (by kernel_rfl) (of_decide_eq_true (by kernel_rfl)) h2 bel lt2) (trodAll_cons_mk (Below.trod laidOut (by kernel_rfl) (of_decide_eq_true (by kernel_rfl)) h3 bel lt3) trodAll_mk0)))),rfl,bel.frame _,fun h=>by cases h⟩
theorem laid_met (os:Os):laidMet Tryz.prog Rows.luSolvesRow.laid ((laidWorld os).forCall (fun _ _=>0) ⟨#[],#[.slice none 0 0,.int .i64 0,.slice none 0 0,.slice none 0 0],[]⟩).memory :=
 laidMet_of_run' 8 (by kernel_rfl) (by kernel_rfl)
theorem reads (os:Os) {H:Type} (enc:TypeId×Value→H):∃places,DataW.whole enc Tryz.prog ((laidWorld os).forCall (fun _ _=>0) ⟨#[],#[.slice none 0 0,.int .i64 0,.slice none 0 0,.slice none 0 0],[]⟩).memory Tryz.f5.params.toList Rows.luSolvesSpec.vars false (#[.slice none 0 0,.int .i64 0,.slice none 0 0,.slice none 0 0]:Array Value).toList 8=some ([.nil,.lit (.int .i64 0),.nil,.nil],[],places) :=
 ⟨[],by kernel_rfl⟩
theorem lifted (os:Os) (started:os.Started) (H:Type) (enc:TypeId×Value→H) (F:Stop.Interp) :
  ReturnsInHanded {} Tryz.checked os 5 .any ((OpenSpec.ofChange Rows.luSolvesSpec).preRow enc Tryz.prog Tryz.f5 Rows.luSolvesRow.domain false Rows.luSolvesRow.laid) (((OpenSpec.ofChange Rows.luSolvesSpec).at F).post enc Tryz.prog Tryz.f5 false true false false):=by
 obtain⟨places,hx⟩:=reads os enc;refine returnsInHanded_of_row (C:=Tryz.checked) (s:=OpenSpec.ofChange Rows.luSolvesSpec) own started (by kernel_rfl) Tryz.func5
  (witness_row_at (enc:=enc) (C:=Tryz.checked) false (laidWorld os) #[.slice none 0 0,.int .i64 0,.slice none 0 0,.slice none 0 0] rfl (by kernel_rfl) (by kernel_rfl) (by kernel_rfl)
   (OpenSpec.preRow_of_cond 8 hx (by kernel_rfl) (fun k hk=>by cases hk) (by kernel_rfl) (laid_met os))) ?_
 intro W base args ds gs before hval hW _ _ _ hL _ _;exact contract H enc W base args ds gs before hval hW hL
theorem said:Rows.LuSolvesSaid :=
 OpenClaim.holds_of_cond 5 Tryz.f5 rfl rfl rfl rfl rfl rfl rfl ⟨rfl,rfl,rfl,rfl,rfl⟩ rfl rfl rfl rfl rfl (by kernel_rfl) Tryz.func5 (by kernel_rfl)
  (of_decide_eq_true (by kernel_rfl)) (by unfold Func.isWrapper;first | (rw[if_pos (by decide +kernel)];kernel_rfl) | (rw[if_neg (by decide +kernel)];exact⟨rfl,rfl⟩))
  (fun os started H enc _ F=>by rw[OpenClaim.pre_eq_preRow];exact lifted os started H enc F)
theorem plain (f : FuncId) (fn : Func) (hf : Tryz.pinned.checked.prog.funcNamed "tripwire/tripwirelaw07.LuSolves" = some f) (hfn : Tryz.pinned.checked.prog.funcs[f]? = some fn) :
  false=Tryz.pinned.checked.prog.looks []∧∀(j:Nat) t,fn.params[j]?=some t→Tryz.pinned.checked.prog.wantsStandIn t=false:=by
 obtain rfl : f = 5 := Option.some.inj ((show Tryz.prog.funcNamed "tripwire/tripwirelaw07.LuSolves" = some 5 by kernel_rfl).symm.trans hf) |>.symm;obtain rfl:fn=Tryz.f5:=(Option.some.inj (Tryz.func5.symm.trans hfn)).symm;refine⟨by kernel_rfl,fun j t ht=>?_⟩;rw[Tryz.params5] at ht;have hm:=Array.mem_of_getElem? ht;simp only[List.mem_toArray,List.mem_cons,List.not_mem_nil,or_false] at hm
 rcases hm with rfl | rfl | rfl | rfl
 ·exact(show Tryz.prog.wantsStandIn 36=false by kernel_rfl)
 ·exact(show Tryz.prog.wantsStandIn 3=false by kernel_rfl)
 ·exact(show Tryz.prog.wantsStandIn 34=false by kernel_rfl)
 ·exact(show Tryz.prog.wantsStandIn 34=false by kernel_rfl)
theorem card:Rows.LuSolvesCardSaid :=
 Claim7.holds_tied_plain_at .later [] _ _ _ _ said (fun _ h=>by cases h) (by kernel_rfl) (fun _ h=>by cases h) luSolves_row_tie rfl ⟨rfl,rfl⟩ (by kernel_rfl) rfl plain (by kernel_rfl)
end luSolves
end Go.Proofs.YtomlghpnbeaaiaaGreatDoor
