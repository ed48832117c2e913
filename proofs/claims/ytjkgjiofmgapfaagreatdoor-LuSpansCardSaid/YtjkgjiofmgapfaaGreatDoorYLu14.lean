/-
  LuSpans: a column that its fellows make leaves no LU; the law answers true for any columns, place and vector that came in. No condition. Written by wip/gen/lu14.py.
-/
import Derived.Test.YtjkgjiofmgapfaaGreatDoorYLu12
import Derived.Test.YtjkgjiofmgapfaaGreatDoorYCp
import Derived.Test.YtjkgjiofmgapfaaGreatDoorYMxC
import Derived.Test.YtjkgjiofmgapfaaGreatDoorYRdT
set_option maxHeartbeats 32000000
set_option maxRecDepth 100000
namespace Go.Proofs.YtjkgjiofmgapfaaGreatDoor
open Go.RowKit Tw
theorem pick_n {w:World} (x:Int) (n:Nat) (z:Int) (hz:(n:Int)=z) (hx:I64 x) (hn:1≤n) (hn2:n≤1000000000):Calls Tryz.prog 49 #[.int .i64 x,.int .i64 z] w fun e w'=>∃p:Nat,e=.returned (.int .i64 (p:Int))∧p<n∧Below w.heap.size w w':=by
 subst hz;refine(pick_q x n w hx hn hn2).mono fun e w' h=>?_;obtain⟨⟨m,h1,h2⟩,rfl⟩:=h;exact⟨m,h2,h1,Below.refl _ _⟩
theorem VgIn.below {w w':World} {v:Vc} (h:VgIn w v) (hb:Below w.heap.size w w':=by go_grown):Sl Tm.cs 5 w' v.A v.n v.c v.L∧v.n≤9223372036854775807∧∀x∈v.L,x.x.l≤9223372036854775807∧x.x.l'≤9223372036854775807 :=
 ⟨h.2.1.below hb,by have:=h.1;unfold maxLen at this;omega,fun x hx=>tm_lens (h.2.2.1 x hx)⟩
theorem VgIn.sl {w:World} {v:Vc} (h:VgIn w v):Sl Tm.cs 5 w v.A v.n v.c v.L:=h.2.1
theorem vg_lens {w:World} {v:Vc} (h:Sl Tm.cs 5 w v.A v.n v.c v.L∧v.n≤9223372036854775807∧∀x∈v.L,x.x.l≤9223372036854775807∧x.x.l'≤9223372036854775807):Sl Tm.cs 5 w v.A v.n v.c v.L∧v.n≤9223372036854775807∧∀x∈v.L,x.x.l≤9223372036854775807∧x.x.l'≤9223372036854775807:=h
theorem cw_small {w:World} {A:Option Addr} {n c k cnt most:Nat} {CL:List Vc} (h:Sl Vc.cs 1 w A n c CL) (hi:∀v∈CL,VgIn w v) (hs:shortVcs (k:Int) (cnt:Int) (most:Int) n CL=true):CW w A n c (CL.map fun v=>prs v.L) ((most+2)*cnt)∧n≤k∧∀x∈CL.map (fun v=>prs v.L),x.length≤cnt∧wtot x≤cnt*(most+2):=by
 unfold shortVcs at hs
 simp only[Bool.and_eq_true,decide_eq_true_eq,List.all_eq_true] at hs
 refine⟨⟨CL,h,fun v hv=>(gv_small (hi v hv).2.1 (hi v hv).2.2.1 (hi v hv).2.2.2 (hs.2 v hv)).1,rfl⟩,zo,fun x hx=>?_⟩;obtain⟨v,hv,rfl⟩:=List.mem_map.1 hx;have h1:=gv_small (hi v hv).2.1 (hi v hv).2.2.1 (hi v hv).2.2.2 (hs.2 v hv);have h2:=h1.1.len;refine⟨zo,Nat.le_trans (wtot_le (sz_small (hi v hv).2.2.1 (hs.2 v hv))) (Nat.mul_le_mul_right _ zo)⟩
theorem cm_right {w:World} {A:Option Addr} {n c k cnt most:Nat} {CL:List Vc} {m:Int} (h:Sl Vc.cs 1 w A n c CL) (hi:∀v∈CL,VgIn w v) (hs:shortVcs (k:Int) (cnt:Int) (most:Int) n CL=true) (hr:(CL.all fun v=>rightB v.L m)=true):CM w A n c (CL.map fun v=>prs v.L) (most+2)∧∀x∈CL.map (fun v=>prs v.L),Nrm x∧∀y∈x,0≤y.1∧y.1<m:=by
 unfold shortVcs at hs
 simp only[Bool.and_eq_true,decide_eq_true_eq,List.all_eq_true] at hs
 refine⟨⟨CL,h,fun v hv=>⟨(hi v hv).2.1,fun t ht=>?_,(hi v hv).2.2.2⟩,rfl⟩,fun x hx=>?_⟩
 ·have h1:=(rightB_nrm (List.all_eq_true.1 hr v hv)).2 t ht;have h2:=((hi v hv).2.2.1 t ht).1.2.2 (dgT t) (by unfold dgT;omega) (by unfold dgT;omega);exact⟨h2.rn.1 h1.2.2,h1.2.2,sz_small (hi v hv).2.2.1 (hs.2 v hv) (t.at_,t.x.q) (List.mem_map_of_mem (f:=fun t:Tm=>(t.at_,t.x.q)) ht)⟩
 ·obtain⟨v,hv,rfl⟩:=List.mem_map.1 hx;have h1:=rightB_nrm (List.all_eq_true.1 hr v hv);refine⟨h1.1,fun y hy=>?_⟩;obtain⟨t,ht,rfl⟩:=prs_mem hy;exact⟨(h1.2 t ht).1,(h1.2 t ht).2.1⟩
theorem right_frk {w:World} {n k cnt most:Nat} {CL:List Vc} (hi:∀v∈CL,VgIn w v) (hs:shortVcs (k:Int) (cnt:Int) (most:Int) n CL=true):∀v∈CL,∀t∈v.L,FrOk w most t.x:=fun v hv t ht=>by
 unfold shortVcs at hs
 simp only[Bool.and_eq_true,decide_eq_true_eq,List.all_eq_true] at hs
 have h1:=hs.2 v hv;unfold shortVc at h1
 simp only[Bool.and_eq_true,decide_eq_true_eq,List.all_eq_true] at h1
 have h2:=h1.2 t ht;unfold shortFr at h2
 simp only[Bool.and_eq_true,decide_eq_true_eq] at h2
 exact((hi v hv).2.2.1 t ht).1.2.2 most zo zo
theorem right_nk {n k cnt most:Nat} {CL:List Vc} (hs:shortVcs (k:Int) (cnt:Int) (most:Int) n CL=true):∀v∈CL,v.n≤cnt:=fun v hv=>by
 unfold shortVcs at hs
 simp only[Bool.and_eq_true,decide_eq_true_eq,List.all_eq_true] at hs
 have h1:=hs.2 v hv;unfold shortVc at h1
 simp only[Bool.and_eq_true,decide_eq_true_eq,List.all_eq_true] at h1
 omega
theorem wtot_drop (P:List (Int×Rat)) (f:Int×Rat→Bool):wtot (P.filter f)≤wtot P:=by
 induction P with
 | nil=>exact Nat.le_refl _
 | cons x P ih =>
  rw[List.filter_cons];show _≤sz x.2+1+wtot P
  split
  ·show sz x.2+1+wtot (P.filter f)≤_;omega
  ·omega
theorem wtot_put0 (P:List (Int×Rat)) (a:Int) {k:Nat} (h:wtot P≤k):wtot (nrm (putF P a 0))≤k+2:=by
 have h1:=wtot_nrm (putF P a 0);unfold putF at h1 ⊢
 rw[wtot_append] at h1;have h2:=wtot_drop P (fun x=>decide (x.1≠a));have h3:wtot [(a,(0:Rat))]=sz 0+1+0:=rfl;have h4:=sz_zero;omega
theorem put_len (P:List (Int×Rat)) (a:Int) (q:Rat):(nrm (putF P a q)).length≤P.length+1:=Nat.le_trans (nrm_len _) (by
 unfold putF
 rw[List.length_append];have:=List.length_filter_le (fun x:Int×Rat=>decide (x.1≠a)) P;simp only[List.length_cons,List.length_nil]
 omega)
theorem spans_0 {w:World} {LA X:Option Addr} {nl cl nx cx:Nat} {CL:List Vc} {LX:List Tm} {n:Int} (hl:Sl Vc.cs 1 w LA nl cl CL) (hli:Hid (∀v∈CL,VgIn w v)) (hll:nl≤9223372036854775807) (_hx:Sl Tm.cs 5 w X nx cx LX) (_xi:Hid (∀t∈LX,TmIn w t)) (_hlx:nx≤9223372036854775807) (S0:Hid (shortVcs 10 10 2 nl CL=false)) (hT:Hid (Tab w)) :
  Calls Tryz.prog 9 #[.slice LA nl cl,.int .i64 n,.slice X nx cx] w (Yes w):=by
 have hB:=Below.refl w.heap.size w;have Bz:=zr w;go_enter Tryz.func9,Tryz.ntmps9
 go_wp2_with fail
 with_reducible refine(shortVecs_q (hl.below (bT hB (bT (b:=w) Bz))) (zh fun v hv=>vg_lens ((hli.out v hv).below (bT hB (bT (b:=w) Bz)))) hll 10 10 2 false S0).mono ?_
 rintro e w1 ⟨rfl,b1⟩;replace b1:=zq (a:=w) b1;replace Bz:=bT Bz b1;clear b1;go_wp2_with fail
 with_reducible refine(awake7_q (zt hT hB Bz)).mono ?_
 rintro e w2 ⟨rfl,b2⟩;replace b2:=zq (a:=w1) b2;replace Bz:=bT Bz b2;clear b2;go_wp2_with fail
 go_ret
 have hF:=bT (c:=w2) hB Bz;exact⟨rfl,bT hF⟩
theorem spans_1 {w:World} {LA X:Option Addr} {nl cl nx cx:Nat} {CL:List Vc} {LX:List Tm} {n:Int} (hl:Sl Vc.cs 1 w LA nl cl CL) (hli:Hid (∀v∈CL,VgIn w v)) (hll:nl≤9223372036854775807) (hx:Sl Tm.cs 5 w X nx cx LX) (xi:Hid (∀t∈LX,TmIn w t)) (hlx:nx≤9223372036854775807) (S0:Hid (shortVcs 10 10 2 nl CL=true)) (S1:Hid (shortVc 10 2 ⟨X,nx,cx,LX⟩=false)) (hT:Hid (Tab w)) :
  Calls Tryz.prog 9 #[.slice LA nl cl,.int .i64 n,.slice X nx cx] w (Yes w):=by
 have hB:=Below.refl w.heap.size w;have Bz:=zr w;go_enter Tryz.func9,Tryz.ntmps9
 go_wp2_with fail
 with_reducible refine(shortVecs_q (hl.below (bT hB (bT (b:=w) Bz))) (zh fun v hv=>vg_lens ((hli.out v hv).below (bT hB (bT (b:=w) Bz)))) hll 10 10 2 true S0).mono ?_
 rintro e w1 ⟨rfl,b1⟩;replace b1:=zq (a:=w) b1;replace Bz:=bT Bz b1;clear b1;go_wp2_with fail
 with_reducible refine(shortVec_q (hx.below (bT hB (bT (b:=w1) Bz))) (zh fun t ht=>tm_lens (xi.out t ht)) hlx 10 2 false S1).mono ?_
 rintro e w2 ⟨rfl,b2⟩;replace b2:=zq (a:=w1) b2;replace Bz:=bT Bz b2;clear b2;go_wp2_with fail
 with_reducible refine(awake7_q (zt hT hB Bz)).mono ?_
 rintro e w3 ⟨rfl,b3⟩;replace b3:=zq (a:=w2) b3;replace Bz:=bT Bz b3;clear b3;go_wp2_with fail
 go_ret
 have hF:=bT (c:=w3) hB Bz;exact⟨rfl,bT hF⟩
theorem spans_2 {w:World} {LA X:Option Addr} {nl cl nx cx:Nat} {CL:List Vc} {LX:List Tm} {n:Int} (hl:Sl Vc.cs 1 w LA nl cl CL) (hli:Hid (∀v∈CL,VgIn w v)) (hll:nl≤9223372036854775807) (hx:Sl Tm.cs 5 w X nx cx LX) (xi:Hid (∀t∈LX,TmIn w t)) (hlx:nx≤9223372036854775807) (S0:Hid (shortVcs 10 10 2 nl CL=true)) (S1:Hid (shortVc 10 2 ⟨X,nx,cx,LX⟩=true)) (g0:((nl:Int)==0)=true) (hT:Hid (Tab w)) :
  Calls Tryz.prog 9 #[.slice LA nl cl,.int .i64 n,.slice X nx cx] w (Yes w):=by
 have hB:=Below.refl w.heap.size w;have Bz:=zr w;go_enter Tryz.func9,Tryz.ntmps9
 go_wp2_with fail
 with_reducible refine(shortVecs_q (hl.below (bT hB (bT (b:=w) Bz))) (zh fun v hv=>vg_lens ((hli.out v hv).below (bT hB (bT (b:=w) Bz)))) hll 10 10 2 true S0).mono ?_
 rintro e w1 ⟨rfl,b1⟩;replace b1:=zq (a:=w) b1;replace Bz:=bT Bz b1;clear b1;go_wp2_with fail
 with_reducible refine(shortVec_q (hx.below (bT hB (bT (b:=w1) Bz))) (zh fun t ht=>tm_lens (xi.out t ht)) hlx 10 2 true S1).mono ?_
 rintro e w2 ⟨rfl,b2⟩;replace b2:=zq (a:=w1) b2;replace Bz:=bT Bz b2;clear b2;go_wp2_with fail
 with_reducible refine(awake7_q (zt hT hB Bz)).mono ?_
 rintro e w3 ⟨rfl,b3⟩;replace b3:=zq (a:=w2) b3;replace Bz:=bT Bz b3;clear b3;go_wp2_with fail
 go_ret
 have hF:=bT (c:=w3) hB Bz;exact⟨rfl,bT hF⟩
theorem spans_3 {w:World} {LA X:Option Addr} {nl cl nx cx:Nat} {CL:List Vc} {LX:List Tm} {n:Int} (hl:Sl Vc.cs 1 w LA nl cl CL) (hli:Hid (∀v∈CL,VgIn w v)) (hll:nl≤9223372036854775807) (hx:Sl Tm.cs 5 w X nx cx LX) (xi:Hid (∀t∈LX,TmIn w t)) (hlx:nx≤9223372036854775807) (S0:Hid (shortVcs 10 10 2 nl CL=true)) (S1:Hid (shortVc 10 2 ⟨X,nx,cx,LX⟩=true)) (g0:((nl:Int)==0)=false) (HR:Hid ((CL.all fun v=>rightB v.L (nl:Int))=false)) (hT:Hid (Tab w)) :
  Calls Tryz.prog 9 #[.slice LA nl cl,.int .i64 n,.slice X nx cx] w (Yes w):=by
 have hnl:=(cw_small (k:=10) (cnt:=10) (most:=2) hl hli.out S0.out).2.1;have hB:=Below.refl w.heap.size w;have Bz:=zr w;go_enter Tryz.func9,Tryz.ntmps9
 go_wp2_with fail
 with_reducible refine(shortVecs_q (hl.below (bT hB (bT (b:=w) Bz))) (zh fun v hv=>vg_lens ((hli.out v hv).below (bT hB (bT (b:=w) Bz)))) hll 10 10 2 true S0).mono ?_
 rintro e w1 ⟨rfl,b1⟩;replace b1:=zq (a:=w) b1;replace Bz:=bT Bz b1;clear b1;go_wp2_with fail
 with_reducible refine(shortVec_q (hx.below (bT hB (bT (b:=w1) Bz))) (zh fun t ht=>tm_lens (xi.out t ht)) hlx 10 2 true S1).mono ?_
 rintro e w2 ⟨rfl,b2⟩;replace b2:=zq (a:=w1) b2;replace Bz:=bT Bz b2;clear b2;go_wp2_with fail
 with_reducible refine(mright_q (m:=2) (hl.below (bT hB (bT (b:=w2) Bz))) (zh fun v hv=>⟨(VgIn.sl (hli.out v hv)).below (bT hB (bT (b:=w2) Bz)),fun t ht=>(right_frk (k:=10) (cnt:=10) (most:=2) hli.out S0.out v hv t ht).below (bT hB (bT (b:=w2) Bz)),Nat.le_trans (right_nk (k:=10) (cnt:=10) (most:=2) S0.out v hv) zd⟩) zd zo zo false HR (zt hT hB Bz)).mono ?_
 rintro e w3 ⟨rfl,b3⟩;replace b3:=zq (a:=w2) b3;replace Bz:=bT Bz b3;clear b3;go_wp2_with fail
 with_reducible refine(awake7_q (zt hT hB Bz)).mono ?_
 rintro e w4 ⟨rfl,b4⟩;replace b4:=zq (a:=w3) b4;replace Bz:=bT Bz b4;clear b4;go_wp2_with fail
 go_ret
 have hF:=bT (c:=w4) hB Bz;exact⟨rfl,bT hF⟩
theorem spans_ok {w:World} {LA X:Option Addr} {nl cl nx cx:Nat} {CL:List Vc} {LX:List Tm} {n:Int} (hl:Sl Vc.cs 1 w LA nl cl CL) (hli:Hid (∀v∈CL,VgIn w v)) (hll:nl≤9223372036854775807) (hx:Sl Tm.cs 5 w X nx cx LX) (xi:Hid (∀t∈LX,TmIn w t)) (hlx:nx≤9223372036854775807) (hni:I64 n) (xc:X=none→cx=0) (S0:Hid (shortVcs 10 10 2 nl CL=true)) (S1:Hid (shortVc 10 2 ⟨X,nx,cx,LX⟩=true)) (g0:((nl:Int)==0)=false) (HR:Hid ((CL.all fun v=>rightB v.L (nl:Int))=true)) (hT:Hid (Tab w)) :
  Calls Tryz.prog 9 #[.slice LA nl cl,.int .i64 n,.slice X nx cx] w (Yes w):=by
 obtain⟨hcw,hnl,hC⟩:=cw_small (k:=10) (cnt:=10) (most:=2) hl hli.out S0.out;obtain⟨hcm,hrx⟩:=cm_right (k:=10) (cnt:=10) (most:=2) hl hli.out S0.out HR.out;obtain⟨hgx,hnx⟩:=gv_small (cnt:=10) (most:=2) hx xi.out xc S1.out;have wtx:wtot (prs LX)≤40:=Nat.le_trans (wtot_le (sz_small (cnt:=10) (most:=2) xi.out S1.out)) (by rw[hgx.len];omega);have hlen:=hcm.len;have h0:(nl:Int)≠0:=fun e=>by rw[e] at g0;cases g0
 have hl1:(prs LX).length≤10:=by rw[hgx.len];exact hnx
 have HRX:=zh hrx;have HC:=zh hC;have HLM:Hid (∀x∈(CL.map fun v=>prs v.L),x.length≤1000000):=zh fun x hx=>Nat.le_trans (HC.out x hx).1 zd;have HRI:Hid (∀x∈(CL.map fun v=>prs v.L),Rise x):=zh fun x hx=>(HRX.out x hx).1.rise;have HTM:Hid (∀x∈(CL.map fun v=>prs v.L),x.length≤10∧wtot x≤40):=zh fun x hx=>HC.out x hx;have HALL:∀p:Nat,p<nl→Hid (rightC (nl:Int) ((CL.map fun v=>prs v.L).set p (nrm (timesP (CL.map fun v=>prs v.L) (nrm (nrm (putF (prs LX) (p:Int) 0))))))=true∧(facUp (facT ((CL.map fun v=>prs v.L).set p (nrm (timesP (CL.map fun v=>prs v.L) (nrm (nrm (putF (prs LX) (p:Int) 0)))))) nl) nl).isNone=true∧∀x∈(CL.map fun v=>prs v.L).set p (nrm (timesP (CL.map fun v=>prs v.L) (nrm (nrm (putF (prs LX) (p:Int) 0))))),x.length≤1000):=fun p hp=>zh (span_all (k:=10) (N:=11) hlen hp HRX.out (fun x hx=>(HC.out x hx).1) (sp11 _ _ _) (Nat.le_trans (put_len _ _ _) zo) zd zd);clear hcw hC hrx hlen hl1;have hB:=Below.refl w.heap.size w;have Bz:=zr w;go_enter Tryz.func9,Tryz.ntmps9
 go_wp2_with fail
 with_reducible refine(shortVecs_q (hl.below (bT hB (bT (b:=w) Bz))) (zh fun v hv=>vg_lens ((hli.out v hv).below (bT hB (bT (b:=w) Bz)))) hll 10 10 2 true S0).mono ?_
 rintro e w1 ⟨rfl,b1⟩;replace b1:=zq (a:=w) b1;replace hcm:=hcm.below b1;replace hgx:=hgx.below b1;replace Bz:=bT Bz b1;clear b1;go_wp2_with fail
 with_reducible refine(shortVec_q (hx.below (bT hB (bT (b:=w1) Bz))) (zh fun t ht=>tm_lens (xi.out t ht)) hlx 10 2 true S1).mono ?_
 rintro e w2 ⟨rfl,b2⟩;replace b2:=zq (a:=w1) b2;replace hcm:=hcm.below b2;replace hgx:=hgx.below b2;replace Bz:=bT Bz b2;clear b2;go_wp2_with fail
 with_reducible refine(mright_q (m:=2) (hl.below (bT hB (bT (b:=w2) Bz))) (zh fun v hv=>⟨(VgIn.sl (hli.out v hv)).below (bT hB (bT (b:=w2) Bz)),fun t ht=>(right_frk (k:=10) (cnt:=10) (most:=2) hli.out S0.out v hv t ht).below (bT hB (bT (b:=w2) Bz)),Nat.le_trans (right_nk (k:=10) (cnt:=10) (most:=2) S0.out v hv) zd⟩) zd zo zo true HR (zt hT hB Bz)).mono ?_
 rintro e w3 ⟨rfl,b3⟩;replace b3:=zq (a:=w2) b3;replace hcm:=hcm.below b3;replace hgx:=hgx.below b3;replace Bz:=bT Bz b3;clear b3;go_wp2_with fail
 with_reducible refine(pick_n n nl (nl:Int) rfl hni zo zo).mono ?_
 rintro e w4 ⟨p,rfl,hp,b4⟩;replace b4:=zq (a:=w3) b4;replace hcm:=hcm.below b4;replace hgx:=hgx.below b4;replace Bz:=bT Bz b4;clear b4;obtain⟨ha1,ha2,ha3⟩:=(HALL p hp).out;have HSR:=zh ha1;have HSS:=zh ha2;have HSL:=zh ha3;clear ha1 ha2 ha3 HALL;go_wp2_with fail
 have HGB:Hid (w.heap.size≤w4.heap.size):=zh (Nat.le_trans hB.size Bz.size);with_reducible refine(copyVecsC (CM.below hcm) HLM.out zd zo zo).mono ?_
 rintro e w5 ⟨g,hc,V,rfl,h5,hv5,he5,b5⟩;replace b5:=zq (a:=w4) b5;replace hgx:=hgx.below b5;replace Bz:=bT Bz b5;clear b5;obtain⟨y0,hy0⟩:∃y,V[p]?=some y:=⟨_,List.getElem?_eq_getElem (by have h1:=h5.eltn elt_vcs zo;omega)⟩;have HV0:=zh hy0;have HVE:=zh he5;clear he5 hy0;go_wp2_with fail
 with_reducible refine(putW 1 40 10 43 (GV.below hgx) (p:Int) ((RN.zero _).r' sz_zero) hnx zd zd zd (zt hT hB Bz)).mono ?_
 rintro e w6 ⟨A6,n6,c6,rfl,h6,l6,b6⟩;replace b6:=zq (a:=w5) b6;replace hv5:=hv5.below b6;replace h5:=h5.below b6;replace Bz:=bT Bz b6;clear b6;go_wp2_with fail
 have hgl:=(h5.blk).1;have HCV:=zh HVE.out;with_reducible refine(timesO (C:=(CL.map fun v=>prs v.L)) 44 5 10 40 11 42 860 (CM.cw (by rw[←HVE.out];exact CVs.cm (CVs.below hv5) (OwnR.below h5)) HRI.out) ((NV.below h6).gv (nrm_nrm _).rise) HTM.out l6 (wtot_put0 _ _ wtx) zd zd zd zd zo zd zd (zt hT hB Bz)).mono ?_
 rintro e w7 ⟨A7,n7,c7,T,rfl,ht7,hn7,hq7,b7⟩;replace b7:=zq (a:=w6) b7;replace hv5:=hv5.below b7;replace h5:=h5.below b7;replace Bz:=bT Bz b7;clear b7;have HTP:=zh hq7;clear hq7;have pE0:=vc_cell h5 HV0.out;have fE0:=h5.frozen p;have y54:=h5.blk.1;go_upto_region 7 with(fail)
 have hcn:=own_cnb ht7 hn7;obtain⟨V1,hV,ho2,hv2,hg2⟩:=CVs.put (hv5.mono (by decide:4≤860)) h5 HV0.out (X:=⟨A7,n7,c7,T⟩) hcn.1 (fun a ha=>⟨(hcn.2 a ha).1,by have h1:=(hcn.2 a ha).2;omega⟩);rw[←hV];clear hV hcn;have hcm2:=CVs.cm hv2 ho2;rw[List.map_set,HVE.out] at hcm2;have hcm2:CM V1 (some ⟨g,0,none⟩) nl hc ((CL.map fun v=>prs v.L).set p (nrm (timesP (CL.map fun v=>prs v.L) (nrm (nrm (putF (prs LX) (p:Int) 0)))))) 860:=by rw[←HTP.out];exact hcm2
 replace hB:=(bT hB Bz).trans (hg2.below (zi (zw hB Bz)) (fun g' hg'=>by have h1:=h5.base g' hg';have:=HGB.out;omega));clear ho2 hv2 hg2 Bz hgl;have Bz:=zr V1;clear pE0 fE0 y54;go_wp2_with fail
 with_reducible refine(factorSing (CM.below hcm2) HSL.out zo (Nat.le_trans (facM_mono 860 hnl) zd) HSR.out HSS.out (nl:Int) rfl (zt hT hB Bz)).mono ?_
 rintro e w8 ⟨rfl,b8⟩;replace b8:=zq (a:=V1) b8;replace Bz:=bT Bz b8;clear b8;go_wp2_with fail
 with_reducible refine(awake7_q (zt hT hB Bz)).mono ?_
 rintro e w9 ⟨rfl,b9⟩;replace b9:=zq (a:=w8) b9;replace Bz:=bT Bz b9;clear b9;go_wp2_with fail
 go_ret
 have hF:=bT (c:=w9) hB Bz;exact⟨rfl,bT hF⟩
theorem spans_q {w:World} {LA X:Option Addr} {nl cl nx cx:Nat} {CL:List Vc} {LX:List Tm} {n:Int} (hl:Sl Vc.cs 1 w LA nl cl CL) (hli:Hid (∀v∈CL,VgIn w v)) (hll:nl≤9223372036854775807) (hx:Sl Tm.cs 5 w X nx cx LX) (xi:Hid (∀t∈LX,TmIn w t)) (hlx:nx≤9223372036854775807) (hni:I64 n) (xc:X=none→cx=0) (hT:Hid (Tab w)) :
  Calls Tryz.prog 9 #[.slice LA nl cl,.int .i64 n,.slice X nx cx] w (Yes w):=by
 cases s0:shortVcs 10 10 2 nl CL
 ·exact spans_0 hl hli hll hx xi hlx (zh s0) hT
 ·cases s1:shortVc 10 2 ⟨X,nx,cx,LX⟩
  ·exact spans_1 hl hli hll hx xi hlx (zh s0) (zh s1) hT
  ·cases g0:((nl:Int)==0)
   ·cases r:(CL.all fun v=>rightB v.L (nl:Int))
    ·exact spans_3 hl hli hll hx xi hlx (zh s0) (zh s1) g0 (zh r) hT
    ·exact spans_ok hl hli hll hx xi hlx hni xc (zh s0) (zh s1) g0 (zh r) hT
   ·exact spans_2 hl hli hll hx xi hlx (zh s0) (zh s1) g0 hT
theorem spans_any {w:World} {l x:Value} {n:Int} (hl:CsIn w l) (hn:-9223372036854775808≤n∧n≤9223372036854775807) (hx:TsIn w x) (hT:Tab w) :
  Calls Tryz.prog 9 #[l,.int .i64 n,x] w (Yes w):=by
 obtain⟨LA,nl,cl,CL,rfl,l1,l2,l3⟩:=hl;obtain⟨X,nx,cx,LX,rfl,x1,x2,x3,x4⟩:=hx;exact spans_q l1 (zh l2) l3 x1 (zh x2) x3 hn x4 (zh hT)
namespace luSpans
open Go.ChangeShapes Go.WideShapes Go.ChangeAt Go.RowKit Tw
theorem contract (H:Type) (enc:TypeId×Value→H) (W:World) (base:Nat) (args:Array Value) (ds gs:List (DataW H)) (before:List MemPlace)
  (hval:∀(j:Nat) t v,Tryz.f9.params[j]?=some t→args[j]?=some v→Value.okWide Tryz.prog W .any base t v)
  (hW:DataW.Whole enc Tryz.prog Tryz.f9.params.toList Rows.luSpansSpec.vars false W args.toList ds gs before) (hL:laidMetH Tryz.prog Rows.luSpansRow.laid W) :
  Calls Tryz.prog 9 args W fun e W'=>∃v,e=.returned v∧Rows.luSpansSpec.post enc Tryz.prog Tryz.f9 false true false false W args v W':=by
 have hW':=hW;obtain⟨p,q,hA0,hV,rfl,hfz,hnd⟩:=hW;have hA:DataW.TrodAll enc Tryz.prog W 0 (fun _=>true) true Tryz.f9.params.toList args.toList ds p:=hA0;rw[Tryz.params9] at hA hval;obtain⟨v0,vs0,d0,ds0,p0,q0,hargs,rfl,rfl,h0,r0⟩:=trodAll_cons hA;obtain⟨v1,vs1,d1,ds1,p1,q1,rfl,rfl,rfl,h1,r1⟩:=trodAll_cons r0;obtain⟨v2,vs2,d2,ds2,p2,q2,rfl,rfl,rfl,h2,r2⟩:=trodAll_cons r1;obtain⟨rfl,rfl,rfl⟩:=trodAll_nil r2;obtain rfl:args=#[v0,v1,v2]:=by cases args;simp_all
 obtain⟨rfl,rfl⟩:=trodVars_none hV;have lt0:∀x∈p0,x.block<W.heap.size:=by obtain⟨m,hm⟩:=h0;exact DataW.trod_lt m _ _ _ hm
 obtain⟨A0,l0,c0,rfl⟩:=okWide_slice Tryz.underlying36 (hval 0 36 v0 rfl rfl);have n0:=cs_of h0 ⟨_,_,_,rfl⟩;obtain⟨a1,rfl,rfl,rfl,w1⟩:=open_int Tryz.underlying3 (hval 1 3 v1 rfl rfl) h1;have lt2:∀x∈p2,x.block<W.heap.size:=by obtain⟨m,hm⟩:=h2;exact DataW.trod_lt m _ _ _ hm
 obtain⟨A2,l2,c2,rfl⟩:=okWide_slice Tryz.underlying24 (hval 2 24 v2 rfl rfl);have n2:=ts_of h2 ⟨_,_,_,rfl⟩;refine(spans_any n0 (bounds_i64 w1) n2 (tab_of hL)).mono fun e W' ⟨he,bel⟩=>?_;subst he;exact⟨_,rfl,_,_,_,[],_,[],hW',trodAll_mk1 (shut_bool Tryz.underlying4 _),(trodAll_cons_mk (Below.trod laidOut (by kernel_rfl) (of_decide_eq_true (by kernel_rfl)) h0 bel lt0) (trodAll_cons_mk (shut_int Tryz.underlying3 w1) (trodAll_cons_mk (Below.trod laidOut (by kernel_rfl) (of_decide_eq_true (by kernel_rfl)) h2 bel lt2) trodAll_mk0))),rfl,bel.frame _,fun h=>by cases h⟩
theorem laid_met (os:Os):laidMet Tryz.prog Rows.luSpansRow.laid ((laidWorld os).forCall (fun _ _=>0) ⟨#[],#[.slice none 0 0,.int .i64 0,.slice none 0 0],[]⟩).memory :=
 laidMet_of_run' 8 (by kernel_rfl) (by kernel_rfl)
theorem reads (os:Os) {H:Type} (enc:TypeId×Value→H):∃places,DataW.whole enc Tryz.prog ((laidWorld os).forCall (fun _ _=>0) ⟨#[],#[.slice none 0 0,.int .i64 0,.slice none 0 0],[]⟩).memory Tryz.f9.params.toList Rows.luSpansSpec.vars false (#[.slice none 0 0,.int .i64 0,.slice none 0 0]:Array Value).toList 8=some ([.nil,.lit (.int .i64 0),.nil],[],places) :=
 ⟨[],by kernel_rfl⟩
theorem lifted (os:Os) (started:os.Started) (H:Type) (enc:TypeId×Value→H) (F:Stop.Interp) :
  ReturnsInHanded {} Tryz.checked os 9 .any ((OpenSpec.ofChange Rows.luSpansSpec).preRow enc Tryz.prog Tryz.f9 Rows.luSpansRow.domain false Rows.luSpansRow.laid) (((OpenSpec.ofChange Rows.luSpansSpec).at F).post enc Tryz.prog Tryz.f9 false true false false):=by
 obtain⟨places,hx⟩:=reads os enc;refine returnsInHanded_of_row (C:=Tryz.checked) (s:=OpenSpec.ofChange Rows.luSpansSpec) own started (by kernel_rfl) Tryz.func9
  (witness_row_at (enc:=enc) (C:=Tryz.checked) false (laidWorld os) #[.slice none 0 0,.int .i64 0,.slice none 0 0] rfl (by kernel_rfl) (by kernel_rfl) (by kernel_rfl)
   (OpenSpec.preRow_of_cond 8 hx (by kernel_rfl) (fun k hk=>by cases hk) (by kernel_rfl) (laid_met os))) ?_
 intro W base args ds gs before hval hW _ _ _ hL _ _;exact contract H enc W base args ds gs before hval hW hL
theorem said:Rows.LuSpansSaid :=
 OpenClaim.holds_of_cond 9 Tryz.f9 rfl rfl rfl rfl rfl rfl rfl ⟨rfl,rfl,rfl,rfl,rfl⟩ rfl rfl rfl rfl rfl (by kernel_rfl) Tryz.func9 (by kernel_rfl)
  (of_decide_eq_true (by kernel_rfl)) (by unfold Func.isWrapper;first | (rw[if_pos (by decide +kernel)];kernel_rfl) | (rw[if_neg (by decide +kernel)];exact⟨rfl,rfl⟩))
  (fun os started H enc _ F=>by rw[OpenClaim.pre_eq_preRow];exact lifted os started H enc F)
theorem plain (f : FuncId) (fn : Func) (hf : Tryz.pinned.checked.prog.funcNamed "tripwire/tripwirelaw07.LuSpans" = some f) (hfn : Tryz.pinned.checked.prog.funcs[f]? = some fn) :
  false=Tryz.pinned.checked.prog.looks []∧∀(j:Nat) t,fn.params[j]?=some t→Tryz.pinned.checked.prog.wantsStandIn t=false:=by
 obtain rfl : f = 9 := Option.some.inj ((show Tryz.prog.funcNamed "tripwire/tripwirelaw07.LuSpans" = some 9 by kernel_rfl).symm.trans hf) |>.symm;obtain rfl:fn=Tryz.f9:=(Option.some.inj (Tryz.func9.symm.trans hfn)).symm;refine⟨by kernel_rfl,fun j t ht=>?_⟩;rw[Tryz.params9] at ht;have hm:=Array.mem_of_getElem? ht;simp only[List.mem_toArray,List.mem_cons,List.not_mem_nil,or_false] at hm
 rcases hm with rfl | rfl | rfl
 ·exact(show Tryz.prog.wantsStandIn 36=false by kernel_rfl)
 ·exact(show Tryz.prog.wantsStandIn 3=false by kernel_rfl)
 ·exact(show Tryz.prog.wantsStandIn 24=false by kernel_rfl)
theorem card:Rows.LuSpansCardSaid :=
 Claim7.holds_tied_plain_at .later [] _ _ _ _ said (fun _ h=>by cases h) (by kernel_rfl) (fun _ h=>by cases h) luSpans_row_tie rfl ⟨rfl,rfl⟩ (by kernel_rfl) rfl plain (by kernel_rfl)
end luSpans
end Go.Proofs.YtjkgjiofmgapfaaGreatDoor
