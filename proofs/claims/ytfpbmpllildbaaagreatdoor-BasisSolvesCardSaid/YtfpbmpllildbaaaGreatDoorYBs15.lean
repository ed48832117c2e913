import Derived.Test.YtfpbmpllildbaaaGreatDoorYBs13
set_option maxHeartbeats 16000000
set_option maxRecDepth 100000
namespace Go.Proofs.YtfpbmpllildbaaaGreatDoor
open Go.RowKit Tw
variable {LA SA X Y:Option Addr} {cl cx cy ns nx ny:Nat} {CL:List Vc} {LX LY:List Tm}
theorem bsolves_0 {w:World} {nl cs:Nat} {OL:List Op8} {most:Int} (hl:Sl Vc.cs 1 w LA nl cl CL) (hli:Hid (∀v∈CL,VgIn w v)) (hll:nl≤9223372036854775807) (_hm:-9223372036854775808≤most∧most≤9223372036854775807) (_hs:Sl Op8.cs 3 w SA ns cs OL) (_hsi:Hid (∀o∈OL,OpIn8 w o)) (_hsl:ns≤9223372036854775807) (_hx:Sl Tm.cs 5 w X nx cx LX) (_xi:Hid (∀t∈LX,TmIn w t)) (_hlx:nx≤9223372036854775807) (_hy:Sl Tm.cs 5 w Y ny cy LY) (_yi:Hid (∀t∈LY,TmIn w t)) (_hly:ny≤9223372036854775807) (S0:Hid (shortVcs 10 10 2 nl CL=false)) (hT:Hid (Tab w)) :
  Calls Tryz.prog 7 #[.slice LA nl cl,.int .i64 most,.slice SA ns cs,.slice X nx cx,.slice Y ny cy] w (Yes w):=by
 have hB:=Below.refl w.heap.size w;have Bz:=zr w;go_enter Tryz.func7,Tryz.ntmps7
 go_wp2_with fail
 with_reducible refine(shortVecs_q (hl.below (bT hB (bT (b:=w) Bz))) (zh fun v hv=>vg_lens ((hli.out v hv).below (bT hB (bT (b:=w) Bz)))) hll 10 10 2 false S0).mono ?_
 rintro e w1 ⟨rfl,q⟩;replace q:=zq (a:=w) q;replace Bz:=bT Bz q;clear q;go_wp2_with fail
 with_reducible refine(awake8_q (zt hT hB Bz)).mono ?_
 rintro e w2 ⟨rfl,q⟩;replace q:=zq (a:=w1) q;replace Bz:=bT Bz q;clear q;go_wp2_with fail
 go_ret
 have hF:=bT (c:=w2) hB Bz;exact⟨rfl,bT hF⟩
theorem bsolves_1 {w:World} {nl cs:Nat} {OL:List Op8} {most:Int} (hl:Sl Vc.cs 1 w LA nl cl CL) (hli:Hid (∀v∈CL,VgIn w v)) (hll:nl≤9223372036854775807) (_hm:-9223372036854775808≤most∧most≤9223372036854775807) (_hs:Sl Op8.cs 3 w SA ns cs OL) (_hsi:Hid (∀o∈OL,OpIn8 w o)) (_hsl:ns≤9223372036854775807) (hx:Sl Tm.cs 5 w X nx cx LX) (xi:Hid (∀t∈LX,TmIn w t)) (hlx:nx≤9223372036854775807) (_hy:Sl Tm.cs 5 w Y ny cy LY) (_yi:Hid (∀t∈LY,TmIn w t)) (_hly:ny≤9223372036854775807) (S0:Hid (shortVcs 10 10 2 nl CL=true)) (S1:Hid (shortVc 10 2 ⟨X,nx,cx,LX⟩=false)) (hT:Hid (Tab w)) :
  Calls Tryz.prog 7 #[.slice LA nl cl,.int .i64 most,.slice SA ns cs,.slice X nx cx,.slice Y ny cy] w (Yes w):=by
 have hB:=Below.refl w.heap.size w;have Bz:=zr w;go_enter Tryz.func7,Tryz.ntmps7
 go_wp2_with fail
 with_reducible refine(shortVecs_q (hl.below (bT hB (bT (b:=w) Bz))) (zh fun v hv=>vg_lens ((hli.out v hv).below (bT hB (bT (b:=w) Bz)))) hll 10 10 2 true S0).mono ?_
 rintro e w1 ⟨rfl,q⟩;replace q:=zq (a:=w) q;replace Bz:=bT Bz q;clear q;go_wp2_with fail
 with_reducible refine(shortVec_q (hx.below (bT hB (bT (b:=w1) Bz))) (zh fun t ht=>tm_lens (xi.out t ht)) hlx 10 2 false S1).mono ?_
 rintro e w2 ⟨rfl,q⟩;replace q:=zq (a:=w1) q;replace Bz:=bT Bz q;clear q;go_wp2_with fail
 with_reducible refine(awake8_q (zt hT hB Bz)).mono ?_
 rintro e w3 ⟨rfl,q⟩;replace q:=zq (a:=w2) q;replace Bz:=bT Bz q;clear q;go_wp2_with fail
 go_ret
 have hF:=bT (c:=w3) hB Bz;exact⟨rfl,bT hF⟩
theorem bsolves_2 {w:World} {nl cs:Nat} {OL:List Op8} {most:Int} (hl:Sl Vc.cs 1 w LA nl cl CL) (hli:Hid (∀v∈CL,VgIn w v)) (hll:nl≤9223372036854775807) (_hm:-9223372036854775808≤most∧most≤9223372036854775807) (_hs:Sl Op8.cs 3 w SA ns cs OL) (_hsi:Hid (∀o∈OL,OpIn8 w o)) (_hsl:ns≤9223372036854775807) (hx:Sl Tm.cs 5 w X nx cx LX) (xi:Hid (∀t∈LX,TmIn w t)) (hlx:nx≤9223372036854775807) (hy:Sl Tm.cs 5 w Y ny cy LY) (yi:Hid (∀t∈LY,TmIn w t)) (hly:ny≤9223372036854775807) (S0:Hid (shortVcs 10 10 2 nl CL=true)) (S1:Hid (shortVc 10 2 ⟨X,nx,cx,LX⟩=true)) (S2:Hid (shortVc 10 2 ⟨Y,ny,cy,LY⟩=false)) (hT:Hid (Tab w)) :
  Calls Tryz.prog 7 #[.slice LA nl cl,.int .i64 most,.slice SA ns cs,.slice X nx cx,.slice Y ny cy] w (Yes w):=by
 have hB:=Below.refl w.heap.size w;have Bz:=zr w;go_enter Tryz.func7,Tryz.ntmps7
 go_wp2_with fail
 with_reducible refine(shortVecs_q (hl.below (bT hB (bT (b:=w) Bz))) (zh fun v hv=>vg_lens ((hli.out v hv).below (bT hB (bT (b:=w) Bz)))) hll 10 10 2 true S0).mono ?_
 rintro e w1 ⟨rfl,q⟩;replace q:=zq (a:=w) q;replace Bz:=bT Bz q;clear q;go_wp2_with fail
 with_reducible refine(shortVec_q (hx.below (bT hB (bT (b:=w1) Bz))) (zh fun t ht=>tm_lens (xi.out t ht)) hlx 10 2 true S1).mono ?_
 rintro e w2 ⟨rfl,q⟩;replace q:=zq (a:=w1) q;replace Bz:=bT Bz q;clear q;go_wp2_with fail
 with_reducible refine(shortVec_q (hy.below (bT hB (bT (b:=w2) Bz))) (zh fun t ht=>tm_lens (yi.out t ht)) hly 10 2 false S2).mono ?_
 rintro e w3 ⟨rfl,q⟩;replace q:=zq (a:=w2) q;replace Bz:=bT Bz q;clear q;go_wp2_with fail
 with_reducible refine(awake8_q (zt hT hB Bz)).mono ?_
 rintro e w4 ⟨rfl,q⟩;replace q:=zq (a:=w3) q;replace Bz:=bT Bz q;clear q;go_wp2_with fail
 go_ret
 have hF:=bT (c:=w4) hB Bz;exact⟨rfl,bT hF⟩
theorem bsolves_bad {w:World} {nl cs:Nat} {OL:List Op8} {most:Int} (hl:Sl Vc.cs 1 w LA nl cl CL) (hli:Hid (∀v∈CL,VgIn w v)) (hll:nl≤9223372036854775807) (hm:-9223372036854775808≤most∧most≤9223372036854775807) (_hs:Sl Op8.cs 3 w SA ns cs OL) (_hsi:Hid (∀o∈OL,OpIn8 w o)) (_hsl:ns≤9223372036854775807) (hx:Sl Tm.cs 5 w X nx cx LX) (xi:Hid (∀t∈LX,TmIn w t)) (hlx:nx≤9223372036854775807) (hy:Sl Tm.cs 5 w Y ny cy LY) (yi:Hid (∀t∈LY,TmIn w t)) (hly:ny≤9223372036854775807) (S0:Hid (shortVcs 10 10 2 nl CL=true)) (S1:Hid (shortVc 10 2 ⟨X,nx,cx,LX⟩=true)) (S2:Hid (shortVc 10 2 ⟨Y,ny,cy,LY⟩=true)) (HR:Hid ((CL.all fun v=>rightB v.L (nl:Int))=false)) (hT:Hid (Tab w)) :
  Calls Tryz.prog 7 #[.slice LA nl cl,.int .i64 most,.slice SA ns cs,.slice X nx cx,.slice Y ny cy] w (Yes w):=by
 obtain⟨p1,HP1⟩:∃p,Hid (pickF most 6=p):=⟨_,zh rfl⟩;have hp1:p1<6:=by rw[←HP1.out];exact pickF_lt zd
 have hnl:=(cw_small (k:=10) (cnt:=10) (most:=2) hl hli.out S0.out).2.1;have hB:=Below.refl w.heap.size w;have Bz:=zr w;go_enter Tryz.func7,Tryz.ntmps7
 go_wp2_with fail
 with_reducible refine(shortVecs_q (hl.below (bT hB (bT (b:=w) Bz))) (zh fun v hv=>vg_lens ((hli.out v hv).below (bT hB (bT (b:=w) Bz)))) hll 10 10 2 true S0).mono ?_
 rintro e w1 ⟨rfl,q⟩;replace q:=zq (a:=w) q;replace Bz:=bT Bz q;clear q;go_wp2_with fail
 with_reducible refine(shortVec_q (hx.below (bT hB (bT (b:=w1) Bz))) (zh fun t ht=>tm_lens (xi.out t ht)) hlx 10 2 true S1).mono ?_
 rintro e w2 ⟨rfl,q⟩;replace q:=zq (a:=w1) q;replace Bz:=bT Bz q;clear q;go_wp2_with fail
 with_reducible refine(shortVec_q (hy.below (bT hB (bT (b:=w2) Bz))) (zh fun t ht=>tm_lens (yi.out t ht)) hly 10 2 true S2).mono ?_
 rintro e w3 ⟨rfl,q⟩;replace q:=zq (a:=w2) q;replace Bz:=bT Bz q;clear q;go_wp2_with fail
 with_reducible refine(pickN most 6 6 rfl p1 HP1 hm zd zd).mono ?_
 rintro e w4 ⟨rfl,q⟩;replace q:=zq (a:=w3) q;replace Bz:=bT Bz q;clear q;have wr1:IntKind.i64.wrap (1+(p1:Int))=(p1:Int)+1:=by rw[IntWalk.i64_in _ zo];omega
 go_wp2_with fail
 with_reducible refine(bnew_err2 (z:=(nl:Int)) (m:=((p1:Int)+1)) zo zo (fun hb=>factorBadS (hl.below (bT (bT hB (bT (b:=w4) Bz)) hb)) (zh fun v hv=>⟨(VgIn.sl (hli.out v hv)).below (bT (bT hB (bT (b:=w4) Bz)) hb),fun t ht=>(right_frk (k:=10) (cnt:=10) (most:=2) hli.out S0.out v hv t ht).below (bT (bT hB (bT (b:=w4) Bz)) hb),nA (right_nk (k:=10) (cnt:=10) (most:=2) S0.out v hv) zd,VgIn.nul (hli.out v hv)⟩) zo HR.out (nl:Int) rfl (zh (((zt hT hB Bz)).out.below hb)))).mono ?_
 rintro e w5 ⟨rfl,q⟩;replace q:=zq (a:=w4) q;replace Bz:=bT Bz q;clear q;go_wp2_with fail
 with_reducible refine(awake8_q (zt hT hB Bz)).mono ?_
 rintro e w6 ⟨rfl,q⟩;replace q:=zq (a:=w5) q;replace Bz:=bT Bz q;clear q;go_wp2_with fail
 go_ret
 have hF:=bT (c:=w6) hB Bz;exact⟨rfl,bT hF⟩
theorem bsolves_sing {w:World} {nl cs:Nat} {OL:List Op8} {most:Int} (hl:Sl Vc.cs 1 w LA nl cl CL) (hli:Hid (∀v∈CL,VgIn w v)) (hll:nl≤9223372036854775807) (hm:-9223372036854775808≤most∧most≤9223372036854775807) (_hs:Sl Op8.cs 3 w SA ns cs OL) (_hsi:Hid (∀o∈OL,OpIn8 w o)) (_hsl:ns≤9223372036854775807) (hx:Sl Tm.cs 5 w X nx cx LX) (xi:Hid (∀t∈LX,TmIn w t)) (hlx:nx≤9223372036854775807) (hy:Sl Tm.cs 5 w Y ny cy LY) (yi:Hid (∀t∈LY,TmIn w t)) (hly:ny≤9223372036854775807) (S0:Hid (shortVcs 10 10 2 nl CL=true)) (S1:Hid (shortVc 10 2 ⟨X,nx,cx,LX⟩=true)) (S2:Hid (shortVc 10 2 ⟨Y,ny,cy,LY⟩=true)) (HR:Hid ((CL.all fun v=>rightB v.L (nl:Int))=true)) (HSN:Hid ((facUp (facT (CL.map fun v=>prs v.L) nl) nl).isNone=true)) (hT:Hid (Tab w)) :
  Calls Tryz.prog 7 #[.slice LA nl cl,.int .i64 most,.slice SA ns cs,.slice X nx cx,.slice Y ny cy] w (Yes w):=by
 obtain⟨p1,HP1⟩:∃p,Hid (pickF most 6=p):=⟨_,zh rfl⟩;have hp1:p1<6:=by rw[←HP1.out];exact pickF_lt zd
 obtain⟨_,hnl,hC⟩:=cw_small (k:=10) (cnt:=10) (most:=2) hl hli.out S0.out;obtain⟨hcm,hrx⟩:=cm_right (k:=10) (cnt:=10) (most:=2) hl hli.out S0.out HR.out;have HLM:Hid (∀x∈(CL.map fun v=>prs v.L),x.length≤1000):=zh fun x hx=>nA (hC x hx).1 zd;have HRC:Hid (rightC (nl:Int) (CL.map fun v=>prs v.L)=true):=zh (rightC_iff.2 hrx);have HFM:Hid (facM (2+2) nl≤3600000012):=zh (nA (facM_mono 4 hnl) zd);clear hC hrx;have hB:=Below.refl w.heap.size w;have Bz:=zr w;go_enter Tryz.func7,Tryz.ntmps7
 go_wp2_with fail
 with_reducible refine(shortVecs_q (hl.below (bT hB (bT (b:=w) Bz))) (zh fun v hv=>vg_lens ((hli.out v hv).below (bT hB (bT (b:=w) Bz)))) hll 10 10 2 true S0).mono ?_
 rintro e w1 ⟨rfl,q⟩;replace q:=zq (a:=w) q;replace Bz:=bT Bz q;clear q;go_wp2_with fail
 with_reducible refine(shortVec_q (hx.below (bT hB (bT (b:=w1) Bz))) (zh fun t ht=>tm_lens (xi.out t ht)) hlx 10 2 true S1).mono ?_
 rintro e w2 ⟨rfl,q⟩;replace q:=zq (a:=w1) q;replace Bz:=bT Bz q;clear q;go_wp2_with fail
 with_reducible refine(shortVec_q (hy.below (bT hB (bT (b:=w2) Bz))) (zh fun t ht=>tm_lens (yi.out t ht)) hly 10 2 true S2).mono ?_
 rintro e w3 ⟨rfl,q⟩;replace q:=zq (a:=w2) q;replace Bz:=bT Bz q;clear q;go_wp2_with fail
 with_reducible refine(pickN most 6 6 rfl p1 HP1 hm zd zd).mono ?_
 rintro e w4 ⟨rfl,q⟩;replace q:=zq (a:=w3) q;replace Bz:=bT Bz q;clear q;have wr1:IntKind.i64.wrap (1+(p1:Int))=(p1:Int)+1:=by rw[IntWalk.i64_in _ zo];omega
 go_wp2_with fail
 with_reducible refine(bnew_err12 (z:=(nl:Int)) (m:=((p1:Int)+1)) zo zo (fun hb=>factorSing (hcm.below (bT (bT hB (bT (b:=w4) Bz)) hb)) HLM.out zo HFM.out HRC.out HSN.out (nl:Int) rfl (zh (((zt hT hB Bz)).out.below hb)))).mono ?_
 rintro e w5 ⟨rfl,q⟩;replace q:=zq (a:=w4) q;replace Bz:=bT Bz q;clear q;go_wp2_with fail
 with_reducible refine(awake8_q (zt hT hB Bz)).mono ?_
 rintro e w6 ⟨rfl,q⟩;replace q:=zq (a:=w5) q;replace Bz:=bT Bz q;clear q;go_wp2_with fail
 go_ret
 have hF:=bT (c:=w6) hB Bz;exact⟨rfl,bT hF⟩
def BL8 (w:World) (bb nl mo m gk:Nat) (s:Value) (wr:World):Prop:=∃(i ne:Nat) (A:Option Addr) (C:List (List (Int×Rat))),i≤m∧m-i=gk∧s=.int .i64 (i:Int)∧BsOk noAv wr bb nl mo ne A C∧Below w.heap.size w wr
theorem bsolves_ok {w:World} {nl cs:Nat} {OL:List Op8} {most:Int} (hl:Sl Vc.cs 1 w LA nl cl CL) (hli:Hid (∀v∈CL,VgIn w v)) (hll:nl≤9223372036854775807) (hm:-9223372036854775808≤most∧most≤9223372036854775807) (hs:Sl Op8.cs 3 w SA ns cs OL) (hsi:Hid (∀o∈OL,OpIn8 w o)) (hsl:ns≤9223372036854775807) (hx:Sl Tm.cs 5 w X nx cx LX) (xi:Hid (∀t∈LX,TmIn w t)) (hlx:nx≤9223372036854775807) (hy:Sl Tm.cs 5 w Y ny cy LY) (yi:Hid (∀t∈LY,TmIn w t)) (hly:ny≤9223372036854775807) (xc:X=none→cx=0) (yc:Y=none→cy=0) (S0:Hid (shortVcs 10 10 2 nl CL=true)) (S1:Hid (shortVc 10 2 ⟨X,nx,cx,LX⟩=true)) (S2:Hid (shortVc 10 2 ⟨Y,ny,cy,LY⟩=true)) (HR:Hid ((CL.all fun v=>rightB v.L (nl:Int))=true)) (HSM:Hid ((facUp (facT (CL.map fun v=>prs v.L) nl) nl).isSome=true)) (hT:Hid (Tab w)) :
  Calls Tryz.prog 7 #[.slice LA nl cl,.int .i64 most,.slice SA ns cs,.slice X nx cx,.slice Y ny cy] w (Yes w):=by
 obtain⟨p1,HP1⟩:∃p,Hid (pickF most 6=p):=⟨_,zh rfl⟩;have hp1:p1<6:=by rw[←HP1.out];exact pickF_lt zd
 obtain⟨_,hnl,hC⟩:=cw_small (k:=10) (cnt:=10) (most:=2) hl hli.out S0.out;obtain⟨hcm,hrx⟩:=cm_right (k:=10) (cnt:=10) (most:=2) hl hli.out S0.out HR.out;have HLM:Hid (∀x∈(CL.map fun v=>prs v.L),x.length≤1000):=zh fun x hx=>nA (hC x hx).1 zd;have HRC:Hid (rightC (nl:Int) (CL.map fun v=>prs v.L)=true):=zh (rightC_iff.2 hrx);have HFM:Hid (facM (2+2) nl≤3600000012):=zh (nA (facM_mono 4 hnl) zd);clear hC hrx;have hB:=Below.refl w.heap.size w;have Bz:=zr w;go_enter Tryz.func7,Tryz.ntmps7
 go_wp2_with fail
 with_reducible refine(shortVecs_q (hl.below (bT hB (bT (b:=w) Bz))) (zh fun v hv=>vg_lens ((hli.out v hv).below (bT hB (bT (b:=w) Bz)))) hll 10 10 2 true S0).mono ?_
 rintro e w1 ⟨rfl,q⟩;replace q:=zq (a:=w) q;replace Bz:=bT Bz q;clear q;go_wp2_with fail
 with_reducible refine(shortVec_q (hx.below (bT hB (bT (b:=w1) Bz))) (zh fun t ht=>tm_lens (xi.out t ht)) hlx 10 2 true S1).mono ?_
 rintro e w2 ⟨rfl,q⟩;replace q:=zq (a:=w1) q;replace Bz:=bT Bz q;clear q;go_wp2_with fail
 with_reducible refine(shortVec_q (hy.below (bT hB (bT (b:=w2) Bz))) (zh fun t ht=>tm_lens (yi.out t ht)) hly 10 2 true S2).mono ?_
 rintro e w3 ⟨rfl,q⟩;replace q:=zq (a:=w2) q;replace Bz:=bT Bz q;clear q;go_wp2_with fail
 with_reducible refine(pickN most 6 6 rfl p1 HP1 hm zd zd).mono ?_
 rintro e w4 ⟨rfl,q⟩;replace q:=zq (a:=w3) q;replace Bz:=bT Bz q;clear q;have wr1:IntKind.i64.wrap (1+(p1:Int))=(p1:Int)+1:=by rw[IntWalk.i64_in _ zo];omega
 go_wp2_with fail
 have hpz:w.heap.size≤w4.heap.size:=zi (zww hB Bz);with_reducible refine(bnewL (av:=noAv) (most:=p1+1) (z:=(nl:Int)) (m:=(p1:Int)+1) (hcm.below (bT hB (bT (b:=w4) Bz))) HLM.out zo HRC.out HSM.out zo zo rfl zo (zt hT hB Bz)).mono ?_
 rintro e w5 ⟨bb,A0,rfl,hge,hok5,q⟩;replace q:=zq (a:=w4) q;replace Bz:=bT Bz q;clear q;have hbz:w.heap.size≤bb:=zo;clear hpz hge;go_wp2_with fail
 have HOK:=zh hok5;have HWB:=zh (bT hB Bz);have HGX:=zh (gv_small (cnt:=10) (most:=2) hx xi.out xc S1.out).1;have HGY:=zh (gv_small (cnt:=10) (most:=2) hy yi.out yc S2.out).1;have hnx:=(gv_small (cnt:=10) (most:=2) hx xi.out xc S1.out).2;have hny:=(gv_small (cnt:=10) (most:=2) hy yi.out yc S2.out).2;have HSS:=zh hs;have HSL:=zh hs.1;clear hB Bz hcm HLM HRC HFM HR HSM S0 S1 S2 hl hli hx xi hy yi xc yc hs;go_loopg [14] (min ns 12) (fun gk s wr=>BL8 w bb nl (p1+1) (min ns 12) gk s wr)
 case atStart=>exact⟨0,0,A0,_,zA _,rfl,by go_num,BsOk.below HOK.out,bT HWB.out⟩
 case round =>
  clear HOK HWB;obtain⟨i,ne,A,C,hi,hgk,rfl,hok,hB⟩:=hrel;have HGK:=zh hgk;clear hgk;by_cases hlt:i<min ns 12
  ·have i1:(i:Int)<(ns:Int):=zo;have i2:(i:Int)<12:=zo;have i3:(0:Int)≤(i:Int):=zo;obtain⟨sb,so,rfl,hel⟩:=HSS.out.at Op8.cs_len zo zo;obtain⟨o,ho⟩:∃o,OL[i]?=some o:=⟨OL[i]'(by rw[HSL.out];omega),aA _⟩;have hnd:ElA w sb (so+i*3) (Op8.cs o):=hel i o ho;have HOV:=zh (hsi.out o (eA ho)).1;have HOV2:=zh (hsi.out o (eA ho)).2;have hon:o.v.n≤9223372036854775807:=by have:=HOV.out.1;unfold maxLen at this;omega
   clear hel ho;cases so2:shortVc 10 2 o.v
   ·have SO:=zh so2;clear so2;have Bz:=zr wr;obtain⟨pA0,pA1,pA2,-⟩:=(hnd.below (bT hB Bz)).ez;go_upto_region 11 with(fail)
    obtain⟨V21,hW,x0,hN⟩:=zAd wr #[.int .i64 o.k,.int .i64 o.n,.slice o.v.A o.v.n o.v.c] 65;rw[←hW];clear hW;obtain⟨v0,hb0⟩:=ze wr.heap.size;rw[←hb0] at x0 ⊢;have ow_0:w.heap.size≤v0:=zi (zww hB Bz);replace hok:=hok.below hN;replace hB:=bT (bT hB Bz) hN;have HX0:=zh x0;clear x0 hN Bz hb0;have Bz:=zr V21;clear pA0 pA1 pA2;have pa2:=(zx HX0 Bz).cell 2 (.slice o.v.A o.v.n o.v.c) rfl;go_wp2_with fail
    with_reducible refine(shortVec_q ((VgIn.sl HOV.out).below (bT hB (bT (b:=V21) Bz))) (zh fun t ht=>tm_lens (VgIn.tms HOV.out t ht)) hon 10 2 false SO).mono ?_
    rintro e w21 ⟨rfl,q⟩;replace q:=zq (a:=V21) q;replace hok:=hok.below q;replace Bz:=bT Bz q;clear q;clear pa2;go_wp2_with fail
    go_roundg (min ns 12-(i+1))
    case measure=>have:=HGK.out;omega
    case rel=>exact⟨i+1,ne,_,_,zo,rfl,by go_num,BsOk.below hok,bT (bT hB Bz)⟩
   ·have SO:=zh so2;clear so2;have hon2:=(vc_frk HOV.out SO.out).2;by_cases h0:nl=0
    ·subst h0;have Bz:=zr wr;obtain⟨pA0,pA1,pA2,-⟩:=(hnd.below (bT hB Bz)).ez;go_upto_region 11 with(fail)
     obtain⟨V21,hW,x0,hN⟩:=zAd wr #[.int .i64 o.k,.int .i64 o.n,.slice o.v.A o.v.n o.v.c] 65;rw[←hW];clear hW;obtain⟨v0,hb0⟩:=ze wr.heap.size;rw[←hb0] at x0 ⊢;have ow_0:w.heap.size≤v0:=zi (zww hB Bz);replace hok:=hok.below hN;replace hB:=bT (bT hB Bz) hN;have HX0:=zh x0;clear x0 hN Bz hb0;have Bz:=zr V21;clear pA0 pA1 pA2;have pa2:=(zx HX0 Bz).cell 2 (.slice o.v.A o.v.n o.v.c) rfl;go_wp2_with fail
     with_reducible refine(shortVec_q ((VgIn.sl HOV.out).below (bT hB (bT (b:=V21) Bz))) (zh fun t ht=>tm_lens (VgIn.tms HOV.out t ht)) hon 10 2 true SO).mono ?_
     rintro e w21 ⟨rfl,q⟩;replace q:=zq (a:=V21) q;replace hok:=hok.below q;replace Bz:=bT Bz q;clear q;clear pa2;go_wp2_with fail
     go_roundg (min ns 12-(i+1))
     case measure=>have:=HGK.out;omega
     case rel=>exact⟨i+1,ne,_,_,zo,rfl,by go_num,BsOk.below hok,bT (bT hB Bz)⟩
    ·have g0:((nl:Int) !=(nl:Int))=false:=by simp
     have g1z:((nl:Int)==0)=false:=beq_eq_false_iff_ne.2 zo;obtain⟨r,HPR⟩:∃r,Hid (pickF o.n nl=r):=⟨_,zh rfl⟩;have hrn:r<nl:=by rw[←HPR.out];exact pickF_lt zo
     have r1:(0:Int)≤(r:Int):=zo;have r2:(r:Int)<(nl:Int):=zo;have HLC:=zh (fun x hx=>nA (hok.lens x hx) (show nl≤1000000 by omega):∀x∈C,x.length≤1000000);cases rb:rightB o.v.L (nl:Int)
     ·have HRB:=zh rb;clear rb;obtain⟨CQ,hcq⟩:∃D,D=C:=⟨_,rfl⟩;subst hcq;have HLQ:=HLC;have Bz:=zr wr;obtain⟨pA0,pA1,pA2,-⟩:=(hnd.below (bT hB Bz)).ez;go_upto_region 11 with(fail)
      obtain⟨V21,hW,x0,hN⟩:=zAd wr #[.int .i64 o.k,.int .i64 o.n,.slice o.v.A o.v.n o.v.c] 65;rw[←hW];clear hW;obtain⟨v0,hb0⟩:=ze wr.heap.size;rw[←hb0] at x0 ⊢;have ow_0:w.heap.size≤v0:=zi (zww hB Bz);replace hok:=hok.below hN;replace hB:=bT (bT hB Bz) hN;have HX0:=zh x0;clear x0 hN Bz hb0;have Bz:=zr V21;clear pA0 pA1 pA2;have pa2:=(zx HX0 Bz).cell 2 (.slice o.v.A o.v.n o.v.c) rfl;go_wp2_with fail
      with_reducible refine(shortVec_q ((VgIn.sl HOV.out).below (bT hB (bT (b:=V21) Bz))) (zh fun t ht=>tm_lens (VgIn.tms HOV.out t ht)) hon 10 2 true SO).mono ?_
      rintro e w21 ⟨rfl,q⟩;replace q:=zq (a:=V21) q;replace hok:=hok.below q;replace Bz:=bT Bz q;clear q;clear pa2;go_wp2_with fail
      have hz1:w.heap.size≤w21.heap.size:=zi (zww hB Bz);have hbl1:=BsOk.lt hok;with_reducible refine(bokCols (BsOk.below hok) (zt hT hB Bz)).mono ?_
      rintro e w22 ⟨g1,V1c,rfl,ho22,hc22,hm22,q⟩;replace q:=zq (a:=w21) q;replace hok:=hok.below q;replace Bz:=bT Bz q;clear q;have HM1:=zh hm22;have hgb1:g1≠bb:=zi (OwnR.base ho22 g1 rfl);replace ho22:=ho22.rebase hz1;clear hm22 hz1 hbl1;have pa1:=(zx HX0 Bz).cell 1 (.int .i64 o.n) rfl;go_wp2_with fail
      with_reducible refine(pickN o.n nl (nl:Int) rfl r HPR HOV2.out zo zo).mono ?_
      rintro e w23 ⟨rfl,q⟩;replace q:=zq (a:=w22) q;replace hc22:=hc22.below q;replace hok:=hok.below q;replace ho22:=ho22.below q;replace Bz:=bT Bz q;clear q;clear pa1;have pa2:=(zx HX0 Bz).cell 2 (.slice o.v.A o.v.n o.v.c) rfl;go_wp2_with fail
      with_reducible refine(brep_bad (BsOk.below hok) hrn ((VgIn.sl HOV.out).below (bT hB (bT (b:=w23) Bz))) (zh fun t ht=>((vc_frk HOV.out SO.out).1 t ht).below (bT hB (bT (b:=w23) Bz))) zo HRB (zt hT hB Bz)).mono ?_
      rintro e w24 ⟨rfl,q⟩;replace q:=zq (a:=w23) q;replace hc22:=hc22.below q;replace hok:=hok.below q;replace ho22:=ho22.below q;replace Bz:=bT Bz q;clear q;clear pa2;go_wp2_with fail
      have hz2:w.heap.size≤w24.heap.size:=zi (zww hB Bz);have hbl2:=BsOk.lt hok;with_reducible refine(bokCols (BsOk.below hok) (zt hT hB Bz)).mono ?_
      rintro e w25 ⟨g2,V2c,rfl,ho25,hc25,hm25,q⟩;replace q:=zq (a:=w24) q;replace hc22:=hc22.below q;replace hok:=hok.below q;replace ho22:=ho22.below q;replace Bz:=bT Bz q;clear q;have HM2:=zh hm25;have hgb2:g2≠bb:=zi (OwnR.base ho25 g2 rfl);replace ho25:=ho25.rebase hz2;clear hm25 hz2 hbl2;go_wp2_with fail
      with_reducible refine(sameVecs_q (C:=CQ) (D:=CQ) (CVs.cmE (CVs.below hc25) (OwnR.below ho25) HM2.out) (CVs.cmE (CVs.below hc22) (OwnR.below ho22) HM1.out) HLQ.out HLQ.out zd zd zo zo true (zh (fA rfl))).mono ?_
      rintro e w26 ⟨rfl,q⟩;replace q:=zq (a:=w25) q;replace hok:=hok.below q;replace Bz:=bT Bz q;clear q;go_wp2_with fail
      go_roundg (min ns 12-(i+1))
      case measure=>have:=HGK.out;omega
      case rel=>exact⟨i+1,ne,_,_,zo,rfl,by go_num,BsOk.below hok,bT (bT hB Bz)⟩
     ·obtain⟨nz1,nz2,nz3⟩:=nv_right HOV.out SO.out rb;have HNZ:=zh nz1;have HZN:=zh nz2;have HZI:=zh nz3;have HZS:=zh (fun x hx=>nA (nv_szs nz1 x hx) zd:∀x∈prs o.v.L,sz x.2+1≤5);have HGZ:=zh (gv_small (cnt:=10) (most:=2) HOV.out.2.1 HOV.out.2.2.1 HOV.out.2.2.2 SO.out).1;clear nz1 nz2 nz3 rb;cases fs:(facUp (facT (C.set r (prs o.v.L)) nl) nl).isSome
      ·have HFN:Hid ((facUp (facT (C.set r (prs o.v.L)) nl) nl).isNone=true):=zh (by rw[fG];exact Option.not_isSome_iff_eq_none.1 (by rw[fs];simp));clear fs;obtain⟨CQ,hcq⟩:∃D,D=C:=⟨_,rfl⟩;subst hcq;have HLQ:=HLC;have Bz:=zr wr;obtain⟨pA0,pA1,pA2,-⟩:=(hnd.below (bT hB Bz)).ez;go_upto_region 11 with(fail)
       obtain⟨V21,hW,x0,hN⟩:=zAd wr #[.int .i64 o.k,.int .i64 o.n,.slice o.v.A o.v.n o.v.c] 65;rw[←hW];clear hW;obtain⟨v0,hb0⟩:=ze wr.heap.size;rw[←hb0] at x0 ⊢;have ow_0:w.heap.size≤v0:=zi (zww hB Bz);replace hok:=hok.below hN;replace hB:=bT (bT hB Bz) hN;have HX0:=zh x0;clear x0 hN Bz hb0;have Bz:=zr V21;clear pA0 pA1 pA2;have pa2:=(zx HX0 Bz).cell 2 (.slice o.v.A o.v.n o.v.c) rfl;go_wp2_with fail
       with_reducible refine(shortVec_q ((VgIn.sl HOV.out).below (bT hB (bT (b:=V21) Bz))) (zh fun t ht=>tm_lens (VgIn.tms HOV.out t ht)) hon 10 2 true SO).mono ?_
       rintro e w21 ⟨rfl,q⟩;replace q:=zq (a:=V21) q;replace hok:=hok.below q;replace Bz:=bT Bz q;clear q;clear pa2;go_wp2_with fail
       have hz1:w.heap.size≤w21.heap.size:=zi (zww hB Bz);have hbl1:=BsOk.lt hok;with_reducible refine(bokCols (BsOk.below hok) (zt hT hB Bz)).mono ?_
       rintro e w22 ⟨g1,V1c,rfl,ho22,hc22,hm22,q⟩;replace q:=zq (a:=w21) q;replace hok:=hok.below q;replace Bz:=bT Bz q;clear q;have HM1:=zh hm22;have hgb1:g1≠bb:=zi (OwnR.base ho22 g1 rfl);replace ho22:=ho22.rebase hz1;clear hm22 hz1 hbl1;have pa1:=(zx HX0 Bz).cell 1 (.int .i64 o.n) rfl;go_wp2_with fail
       with_reducible refine(pickN o.n nl (nl:Int) rfl r HPR HOV2.out zo zo).mono ?_
       rintro e w23 ⟨rfl,q⟩;replace q:=zq (a:=w22) q;replace hc22:=hc22.below q;replace hok:=hok.below q;replace ho22:=ho22.below q;replace Bz:=bT Bz q;clear q;clear pa1;have pa2:=(zx HX0 Bz).cell 2 (.slice o.v.A o.v.n o.v.c) rfl;go_wp2_with fail
       with_reducible refine(brep_sing (BsOk.below hok) hrn (HNZ.out.below (bT hB (bT (b:=w23) Bz))) HZN.out HZI.out HFN.out (zt hT hB Bz)).mono ?_
       rintro e w24 ⟨rfl,q⟩;replace q:=zq (a:=w23) q;replace hc22:=hc22.below q;replace hok:=hok.below q;replace ho22:=ho22.below q;replace Bz:=bT Bz q;clear q;clear pa2;go_wp2_with fail
       have hz2:w.heap.size≤w24.heap.size:=zi (zww hB Bz);have hbl2:=BsOk.lt hok;with_reducible refine(bokCols (BsOk.below hok) (zt hT hB Bz)).mono ?_
       rintro e w25 ⟨g2,V2c,rfl,ho25,hc25,hm25,q⟩;replace q:=zq (a:=w24) q;replace hc22:=hc22.below q;replace hok:=hok.below q;replace ho22:=ho22.below q;replace Bz:=bT Bz q;clear q;have HM2:=zh hm25;have hgb2:g2≠bb:=zi (OwnR.base ho25 g2 rfl);replace ho25:=ho25.rebase hz2;clear hm25 hz2 hbl2;go_wp2_with fail
       with_reducible refine(sameVecs_q (C:=CQ) (D:=CQ) (CVs.cmE (CVs.below hc25) (OwnR.below ho25) HM2.out) (CVs.cmE (CVs.below hc22) (OwnR.below ho22) HM1.out) HLQ.out HLQ.out zd zd zo zo true (zh (fA rfl))).mono ?_
       rintro e w26 ⟨rfl,q⟩;replace q:=zq (a:=w25) q;replace hok:=hok.below q;replace Bz:=bT Bz q;clear q;go_wp2_with fail
       go_roundg (min ns 12-(i+1))
       case measure=>have:=HGK.out;omega
       case rel=>exact⟨i+1,ne,_,_,zo,rfl,by go_num,BsOk.below hok,bT (bT hB Bz)⟩
      ·have HFN:=zh fs;clear fs;obtain⟨CQ,hcq⟩:∃D,D=C.set r (prs o.v.L):=⟨_,rfl⟩;have HCQ:=zh hcq.symm;have HLQ:Hid (∀x∈CQ,x.length≤1000000):=zh fun x hx=>by
        rw[←HCQ.out] at hx;rcases kC hx with h9 | rfl
        ·exact HLC.out x h9
        ·exact nA (nrm_in_len HZN.out HZI.out) zo
       have HY0:Hid (∀V1c:List Vc,V1c.length=nl→∃y,V1c[r]?=some y):=zh fun V1c h9=>⟨V1c[r]'zo,aA _⟩;clear hcq;by_cases i5:ne+1<p1+1
       ·have i6:=i5;have hfr:=hok.free;have hBR:=Below.refl wr.heap.size wr;have Bz:=zr wr;obtain⟨pA0,pA1,pA2,-⟩:=(hnd.below (bT hB Bz)).ez;go_upto_region 11 with(fail)
        obtain⟨V21,hW,x0,hN⟩:=zAd wr #[.int .i64 o.k,.int .i64 o.n,.slice o.v.A o.v.n o.v.c] 65;rw[←hW];clear hW;obtain⟨v0,hb0⟩:=ze wr.heap.size;rw[←hb0] at x0 ⊢;have ow_0:w.heap.size≤v0:=zi (zww hB Bz);replace hfr:=hfr.below hN;replace hok:=hok.below hN;replace hB:=bT (bT hB Bz) hN;replace hBR:=bT (bT hBR Bz) hN;have HX0:=zh x0;clear x0 hN Bz hb0;have Bz:=zr V21;clear pA0 pA1 pA2;have pa2:=(zx HX0 Bz).cell 2 (.slice o.v.A o.v.n o.v.c) rfl;go_wp2_with fail
        with_reducible refine(shortVec_q ((VgIn.sl HOV.out).below (bT hB (bT (b:=V21) Bz))) (zh fun t ht=>tm_lens (VgIn.tms HOV.out t ht)) hon 10 2 true SO).mono ?_
        rintro e w21 ⟨rfl,q⟩;replace q:=zq (a:=V21) q;replace hfr:=hfr.below q;replace hok:=hok.below q;replace Bz:=bT Bz q;clear q;clear pa2;go_wp2_with fail
        have hz1:w.heap.size≤w21.heap.size:=zi (zww hB Bz);have hbl1:=BsOk.lt hok;have hzr:wr.heap.size≤w21.heap.size:=zj hBR.size Bz.size;with_reducible refine(bokCols (BsOk.below hok) (zt hT hB Bz)).mono ?_
        rintro e w22 ⟨g1,V1c,rfl,ho22,hc22,hm22,q⟩;replace q:=zq (a:=w21) q;replace hfr:=hfr.below q;replace Bz:=bT Bz q;clear q;have HM1:=zh hm22;have hgb1:g1≠bb:=zi (OwnR.base ho22 g1 rfl);obtain⟨y0,hy0⟩:=HY0.out V1c (ho22.eltn elt_vcs zo);have HVR:=zh hy0;clear hy0;have hgr:wr.heap.size≤g1:=zi (OwnR.base ho22 g1 rfl);clear hzr;replace ho22:=ho22.rebase hz1;clear hm22 hz1 hbl1;have pa1:=(zx HX0 Bz).cell 1 (.int .i64 o.n) rfl;have hokx:=hfr g1 hgr;clear hgr hfr;go_wp2_with fail
        with_reducible refine(pickN o.n nl (nl:Int) rfl r HPR HOV2.out zo zo).mono ?_
        rintro e w23 ⟨rfl,q⟩;replace q:=zq (a:=w22) q;replace hc22:=hc22.below q;replace hokx:=hokx.below q;replace ho22:=ho22.below q;replace Bz:=bT Bz q;clear q;clear pa1;have pa2:=(zx HX0 Bz).cell 2 (.slice o.v.A o.v.n o.v.c) rfl;go_wp2_with fail
        have HGX:=OwnR.lt (OwnR.below ho22) g1 rfl;with_reducible refine(brep_eta (BsOk.below hokx) hrn (HNZ.out.below (bT hB (bT (b:=w23) Bz))) HZN.out HZI.out i5 zo (fun x hx=>by subst hx;exact HGX) HFN.out (zt hT hB Bz)).mono ?_
        rintro e w24 ⟨rfl,A2,hok2,ha2,hch⟩;replace hch:=(Ch.of_below (w:=w23) (by go_grown)).trans hch;have hpz:w23.heap.size≤w23.heap.size:=cA _;have hg1l:=OwnR.lt ho22 g1 rfl;have HA2:Hid (∀a,A2=some a→a.block≠g1):=zh fun a h9=>by have h8:w23.heap.size≤a.block:=ha2 a h9;omega
        obtain⟨xa,xb,xc,xd,xe,xf,xg,xh,hbx⟩:=BsOk.bxx hokx;have how2:=OwnR.chb ho22 hch (fun e=>hgb1 (Option.some.inj e));have hcv2:=CVs.chb hc22 ⟨xa,xb,xc,xd,xe,xf,xg,xh,hbx⟩ hch;replace HX0:=zh (hch.bx (zx HX0 Bz) (bx_neT zd (zx HX0 Bz) hbx));replace hB:=(bT hB Bz).trans (hch.below hbz (zi (zww hB Bz)));clear Bz hbx hch ha2 hg1l hpz hBR;clear ho22 hc22 hokx;have Bz:=zr w24;clear pa2;go_wp2_with fail
        have hz2:w.heap.size≤w24.heap.size:=zi (zww hB Bz);have hbl2:=BsOk.lt hok2;have hgl1:=OwnR.lt how2 g1 rfl;with_reducible refine(bokCols (BsOk.below hok2) (zt hT hB Bz)).mono ?_
        rintro e w25 ⟨g2,V2c,rfl,ho25,hc25,hm25,q⟩;replace q:=zq (a:=w24) q;replace hcv2:=hcv2.below q;replace hok2:=hok2.below q;replace how2:=how2.below q;replace Bz:=bT Bz q;clear q;have HM2:=zh (hm25.trans HCQ.out);have hgb2:g2≠bb:=zi (OwnR.base ho25 g2 rfl);have hg21:g2≠g1:=zi (OwnR.base ho25 g2 rfl);clear hgl1;replace ho25:=ho25.rebase hz2;clear hm25 hz2 hbl2;have pa2:=(zx HX0 Bz).cell 2 (.slice o.v.A o.v.n o.v.c) rfl;go_wp2_with fail
        have HGL:Hid (g1<w25.heap.size):=zh (OwnR.lt how2 g1 rfl);with_reducible refine(normO_q (HGZ.out.below (bT hB (bT (b:=w25) Bz))) zd zo (zt hT hB Bz)).mono ?_
        rintro e w26 ⟨A26,n26,c26,T,rfl,ht26,hn26,hq26,q⟩;replace q:=zq (a:=w25) q;replace hcv2:=hcv2.below q;replace hc25:=hc25.below q;replace hok2:=hok2.below q;replace how2:=how2.below q;replace ho25:=ho25.below q;replace Bz:=bT Bz q;clear q;have HTP:=zh (hq26.trans HZN.out.self);clear hq26;clear pa2;have pE0:=vc_cell how2 HVR.out;have fE0:=how2.frozen r;have y54:=how2.blk.1;go_upto_region 20 with(fail)
        have hcn:=own_cnb ht26 hn26;obtain⟨V22,hV,ho3,hc3,hg3⟩:=CVs.put hcv2 how2 HVR.out (X:=⟨A26,n26,c26,T⟩) (CN.tight hcn.1 (by show ∀y∈prs T,_;rw[HTP.out];exact HZS.out)) (fun a ha=>⟨(hcn.2 a ha).1,by have h1:=(hcn.2 a ha).2;have h2:=HGL.out;show a.block≠g1;omega⟩);rw[←hV];clear hV;have hnw:=(CVs.cmE hc25 ho25 HM2.out).offV how2 hg3 (fun a ha=>by obtain rfl:=Option.some.inj ha;exact hg21);have hok4:=BsOk.chV hok2 how2 hg3 (fun e=>hgb1 e.symm) HA2.out;have HM3:Hid ((V1c.set r ⟨A26,n26,c26,T⟩).map (fun v=>prs v.L)=CQ):=zh (by rw[sG,HM1.out,←HCQ.out];show C.set r (prs T)=_;rw[HTP.out]);have HOB:=OwnR.base how2 g1 rfl;replace hB:=(bT hB Bz).trans (hg3.below (zi (zww hB Bz)) (fun g' hg'=>by cases hg';show _≤g1;omega));clear how2 hcv2 hok2 ho25 hc25 ht26 hn26;clear HX0;clear hg3 Bz hcn HOB;have Bz:=zr V22;clear pE0 fE0 y54;go_wp2_with fail
        with_reducible refine(sameVecs_q (C:=CQ) (D:=CQ) (CM.below hnw) (CVs.cmE (CVs.below hc3) (OwnR.below ho3) HM3.out) HLQ.out HLQ.out zd zd zo zo true (zh (fA rfl))).mono ?_
        rintro e w27 ⟨rfl,q⟩;replace q:=zq (a:=V22) q;replace hok4:=hok4.below q;replace Bz:=bT Bz q;clear q;go_wp2_with fail
        go_roundg (min ns 12-(i+1))
        case measure=>have:=HGK.out;omega
        case rel=>exact⟨i+1,(ne+1),_,_,zo,rfl,by go_num,BsOk.below hok4,bT (bT hB Bz)⟩
       ·have i6:=i5;have hfr:=hok.free;have hBR:=Below.refl wr.heap.size wr;have Bz:=zr wr;obtain⟨pA0,pA1,pA2,-⟩:=(hnd.below (bT hB Bz)).ez;go_upto_region 11 with(fail)
        obtain⟨V21,hW,x0,hN⟩:=zAd wr #[.int .i64 o.k,.int .i64 o.n,.slice o.v.A o.v.n o.v.c] 65;rw[←hW];clear hW;obtain⟨v0,hb0⟩:=ze wr.heap.size;rw[←hb0] at x0 ⊢;have ow_0:w.heap.size≤v0:=zi (zww hB Bz);replace hfr:=hfr.below hN;replace hok:=hok.below hN;replace hB:=bT (bT hB Bz) hN;replace hBR:=bT (bT hBR Bz) hN;have HX0:=zh x0;clear x0 hN Bz hb0;have Bz:=zr V21;clear pA0 pA1 pA2;have pa2:=(zx HX0 Bz).cell 2 (.slice o.v.A o.v.n o.v.c) rfl;go_wp2_with fail
        with_reducible refine(shortVec_q ((VgIn.sl HOV.out).below (bT hB (bT (b:=V21) Bz))) (zh fun t ht=>tm_lens (VgIn.tms HOV.out t ht)) hon 10 2 true SO).mono ?_
        rintro e w21 ⟨rfl,q⟩;replace q:=zq (a:=V21) q;replace hfr:=hfr.below q;replace hok:=hok.below q;replace Bz:=bT Bz q;clear q;clear pa2;go_wp2_with fail
        have hz1:w.heap.size≤w21.heap.size:=zi (zww hB Bz);have hbl1:=BsOk.lt hok;have hzr:wr.heap.size≤w21.heap.size:=zj hBR.size Bz.size;with_reducible refine(bokCols (BsOk.below hok) (zt hT hB Bz)).mono ?_
        rintro e w22 ⟨g1,V1c,rfl,ho22,hc22,hm22,q⟩;replace q:=zq (a:=w21) q;replace hfr:=hfr.below q;replace Bz:=bT Bz q;clear q;have HM1:=zh hm22;have hgb1:g1≠bb:=zi (OwnR.base ho22 g1 rfl);obtain⟨y0,hy0⟩:=HY0.out V1c (ho22.eltn elt_vcs zo);have HVR:=zh hy0;clear hy0;have hgr:wr.heap.size≤g1:=zi (OwnR.base ho22 g1 rfl);clear hzr;replace ho22:=ho22.rebase hz1;clear hm22 hz1 hbl1;have pa1:=(zx HX0 Bz).cell 1 (.int .i64 o.n) rfl;have hokx:=hfr g1 hgr;clear hgr hfr;go_wp2_with fail
        with_reducible refine(pickN o.n nl (nl:Int) rfl r HPR HOV2.out zo zo).mono ?_
        rintro e w23 ⟨rfl,q⟩;replace q:=zq (a:=w22) q;replace hc22:=hc22.below q;replace hokx:=hokx.below q;replace ho22:=ho22.below q;replace Bz:=bT Bz q;clear q;clear pa1;have pa2:=(zx HX0 Bz).cell 2 (.slice o.v.A o.v.n o.v.c) rfl;go_wp2_with fail
        with_reducible refine(brep_fac (BsOk.below hokx) hrn (HNZ.out.below (bT hB (bT (b:=w23) Bz))) HZN.out HZI.out i5 HFN.out (zt hT hB Bz)).mono ?_
        rintro e w24 ⟨rfl,A2,hok2,ha2,hch⟩;replace hch:=(Ch.of_below (w:=w23) (by go_grown)).trans hch;have hpz:w23.heap.size≤w23.heap.size:=cA _;have hg1l:=OwnR.lt ho22 g1 rfl;have HA2:Hid (∀a,A2=some a→a.block≠g1):=zh fun a h9=>by have h8:w23.heap.size≤a.block:=ha2 a h9;omega
        obtain⟨xa,xb,xc,xd,xe,xf,xg,xh,hbx⟩:=BsOk.bxx hokx;have how2:=OwnR.chb ho22 hch (fun e=>hgb1 (Option.some.inj e));have hcv2:=CVs.chb hc22 ⟨xa,xb,xc,xd,xe,xf,xg,xh,hbx⟩ hch;replace HX0:=zh (hch.bx (zx HX0 Bz) (bx_neT zd (zx HX0 Bz) hbx));replace hB:=(bT hB Bz).trans (hch.below hbz (zi (zww hB Bz)));clear Bz hbx hch ha2 hg1l hpz hBR;clear ho22 hc22 hokx;have Bz:=zr w24;clear pa2;go_wp2_with fail
        have hz2:w.heap.size≤w24.heap.size:=zi (zww hB Bz);have hbl2:=BsOk.lt hok2;have hgl1:=OwnR.lt how2 g1 rfl;with_reducible refine(bokCols (BsOk.below hok2) (zt hT hB Bz)).mono ?_
        rintro e w25 ⟨g2,V2c,rfl,ho25,hc25,hm25,q⟩;replace q:=zq (a:=w24) q;replace hcv2:=hcv2.below q;replace hok2:=hok2.below q;replace how2:=how2.below q;replace Bz:=bT Bz q;clear q;have HM2:=zh (hm25.trans HCQ.out);have hgb2:g2≠bb:=zi (OwnR.base ho25 g2 rfl);have hg21:g2≠g1:=zi (OwnR.base ho25 g2 rfl);clear hgl1;replace ho25:=ho25.rebase hz2;clear hm25 hz2 hbl2;have pa2:=(zx HX0 Bz).cell 2 (.slice o.v.A o.v.n o.v.c) rfl;go_wp2_with fail
        have HGL:Hid (g1<w25.heap.size):=zh (OwnR.lt how2 g1 rfl);with_reducible refine(normO_q (HGZ.out.below (bT hB (bT (b:=w25) Bz))) zd zo (zt hT hB Bz)).mono ?_
        rintro e w26 ⟨A26,n26,c26,T,rfl,ht26,hn26,hq26,q⟩;replace q:=zq (a:=w25) q;replace hcv2:=hcv2.below q;replace hc25:=hc25.below q;replace hok2:=hok2.below q;replace how2:=how2.below q;replace ho25:=ho25.below q;replace Bz:=bT Bz q;clear q;have HTP:=zh (hq26.trans HZN.out.self);clear hq26;clear pa2;have pE0:=vc_cell how2 HVR.out;have fE0:=how2.frozen r;have y54:=how2.blk.1;go_upto_region 20 with(fail)
        have hcn:=own_cnb ht26 hn26;obtain⟨V22,hV,ho3,hc3,hg3⟩:=CVs.put hcv2 how2 HVR.out (X:=⟨A26,n26,c26,T⟩) (CN.tight hcn.1 (by show ∀y∈prs T,_;rw[HTP.out];exact HZS.out)) (fun a ha=>⟨(hcn.2 a ha).1,by have h1:=(hcn.2 a ha).2;have h2:=HGL.out;show a.block≠g1;omega⟩);rw[←hV];clear hV;have hnw:=(CVs.cmE hc25 ho25 HM2.out).offV how2 hg3 (fun a ha=>by obtain rfl:=Option.some.inj ha;exact hg21);have hok4:=BsOk.chV hok2 how2 hg3 (fun e=>hgb1 e.symm) HA2.out;have HM3:Hid ((V1c.set r ⟨A26,n26,c26,T⟩).map (fun v=>prs v.L)=CQ):=zh (by rw[sG,HM1.out,←HCQ.out];show C.set r (prs T)=_;rw[HTP.out]);have HOB:=OwnR.base how2 g1 rfl;replace hB:=(bT hB Bz).trans (hg3.below (zi (zww hB Bz)) (fun g' hg'=>by cases hg';show _≤g1;omega));clear how2 hcv2 hok2 ho25 hc25 ht26 hn26;clear HX0;clear hg3 Bz hcn HOB;have Bz:=zr V22;clear pE0 fE0 y54;go_wp2_with fail
        with_reducible refine(sameVecs_q (C:=CQ) (D:=CQ) (CM.below hnw) (CVs.cmE (CVs.below hc3) (OwnR.below ho3) HM3.out) HLQ.out HLQ.out zd zd zo zo true (zh (fA rfl))).mono ?_
        rintro e w27 ⟨rfl,q⟩;replace q:=zq (a:=V22) q;replace hok4:=hok4.below q;replace Bz:=bT Bz q;clear q;go_wp2_with fail
        go_roundg (min ns 12-(i+1))
        case measure=>have:=HGK.out;omega
        case rel=>exact⟨i+1,0,_,_,zo,rfl,by go_num,BsOk.below hok4,bT (bT hB Bz)⟩
  ·have HIM:Hid (i=min ns 12):=zh zo;have HRC:=zh hok.rc;have HSM:=zh hok.fac;have HSZ:Hid (∀x∈C,∀y∈x,sz y.2+1≤4):=zh fun x hx=>(hok.szs x hx).2;have HCS:=zh hok.szs;have HCT:Hid (∀x∈C,(Rise x∧∀y∈x,sz y.2+1≤4)∧x.length≤14):=zh fun x hx=>⟨hok.szs x hx,nA (hok.lens x hx) zo⟩;have HLM:Hid (∀x∈C,x.length≤1000):=zh fun x hx=>nA (hok.lens x hx) zo;have HFM:Hid (facM 4 nl≤3600000012):=zh (nA (facM_mono 4 hnl) zd);have HLN:=zh hok.len;have HIN:Hid (∀c∈C,∀x∈c,0≤x.1∧x.1<(nl:Int)):=zh fun c hc=>(rightC_iff.1 HRC.out c hc).2;go_upto_region 8 with(fail)
   go_cut [69] (fun p wx=>p=.bool false∧Below wr.heap.size wr wx)
   case first =>
    by_cases h12:i<ns
    ·have i1:(i:Int)<(ns:Int):=zo;have i2:¬(i:Int)<12:=zi HIM.out;go_wp2_with fail
     go_meet
     case rel=>exact⟨rfl,by go_grown⟩
    ·have i1:¬(i:Int)<(ns:Int):=zo;go_wp2_with fail
     go_meet
     case rel=>exact⟨rfl,by go_grown⟩
   case rest =>
    obtain⟨rfl,hB2⟩:=hcut;obtain⟨wy,rfl,hB3⟩:∃wy,wy=_∧Below wr.heap.size wr wy:=⟨_,rfl,hB2⟩;replace hB:=bT hB hB3;replace hok:=hok.below hB3;clear hB2 hB3 HSS HSL hsi;cases fx:fitsB nl (nrm (prs LX))<;>cases fy:fitsB nl (nrm (prs LY))
    ·have HNF:=zh fx;have HNB:=zh fy;have Bz:=zr wy;go_wp2_with fail
     with_reducible refine(bokCols (BsOk.below hok) (zt hT hB Bz)).mono ?_
     rintro e w61 ⟨g1,V1c,rfl,ho61,hc61,hm61,q⟩;replace q:=zq (a:=wy) q;replace hok:=hok.below q;replace Bz:=bT Bz q;clear q;have hcm:=CM.tight (CVs.cmE hc61 ho61 hm61) HSZ.out;clear hc61 ho61 hm61;go_wp2_with fail
     with_reducible refine(factorOk (C:=C) (CM.below hcm) HLM.out zo HFM.out HRC.out HSM.out (nl:Int) rfl (zt hT hB Bz)).mono ?_
     rintro e w62 ⟨fb,rfl,h62,q⟩;replace q:=zq (a:=w61) q;replace hok:=hok.below q;replace Bz:=bT Bz q;clear q;go_wp2_with fail
     with_reducible refine(bokF_no (BsOk.below hok) (HGX.out.below (bT hB (bT (b:=w62) Bz))) zd zd zo HNF.out (zt hT hB Bz)).mono ?_
     rintro e w63 ⟨rfl,q⟩;replace q:=zq (a:=w62) q;replace hok:=hok.below q;replace h62:=h62.below q;replace Bz:=bT Bz q;clear q;go_wp2_with fail
     with_reducible refine(bokB_no (BsOk.below hok) (HGY.out.below (bT hB (bT (b:=w63) Bz))) zd zd zo HNB.out (zt hT hB Bz)).mono ?_
     rintro e w64 ⟨rfl,q⟩;replace q:=zq (a:=w63) q;replace h62:=h62.below q;replace Bz:=bT Bz q;clear q;go_wp2_with fail
     with_reducible refine(ftranC_no (LuAt.below h62) (HGX.out.below (bT hB (bT (b:=w64) Bz))) zd zd zo zo HNF.out (zt hT hB Bz)).mono ?_
     rintro e w65 ⟨rfl,q⟩;replace q:=zq (a:=w64) q;replace h62:=h62.below q;replace Bz:=bT Bz q;clear q;go_wp2_with fail
     with_reducible refine(btranC_no (LuAt.below h62) (HGY.out.below (bT hB (bT (b:=w65) Bz))) zd zd zo zo HNB.out (zt hT hB Bz)).mono ?_
     rintro e w66 ⟨rfl,q⟩;replace q:=zq (a:=w65) q;replace Bz:=bT Bz q;clear q;go_wp2_with fail
     with_reducible refine(sameVec_q (P:=([]:List (Int×Rat))) (Q:=[]) (nv_nil _ 1) (nv_nil _ 1) zd zd zo zo true (dec_eqL rfl)).mono ?_
     rintro e w67 ⟨rfl,q⟩;replace q:=zq (a:=w66) q;replace Bz:=bT Bz q;clear q;go_wp2_with fail
     with_reducible refine(sameVec_q (P:=([]:List (Int×Rat))) (Q:=[]) (nv_nil _ 1) (nv_nil _ 1) zd zd zo zo true (dec_eqL rfl)).mono ?_
     rintro e w68 ⟨rfl,q⟩;replace q:=zq (a:=w67) q;replace Bz:=bT Bz q;clear q;go_wp2_with fail
     with_reducible refine(awake8_q (zt hT hB Bz)).mono ?_
     rintro e w69 ⟨rfl,q⟩;replace q:=zq (a:=w68) q;replace Bz:=bT Bz q;clear q;go_wp2_with fail
     go_ret
     have hF:=bT (c:=w69) hB Bz;exact⟨rfl,bT hF⟩
    ·have HNF:=zh fx;have HNB:=zh fy;have HL2:=zh (lawS2 HLN.out HIN.out HSM.out HNB.out);have Bz:=zr wy;go_wp2_with fail
     with_reducible refine(bokCols (BsOk.below hok) (zt hT hB Bz)).mono ?_
     rintro e w61 ⟨g1,V1c,rfl,ho61,hc61,hm61,q⟩;replace q:=zq (a:=wy) q;replace hok:=hok.below q;replace Bz:=bT Bz q;clear q;have hcm:=CM.tight (CVs.cmE hc61 ho61 hm61) HSZ.out;clear hc61 ho61 hm61;go_wp2_with fail
     with_reducible refine(factorOk (C:=C) (CM.below hcm) HLM.out zo HFM.out HRC.out HSM.out (nl:Int) rfl (zt hT hB Bz)).mono ?_
     rintro e w62 ⟨fb,rfl,h62,q⟩;replace q:=zq (a:=w61) q;replace hcm:=hcm.below q;replace hok:=hok.below q;replace Bz:=bT Bz q;clear q;go_wp2_with fail
     with_reducible refine(bokF_no (BsOk.below hok) (HGX.out.below (bT hB (bT (b:=w62) Bz))) zd zd zo HNF.out (zt hT hB Bz)).mono ?_
     rintro e w63 ⟨rfl,q⟩;replace q:=zq (a:=w62) q;replace hcm:=hcm.below q;replace hok:=hok.below q;replace h62:=h62.below q;replace Bz:=bT Bz q;clear q;go_wp2_with fail
     with_reducible refine(bokB (BsOk.below hok) zo (HGY.out.below (bT hB (bT (b:=w63) Bz))) zd zd zo HNB.out (zt hT hB Bz)).mono ?_
     rintro e w64 ⟨A64,n64,c64,rfl,h64,l64,q⟩;replace q:=zq (a:=w63) q;replace hcm:=hcm.below q;replace h62:=h62.below q;replace Bz:=bT Bz q;clear q;go_wp2_with fail
     with_reducible refine(ftranC_no (LuAt.below h62) (HGX.out.below (bT hB (bT (b:=w64) Bz))) zd zd zo zo HNF.out (zt hT hB Bz)).mono ?_
     rintro e w65 ⟨rfl,q⟩;replace q:=zq (a:=w64) q;replace hcm:=hcm.below q;replace h62:=h62.below q;replace h64:=h64.below q;replace Bz:=bT Bz q;clear q;go_wp2_with fail
     with_reducible refine(btranS (LuAt.below h62) HCS.out (HGY.out.below (bT hB (bT (b:=w65) Bz))) zd zd zo zo HNB.out (zt hT hB Bz)).mono ?_
     rintro e w66 ⟨A66,n66,c66,rfl,h66,l66,q⟩;replace q:=zq (a:=w65) q;replace hcm:=hcm.below q;replace h64:=h64.below q;replace Bz:=bT Bz q;clear q;go_wp2_with fail
     with_reducible refine(sameVec_q (P:=([]:List (Int×Rat))) (Q:=[]) (nv_nil _ 1) (nv_nil _ 1) zd zd zo zo true (dec_eqL rfl)).mono ?_
     rintro e w67 ⟨rfl,q⟩;replace q:=zq (a:=w66) q;replace hcm:=hcm.below q;replace h64:=h64.below q;replace h66:=h66.below q;replace Bz:=bT Bz q;clear q;go_wp2_with fail
     with_reducible refine(sameVec_q (NV.below h64) (NV.below h66) zd zd zo zo true (dec_eqL rfl)).mono ?_
     rintro e w68 ⟨rfl,q⟩;replace q:=zq (a:=w67) q;replace hcm:=hcm.below q;replace h64:=h64.below q;replace Bz:=bT Bz q;clear q;go_wp2_with fail
     with_reducible refine(leftS (CM.below hcm) HCT.out (NV.below h64) (lay_nrm _ _) zo zo (zt hT hB Bz)).mono ?_
     rintro e w69 ⟨A69,n69,c69,rfl,h69,l69,q⟩;replace q:=zq (a:=w68) q;replace Bz:=bT Bz q;clear q;go_wp2_with fail
     with_reducible refine(normW 40 10 (HGY.out.below (bT hB (bT (b:=w69) Bz))) hny zd zd (zt hT hB Bz)).mono ?_
     rintro e w70 ⟨A70,n70,c70,rfl,h70,l70,q⟩;replace q:=zq (a:=w69) q;replace h69:=h69.below q;replace Bz:=bT Bz q;clear q;go_wp2_with fail
     with_reducible refine(sameVec_q (NV.below h69) (NV.below h70) zd zd zo zo true (dec_eqL HL2.out)).mono ?_
     rintro e w71 ⟨rfl,q⟩;replace q:=zq (a:=w70) q;replace Bz:=bT Bz q;clear q;go_wp2_with fail
     with_reducible refine(awake8_q (zt hT hB Bz)).mono ?_
     rintro e w72 ⟨rfl,q⟩;replace q:=zq (a:=w71) q;replace Bz:=bT Bz q;clear q;go_wp2_with fail
     go_ret
     have hF:=bT (c:=w72) hB Bz;exact⟨rfl,bT hF⟩
    ·have HNF:=zh fx;have HNB:=zh fy;have HL1:=zh (lawS1 HLN.out HIN.out HSM.out HNF.out);have Bz:=zr wy;go_wp2_with fail
     with_reducible refine(bokCols (BsOk.below hok) (zt hT hB Bz)).mono ?_
     rintro e w61 ⟨g1,V1c,rfl,ho61,hc61,hm61,q⟩;replace q:=zq (a:=wy) q;replace hok:=hok.below q;replace Bz:=bT Bz q;clear q;have hcm:=CM.tight (CVs.cmE hc61 ho61 hm61) HSZ.out;clear hc61 ho61 hm61;go_wp2_with fail
     with_reducible refine(factorOk (C:=C) (CM.below hcm) HLM.out zo HFM.out HRC.out HSM.out (nl:Int) rfl (zt hT hB Bz)).mono ?_
     rintro e w62 ⟨fb,rfl,h62,q⟩;replace q:=zq (a:=w61) q;replace hcm:=hcm.below q;replace hok:=hok.below q;replace Bz:=bT Bz q;clear q;go_wp2_with fail
     with_reducible refine(bokF (BsOk.below hok) (HGX.out.below (bT hB (bT (b:=w62) Bz))) zd zd zo HNF.out (zt hT hB Bz)).mono ?_
     rintro e w63 ⟨A63,n63,c63,rfl,h63,l63,q⟩;replace q:=zq (a:=w62) q;replace hcm:=hcm.below q;replace hok:=hok.below q;replace h62:=h62.below q;replace Bz:=bT Bz q;clear q;go_wp2_with fail
     with_reducible refine(bokB_no (BsOk.below hok) (HGY.out.below (bT hB (bT (b:=w63) Bz))) zd zd zo HNB.out (zt hT hB Bz)).mono ?_
     rintro e w64 ⟨rfl,q⟩;replace q:=zq (a:=w63) q;replace hcm:=hcm.below q;replace h62:=h62.below q;replace h63:=h63.below q;replace Bz:=bT Bz q;clear q;go_wp2_with fail
     with_reducible refine(ftranS (LuAt.below h62) HCS.out (HGX.out.below (bT hB (bT (b:=w64) Bz))) zd zd zo zo HNF.out (zt hT hB Bz)).mono ?_
     rintro e w65 ⟨A65,n65,c65,rfl,h65,l65,q⟩;replace q:=zq (a:=w64) q;replace hcm:=hcm.below q;replace h62:=h62.below q;replace h63:=h63.below q;replace Bz:=bT Bz q;clear q;go_wp2_with fail
     with_reducible refine(btranC_no (LuAt.below h62) (HGY.out.below (bT hB (bT (b:=w65) Bz))) zd zd zo zo HNB.out (zt hT hB Bz)).mono ?_
     rintro e w66 ⟨rfl,q⟩;replace q:=zq (a:=w65) q;replace hcm:=hcm.below q;replace h63:=h63.below q;replace h65:=h65.below q;replace Bz:=bT Bz q;clear q;go_wp2_with fail
     with_reducible refine(sameVec_q (NV.below h63) (NV.below h65) zd zd zo zo true (dec_eqL rfl)).mono ?_
     rintro e w67 ⟨rfl,q⟩;replace q:=zq (a:=w66) q;replace hcm:=hcm.below q;replace h63:=h63.below q;replace Bz:=bT Bz q;clear q;go_wp2_with fail
     with_reducible refine(sameVec_q (P:=([]:List (Int×Rat))) (Q:=[]) (nv_nil _ 1) (nv_nil _ 1) zd zd zo zo true (dec_eqL rfl)).mono ?_
     rintro e w68 ⟨rfl,q⟩;replace q:=zq (a:=w67) q;replace hcm:=hcm.below q;replace h63:=h63.below q;replace Bz:=bT Bz q;clear q;go_wp2_with fail
     with_reducible refine(timesS (CM.below hcm) HCT.out (NV.below h63) (lay_nrm _ _) zo zo (zt hT hB Bz)).mono ?_
     rintro e w69 ⟨A69,n69,c69,rfl,h69,l69,q⟩;replace q:=zq (a:=w68) q;replace Bz:=bT Bz q;clear q;go_wp2_with fail
     with_reducible refine(normW 40 10 (HGX.out.below (bT hB (bT (b:=w69) Bz))) hnx zd zd (zt hT hB Bz)).mono ?_
     rintro e w70 ⟨A70,n70,c70,rfl,h70,l70,q⟩;replace q:=zq (a:=w69) q;replace h69:=h69.below q;replace Bz:=bT Bz q;clear q;go_wp2_with fail
     with_reducible refine(sameVec_q (NV.below h69) (NV.below h70) zd zd zo zo true (dec_eqL HL1.out)).mono ?_
     rintro e w71 ⟨rfl,q⟩;replace q:=zq (a:=w70) q;replace Bz:=bT Bz q;clear q;go_wp2_with fail
     with_reducible refine(awake8_q (zt hT hB Bz)).mono ?_
     rintro e w72 ⟨rfl,q⟩;replace q:=zq (a:=w71) q;replace Bz:=bT Bz q;clear q;go_wp2_with fail
     go_ret
     have hF:=bT (c:=w72) hB Bz;exact⟨rfl,bT hF⟩
    ·have HNF:=zh fx;have HNB:=zh fy;have HL1:=zh (lawS1 HLN.out HIN.out HSM.out HNF.out);have HL2:=zh (lawS2 HLN.out HIN.out HSM.out HNB.out);have Bz:=zr wy;go_wp2_with fail
     with_reducible refine(bokCols (BsOk.below hok) (zt hT hB Bz)).mono ?_
     rintro e w61 ⟨g1,V1c,rfl,ho61,hc61,hm61,q⟩;replace q:=zq (a:=wy) q;replace hok:=hok.below q;replace Bz:=bT Bz q;clear q;have hcm:=CM.tight (CVs.cmE hc61 ho61 hm61) HSZ.out;clear hc61 ho61 hm61;go_wp2_with fail
     with_reducible refine(factorOk (C:=C) (CM.below hcm) HLM.out zo HFM.out HRC.out HSM.out (nl:Int) rfl (zt hT hB Bz)).mono ?_
     rintro e w62 ⟨fb,rfl,h62,q⟩;replace q:=zq (a:=w61) q;replace hcm:=hcm.below q;replace hok:=hok.below q;replace Bz:=bT Bz q;clear q;go_wp2_with fail
     with_reducible refine(bokF (BsOk.below hok) (HGX.out.below (bT hB (bT (b:=w62) Bz))) zd zd zo HNF.out (zt hT hB Bz)).mono ?_
     rintro e w63 ⟨A63,n63,c63,rfl,h63,l63,q⟩;replace q:=zq (a:=w62) q;replace hcm:=hcm.below q;replace hok:=hok.below q;replace h62:=h62.below q;replace Bz:=bT Bz q;clear q;go_wp2_with fail
     with_reducible refine(bokB (BsOk.below hok) zo (HGY.out.below (bT hB (bT (b:=w63) Bz))) zd zd zo HNB.out (zt hT hB Bz)).mono ?_
     rintro e w64 ⟨A64,n64,c64,rfl,h64,l64,q⟩;replace q:=zq (a:=w63) q;replace hcm:=hcm.below q;replace h62:=h62.below q;replace h63:=h63.below q;replace Bz:=bT Bz q;clear q;go_wp2_with fail
     with_reducible refine(ftranS (LuAt.below h62) HCS.out (HGX.out.below (bT hB (bT (b:=w64) Bz))) zd zd zo zo HNF.out (zt hT hB Bz)).mono ?_
     rintro e w65 ⟨A65,n65,c65,rfl,h65,l65,q⟩;replace q:=zq (a:=w64) q;replace hcm:=hcm.below q;replace h62:=h62.below q;replace h63:=h63.below q;replace h64:=h64.below q;replace Bz:=bT Bz q;clear q;go_wp2_with fail
     with_reducible refine(btranS (LuAt.below h62) HCS.out (HGY.out.below (bT hB (bT (b:=w65) Bz))) zd zd zo zo HNB.out (zt hT hB Bz)).mono ?_
     rintro e w66 ⟨A66,n66,c66,rfl,h66,l66,q⟩;replace q:=zq (a:=w65) q;replace hcm:=hcm.below q;replace h63:=h63.below q;replace h64:=h64.below q;replace h65:=h65.below q;replace Bz:=bT Bz q;clear q;go_wp2_with fail
     with_reducible refine(sameVec_q (NV.below h63) (NV.below h65) zd zd zo zo true (dec_eqL rfl)).mono ?_
     rintro e w67 ⟨rfl,q⟩;replace q:=zq (a:=w66) q;replace hcm:=hcm.below q;replace h63:=h63.below q;replace h64:=h64.below q;replace h66:=h66.below q;replace Bz:=bT Bz q;clear q;go_wp2_with fail
     with_reducible refine(sameVec_q (NV.below h64) (NV.below h66) zd zd zo zo true (dec_eqL rfl)).mono ?_
     rintro e w68 ⟨rfl,q⟩;replace q:=zq (a:=w67) q;replace hcm:=hcm.below q;replace h63:=h63.below q;replace h64:=h64.below q;replace Bz:=bT Bz q;clear q;go_wp2_with fail
     with_reducible refine(timesS (CM.below hcm) HCT.out (NV.below h63) (lay_nrm _ _) zo zo (zt hT hB Bz)).mono ?_
     rintro e w69 ⟨A69,n69,c69,rfl,h69,l69,q⟩;replace q:=zq (a:=w68) q;replace hcm:=hcm.below q;replace h64:=h64.below q;replace Bz:=bT Bz q;clear q;go_wp2_with fail
     with_reducible refine(normW 40 10 (HGX.out.below (bT hB (bT (b:=w69) Bz))) hnx zd zd (zt hT hB Bz)).mono ?_
     rintro e w70 ⟨A70,n70,c70,rfl,h70,l70,q⟩;replace q:=zq (a:=w69) q;replace hcm:=hcm.below q;replace h64:=h64.below q;replace h69:=h69.below q;replace Bz:=bT Bz q;clear q;go_wp2_with fail
     with_reducible refine(sameVec_q (NV.below h69) (NV.below h70) zd zd zo zo true (dec_eqL HL1.out)).mono ?_
     rintro e w71 ⟨rfl,q⟩;replace q:=zq (a:=w70) q;replace hcm:=hcm.below q;replace h64:=h64.below q;replace Bz:=bT Bz q;clear q;go_wp2_with fail
     with_reducible refine(leftS (CM.below hcm) HCT.out (NV.below h64) (lay_nrm _ _) zo zo (zt hT hB Bz)).mono ?_
     rintro e w72 ⟨A72,n72,c72,rfl,h72,l72,q⟩;replace q:=zq (a:=w71) q;replace Bz:=bT Bz q;clear q;go_wp2_with fail
     with_reducible refine(normW 40 10 (HGY.out.below (bT hB (bT (b:=w72) Bz))) hny zd zd (zt hT hB Bz)).mono ?_
     rintro e w73 ⟨A73,n73,c73,rfl,h73,l73,q⟩;replace q:=zq (a:=w72) q;replace h72:=h72.below q;replace Bz:=bT Bz q;clear q;go_wp2_with fail
     with_reducible refine(sameVec_q (NV.below h72) (NV.below h73) zd zd zo zo true (dec_eqL HL2.out)).mono ?_
     rintro e w74 ⟨rfl,q⟩;replace q:=zq (a:=w73) q;replace Bz:=bT Bz q;clear q;go_wp2_with fail
     with_reducible refine(awake8_q (zt hT hB Bz)).mono ?_
     rintro e w75 ⟨rfl,q⟩;replace q:=zq (a:=w74) q;replace Bz:=bT Bz q;clear q;go_wp2_with fail
     go_ret
     have hF:=bT (c:=w75) hB Bz;exact⟨rfl,bT hF⟩
end Go.Proofs.YtfpbmpllildbaaaGreatDoor
