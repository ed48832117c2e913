import Derived.Test.YtfpbmpllildbaaaGreatDoorYRdT
import Derived.Test.YtfpbmpllildbaaaGreatDoorYMx5
namespace Go.Proofs.YtfpbmpllildbaaaGreatDoor
open Go.RowKit Tw
theorem VgIn.below {w w':World} {v:Vc} (h:VgIn w v) (hb:Below w.heap.size w w':=by go_grown):Sl Tm.cs 5 w' v.A v.n v.c v.L∧v.n≤9223372036854775807∧∀x∈v.L,x.x.l≤9223372036854775807∧x.x.l'≤9223372036854775807 :=
 ⟨h.2.1.below hb,by have:=h.1;unfold maxLen at this;omega,fun x hx=>tm_lens (h.2.2.1 x hx)⟩
theorem VgIn.sl {w:World} {v:Vc} (h:VgIn w v):Sl Tm.cs 5 w v.A v.n v.c v.L:=h.2.1
theorem vg_lens {w:World} {v:Vc} (h:Sl Tm.cs 5 w v.A v.n v.c v.L∧v.n≤9223372036854775807∧∀x∈v.L,x.x.l≤9223372036854775807∧x.x.l'≤9223372036854775807):Sl Tm.cs 5 w v.A v.n v.c v.L∧v.n≤9223372036854775807∧∀x∈v.L,x.x.l≤9223372036854775807∧x.x.l'≤9223372036854775807:=h
theorem cw_small {w:World} {A:Option Addr} {n c k cnt most:Nat} {CL:List Vc} (h:Sl Vc.cs 1 w A n c CL) (hi:∀v∈CL,VgIn w v) (hs:shortVcs (k:Int) (cnt:Int) (most:Int) n CL=true):CW w A n c (CL.map fun v=>prs v.L) ((most+2)*cnt)∧n≤k∧∀x∈CL.map (fun v=>prs v.L),x.length≤cnt∧wtot x≤cnt*(most+2):=by
 unfold shortVcs at hs
 simp only[wB,dC,nC] at hs
 refine⟨⟨CL,h,fun v hv=>(gv_small (hi v hv).2.1 (hi v hv).2.2.1 (hi v hv).2.2.2 (hs.2 v hv)).1,rfl⟩,zo,fun x hx=>?_⟩;obtain⟨v,hv,rfl⟩:=yB.1 hx;have h1:=gv_small (hi v hv).2.1 (hi v hv).2.2.1 (hi v hv).2.2.2 (hs.2 v hv);have h2:=h1.1.len;refine⟨zo,nA (wtot_le (sz_small (hi v hv).2.2.1 (hs.2 v hv))) (cB _ zo)⟩
theorem cm_right {w:World} {A:Option Addr} {n c k cnt most:Nat} {CL:List Vc} {m:Int} (h:Sl Vc.cs 1 w A n c CL) (hi:∀v∈CL,VgIn w v) (hs:shortVcs (k:Int) (cnt:Int) (most:Int) n CL=true) (hr:(CL.all fun v=>rightB v.L m)=true):CM w A n c (CL.map fun v=>prs v.L) (most+2)∧∀x∈CL.map (fun v=>prs v.L),Nrm x∧∀y∈x,0≤y.1∧y.1<m:=by
 unfold shortVcs at hs
 simp only[wB,dC,nC] at hs
 refine⟨⟨CL,h,fun v hv=>⟨(hi v hv).2.1,fun t ht=>?_,(hi v hv).2.2.2⟩,rfl⟩,fun x hx=>?_⟩
 ·have h1:=(rightB_nrm (nC.1 hr v hv)).2 t ht;have h2:=((hi v hv).2.2.1 t ht).1.2.2 (dgT t) (by unfold dgT;omega) (by unfold dgT;omega);exact⟨h2.rn.1 h1.2.2,h1.2.2,sz_small (hi v hv).2.2.1 (hs.2 v hv) (t.at_,t.x.q) (uC (f:=fun t:Tm=>(t.at_,t.x.q)) ht)⟩
 ·obtain⟨v,hv,rfl⟩:=yB.1 hx;have h1:=rightB_nrm (nC.1 hr v hv);refine⟨h1.1,fun y hy=>?_⟩;obtain⟨t,ht,rfl⟩:=prs_mem hy;exact⟨(h1.2 t ht).1,(h1.2 t ht).2.1⟩
theorem right_frk {w:World} {n k cnt most:Nat} {CL:List Vc} (hi:∀v∈CL,VgIn w v) (hs:shortVcs (k:Int) (cnt:Int) (most:Int) n CL=true):∀v∈CL,∀t∈v.L,FrOk w most t.x:=fun v hv t ht=>by
 unfold shortVcs at hs
 simp only[wB,dC,nC] at hs
 have h1:=hs.2 v hv;unfold shortVc at h1
 simp only[wB,dC,nC] at h1
 have h2:=h1.2 t ht;unfold shortFr at h2
 simp only[wB,dC] at h2
 exact((hi v hv).2.2.1 t ht).1.2.2 most zo zo
theorem right_nk {n k cnt most:Nat} {CL:List Vc} (hs:shortVcs (k:Int) (cnt:Int) (most:Int) n CL=true):∀v∈CL,v.n≤cnt:=fun v hv=>by
 unfold shortVcs at hs
 simp only[wB,dC,nC] at hs
 have h1:=hs.2 v hv;unfold shortVc at h1
 simp only[wB,dC,nC] at h1
 omega
def TellsL14 (w:World) (P:List (Int×Rat)) (e:Ending) (w':World):Prop:=∃A m c,e=.returned (.tuple #[.slice A m c,.int .i64 0])∧NV w' A m c P 500000000∧m≤14∧Below w.heap.size w w'
theorem layF_len {n:Nat} (F:Int→Rat):(layF n F).length≤n:=nA (nrm_len _) (by rw[idx_len,nB,pF];exact cA _)
theorem ma_small {C:List (List (Int×Rat))} (h:∀x∈C,Rise x∧∀y∈x,sz y.2+1≤4) (j a:Int):sz (mA C j a)≤3:=by
 unfold mA
 rw[dA];cases e:C[a.toNat]? with
 | none=>exact nA sz_zero zd
 | some c =>
  by_cases h0:pget c j=0
  ·show sz (pget c j)≤3
   rw[h0];exact nA sz_zero zd
  ·obtain⟨t,ht,rfl⟩:=pget_mem h0;have h1:=h c (eA e);have h2:=h1.2 t ht;show sz (pget c t.1)≤3
   rw[h1.1.get ht];omega
theorem ftranS {w:World} {fb n bn bc S:Nat} {C:List (List (Int×Rat))} {X:Option Addr} {P:List (Int×Rat)} (h:LuAt w fb n 4 C) (hC:∀x∈C,Rise x∧∀y∈x,sz y.2+1≤4) (hb:GV w X bn bc P S) (hS2:2≤S) (hS:S≤1999) (hbn:bn≤1000) (hn:n≤14) (hfit:fitsB n (nrm P)=true) (hT:Hid (Tab w)) :
  Calls Tryz.prog 12 #[.pointer (some ⟨fb,0,none⟩),.slice X bn bc] w (TellsL14 w (layF n (back (fwd (facST C n) (pget P)) (facST C n)))):=by
 have k1:=sol_small hn (show S+1≤2000 by omega);have k2:=pow_small hn (show S≤2000 by omega);have k3:=fac_small hn;have k4:n*(facM 4 n / 2+(solG 3 (S+1) (n-1)+2))≤14*1842177278:=vE hn zo;refine(ftranC (KX:=solG 3 (S+1) (n-1)+2) h hb hS2 hbn zo hfit zo zo zo (zh fun a h0 h1=>?_) zo zo hT).mono ?_
 ·have:=h.sz (D:=3) (S:=S+1) (fun j _ a _=>ma_small hC j a) (f:=pget P) (fun j _=>hb.getsz j) a h0 h1;omega
 ·rintro e w' ⟨A,m,c,rfl,h1,h2⟩;exact⟨A,m,c,rfl,h1.mono zo,by rw[←h1.len];exact nA (layF_len _) hn,h2⟩
theorem btranS {w:World} {fb n bn bc S:Nat} {C:List (List (Int×Rat))} {X:Option Addr} {P:List (Int×Rat)} (h:LuAt w fb n 4 C) (hC:∀x∈C,Rise x∧∀y∈x,sz y.2+1≤4) (hb:GV w X bn bc P S) (hS2:2≤S) (hS:S≤1999) (hbn:bn≤1000) (hn:n≤14) (hfit:fitsB n (nrm P)=true) (hT:Hid (Tab w)) :
  Calls Tryz.prog 13 #[.pointer (some ⟨fb,0,none⟩),.slice X bn bc] w (TellsL14 w (layF n (btDn (facST C n) (btUp (facST C n) (pget P) fun _=>0)))):=by
 have k1:=sol_small hn (show S+1≤2000 by omega);have k2:=pow_small hn (show S+1≤2000 by omega);have k3:=fac_small hn;have k4:n*(facM 4 n / 2+(solG 3 (S+1) (n-1)+2))≤14*1842177278:=vE hn zo;refine(btranC (S:=S+1) (KF:=solG 3 (S+1) (n-1)+2) h (hb.mono (Nat.le_succ S)) zo hbn zo hfit zo zo (zh fun a h0 h1=>?_) k1.2 zo hT).mono ?_
 ·have:=h.lsz (D:=3) (S:=S+1) (fun j _ a _=>ma_small hC j a) (f:=pget P) (fun j _=>hb.getsz j) a h0 h1;omega
 ·rintro e w' ⟨A,m,c,rfl,h1,h2⟩;exact⟨A,m,c,rfl,h1.mono zo,by rw[←h1.len];exact nA (layF_len _) hn,h2⟩
theorem nv_szs {w:World} {A:Option Addr} {n c M:Nat} {P:List (Int×Rat)} (h:NV w A n c P M):∀x∈P,sz x.2+1≤M:=fun x hx=>by
 obtain⟨L,_,h2,rfl,_⟩:=h;obtain⟨t,ht,rfl⟩:=prs_mem hx;exact(h2 t ht).2.2
theorem timesS {w:World} {X A:Option Addr} {nx cx n c:Nat} {P:List (Int×Rat)} {C:List (List (Int×Rat))} (h:CM w A n c C 4) (hC:∀x∈C,(Rise x∧∀y∈x,sz y.2+1≤4)∧x.length≤14) (hx:NV w X nx cx P 500000000) (hP:Nrm P) (hnx:nx≤14) (hn:n≤14) (hT:Hid (Tab w)) :
  Calls Tryz.prog 43 #[.slice A n c,.slice X nx cx] w (TellsW w (nrm (timesP C P)) 8000000000 196):=by
 have hp:nrm P=P:=hP.self;obtain⟨CL,h1,h2,rfl⟩:=h.cw fun x hx=>(hC x hx).1.1;have hs:=nv_szs hx;have hl:=hx.len;have hm:∀v∈CL,prs v.L∈CL.map fun v=>prs v.L:=fun v hv=>uC (f:=fun v:Vc=>prs v.L) hv;have hq:=timesG_q 500000001 5 14 56 h1 (zh fun v hv=>⟨h2 v hv,by have h3:=(h2 v hv).len;have h4:=(hC _ (hm v hv)).2;omega,nA (wtot_le (hC _ (hm v hv)).1.2) (by have h4:=(hC _ (hm v hv)).2;omega)⟩) (hx.gv hP.rise) zd zd zo zd zo 8000000000
  (zh fun a=>by
   rw[hp];refine nA (wpl_times (mc:=4) (K:=499999999) (fun c hc=>(hC c hc).1) a P fun x hx=>by have:=hs x hx;omega) ?_;have:=cB (4+499999999+1) (show P.length≤14 by omega);omega) zd hT
 rw[hp] at hq;refine hq.mono fun _ _ k=>k.v.w (cA _) (nA (nrm_len _) (nA (timesP_len (fun c hc=>(hC c hc).2) _) (by have:=cB 14 (show P.length≤14 by omega);omega)))
theorem leftS {w:World} {X A:Option Addr} {nx cx n c:Nat} {P:List (Int×Rat)} {C:List (List (Int×Rat))} (h:CM w A n c C 4) (hC:∀x∈C,(Rise x∧∀y∈x,sz y.2+1≤4)∧x.length≤14) (hx:NV w X nx cx P 500000000) (hP:Nrm P) (hnx:nx≤14) (hn:n≤14) (hT:Hid (Tab w)) :
  Calls Tryz.prog 44 #[.slice X nx cx,.slice A n c] w (TellsW w (nrm (idxP (C.map fun x=>pdot P x))) 8000000000 14):=by
 have hs:=nv_szs hx;have hl:=hx.len;have hcw:=h.cw fun x hx=>(hC x hx).1.1;have hw:wtot P≤7000000000:=nA (wtot_le hs) (by have:=cB 500000000 (show P.length≤14 by omega);omega);refine(leftC 500000001 5 14 7999999998 14 (hx.gv hP.rise) hcw hnx (fun x hx=>nA (hC x hx).2 zd) hn zd (hcw.dotK hw (show P.length≤14 by omega) zd) zd zd zd zd zd zd hT)
theorem rightS {w:World} {A:Option Addr} {n c M:Nat} {P:List (Int×Rat)} {k:Int} (h:NV w A n c P M) (hM:M≤20000000000) (hn:n≤1000000000) (hP:Nrm P) (hin:∀x∈P,0≤x.1∧x.1<k) (hT:Hid (Tab w)) :
  Calls Tryz.prog 49 #[.slice A n c,.int .i64 k] w fun e w'=>e=.returned (.bool true)∧Below w.heap.size w w':=by
 obtain⟨L,h1,h2,rfl,_⟩:=h;refine right_q (m:=M) h1 (h2.fr fun _=>cA _) hM hn true (zh (rightB_of hP fun t ht=>?_)) hT;have h3:=hin (t.at_,t.x.q) (uC (f:=fun t:Tm=>(t.at_,t.x.q)) ht);exact⟨h3.1,h3.2,(h2 t ht).2.1⟩
section
variable {C:List (List (Int×Rat))} {n:Nat} {P:List (Int×Rat)}
theorem lay_nrm (n:Nat) (F:Int→Rat):Nrm (layF n F):=nrm_nrm _
theorem lay_at (n:Nat) (F:Int→Rat):∀t∈layF n F,0≤t.1∧t.1<(n:Int):=lay_in n F
theorem lay_self (n:Nat) (F:Int→Rat):nrm (layF n F)=layF n F:=(nrm_nrm _).self
theorem lawS1 (hl:C.length=n) (hC:∀c∈C,∀x∈c,0≤x.1∧x.1<(n:Int)) (h:(facUp (facT C n) n).isSome=true) (hf:fitsB n (nrm P)=true):nrm (timesP C (layF n (back (fwd (facST C n) (pget P)) (facST C n))))=nrm P:=by
 obtain⟨t,ht⟩:=xC.1 h;have h1:=law_ftran hl hC ht (fits_iff.1 hf);rw[lay_self] at h1;rw[facST_eq ht];exact h1
theorem lawS2 (hl:C.length=n) (hC:∀c∈C,∀x∈c,0≤x.1∧x.1<(n:Int)) (h:(facUp (facT C n) n).isSome=true) (hf:fitsB n (nrm P)=true):nrm (idxP (C.map fun x=>pdot (layF n (btDn (facST C n) (btUp (facST C n) (pget P) fun _=>0))) x))=nrm P:=by
 obtain⟨t,ht⟩:=xC.1 h;rw[facST_eq ht];exact law_btran hl hC ht (fits_iff.1 hf)
end
theorem factorBadS {w:World} {A:Option Addr} {n c:Nat} {CL:List Vc} (h:Sl Vc.cs 1 w A n c CL) (hcl:Hid (∀v∈CL,Sl Tm.cs 5 w v.A v.n v.c v.L∧(∀t∈v.L,FrOk w 2 t.x)∧v.n≤1000∧(v.A=none→v.c=0))) (hn:n≤14) (hr:(CL.all fun v=>rightB v.L (n:Int))=false) (z:Int) (hz:(n:Int)=z) (hT:Hid (Tab w)) :
  Calls Tryz.prog 10 #[.slice A n c,.int .i64 z] w fun e w'=>e=.returned (.tuple #[.pointer none,.int .i64 2])∧Below w.heap.size w w':=by
 subst hz;refine(factor_q (m:=2) h hcl zo (nA (facM_mono 2 hn) zd) hT).mono fun e w' ⟨h1,h2⟩=>?_;rcases h2 with h2 | ⟨h2,_⟩
 ·exact⟨h2.2,h1⟩
 ·rw[hr] at h2;cases h2
theorem VgIn.nul {w:World} {v:Vc} (h:VgIn w v):v.A=none→v.c=0:=h.2.2.2
theorem CM.szs {w:World} {A:Option Addr} {n c M:Nat} {C:List (List (Int×Rat))} (h:CM w A n c C M):∀x∈C,∀y∈x,sz y.2+1≤M:=fun x hx=>by
 obtain⟨CL,_,h2,rfl⟩:=h;obtain⟨v,hv,rfl⟩:=yB.1 hx;exact nv_szs (h2 v hv).nv
end Go.Proofs.YtfpbmpllildbaaaGreatDoor
