/-
  Does a point of a form hold its bounds and equations: holds of layer 15's laws. Written by wip/gen/pr13.py.
-/
import Derived.Test.YtjkgjiofmgapfaaGreatDoorYPr8
set_option maxHeartbeats 16000000
set_option maxRecDepth 100000
namespace Go.Proofs.YtjkgjiofmgapfaaGreatDoor
open Go.RowKit Tw
def inB (p:Fr×(Fr×Fr)):Bool:=!(decide (cmpQ p.1.q p.2.1.q<0) || decide (0<cmpQ p.1.q p.2.2.q))
def sumF (CV:List Vc) (X:List Fr):Nat→List (Int×Rat)
 | 0=>[]
 | k+1=>match CV[k]?,X[k]? with
  | some v,some x=>nrm (sumF CV X k++(prs v.L).map fun(t:Int×Rat)=>(t.1,x.q*t.2))
  | _,_=>sumF CV X k
theorem sumF_at {CV:List Vc} {X:List Fr} {k:Nat} {v:Vc} {x:Fr} (h:CV[k]?=some v) (h':X[k]?=some x):sumF CV X (k+1)=nrm (sumF CV X k++(prs v.L).map fun(t:Int×Rat)=>(t.1,x.q*t.2)):=by
 show(match CV[k]?,X[k]? with | some v,some x=>nrm (sumF CV X k++(prs v.L).map fun(t:Int×Rat)=>(t.1,x.q*t.2)) | _,_=>sumF CV X k)=_
 rw[h,h']
theorem sumF_len {CV:List Vc} {X:List Fr} {B:Nat} (hv:∀v∈CV,v.L.length≤B):∀k,(sumF CV X k).length≤k*B
 | 0=>Nat.zero_le _
 | k+1=>by
  have ih:=sumF_len (X:=X) hv k;have e:(k+1)*B=k*B+B:=Nat.succ_mul k B;cases h:CV[k]? with
  | none =>
   have:sumF CV X (k+1)=sumF CV X k:=by show(match CV[k]?,X[k]? with | some v,some x=>nrm (sumF CV X k++(prs v.L).map fun(t:Int×Rat)=>(t.1,x.q*t.2)) | _,_=>sumF CV X k)=_;rw[h]
   rw[this];omega
  | some v =>
   cases h':X[k]? with
   | none =>
    have:sumF CV X (k+1)=sumF CV X k:=by show(match CV[k]?,X[k]? with | some v,some x=>nrm (sumF CV X k++(prs v.L).map fun(t:Int×Rat)=>(t.1,x.q*t.2)) | _,_=>sumF CV X k)=_;rw[h,h']
    rw[this];omega
   | some x =>
    rw[sumF_at h h'];have h1:=nrm_len (sumF CV X k++(prs v.L).map fun(t:Int×Rat)=>(t.1,x.q*t.2));have h2:=hv v (List.mem_of_getElem? h);rw[List.length_append,List.length_map,prs_len] at h1;omega
theorem sumF_rise {CV:List Vc} {X:List Fr}:∀k,Rise (sumF CV X k)
 | 0=>List.Pairwise.nil
 | k+1=>by
  have ih:=sumF_rise (CV:=CV) (X:=X) k;cases h:CV[k]? with
  | none =>
   have:sumF CV X (k+1)=sumF CV X k:=by show(match CV[k]?,X[k]? with | some v,some x=>nrm (sumF CV X k++(prs v.L).map fun(t:Int×Rat)=>(t.1,x.q*t.2)) | _,_=>sumF CV X k)=_;rw[h]
   rw[this];exact ih
  | some v =>
   cases h':X[k]? with
   | none =>
    have:sumF CV X (k+1)=sumF CV X k:=by show(match CV[k]?,X[k]? with | some v,some x=>nrm (sumF CV X k++(prs v.L).map fun(t:Int×Rat)=>(t.1,x.q*t.2)) | _,_=>sumF CV X k)=_;rw[h,h']
    rw[this];exact ih
   | some x =>
    rw[sumF_at h h'];exact(nrm_nrm _).rise
def eqsF (P:List (Int×Rat)) (BB:List Fr) (n:Nat):List Bool:=(List.range n).map fun j=>match BB[j]? with | some y=>decide (pget P (j:Int)=y.q) | none=>true
theorem eqsF_at {P:List (Int×Rat)} {BB:List Fr} {n i:Nat} {y:Fr} (hi:i<n) (h:BB[i]?=some y):(eqsF P BB n)[i]?=some (decide (pget P (i:Int)=y.q)):=by
 unfold eqsF
 rw[List.getElem?_map,List.getElem?_range hi];simp only[Option.map_some,h]
def holdsF (CV:List Vc) (LO HI BB X:List Fr) (N rn:Nat):Bool:=(X.zip (LO.zip HI)).all inB&&(eqsF (sumF CV X N) BB rn).all id
theorem nv_none (w:World) (M:Nat):NV w none 0 0 [] M:=⟨[],Sl.nil _,OnT.nil _ _,rfl,fun _=>rfl⟩
def HD1 (w:World) (FC:Array Value) (Z:List (Fr×(Fr×Fr))) (CV:List Vc) (X:List Fr) (D n gk:Nat) (s5 s11:Value) (wr:World):Prop :=
 ∃(i:Nat) (A:Option Addr) (c k:Nat),i≤n∧n-i=gk∧s5=.slice A k c∧s11=.int .i64 (i:Int)∧(Z.take i).all inB=true∧NV wr A k c (sumF CV X i) (1+i*D)∧Bx wr w.heap.size FC 39∧Below w.heap.size w wr
theorem ElA.c0' {w:World} {b i k:Nat} {cs:List Value} {u:Value} (h:ElA w b (0+i*k) cs) (hu:cs[0]?=some u):w.cell? ⟨b,i*k,none⟩=some u:=by
 have:=h.c0 hu;rwa [Nat.zero_add] at this
theorem ElA.at' {w:World} {b i k:Nat} {cs:List Value} (h:ElA w b (0+i*k) cs) (j:Nat) (u:Value) (hu:cs[j]?=some u):w.cell? ⟨b,i*k+j,none⟩=some u:=by
 have:=h.at j u hu;rwa [Nat.zero_add] at this
theorem holds15_q {w:World} {rn N g1 g2 g3 g4 g5 MC KD mx xc:Nat} {xA:Option Addr} {CV:List Vc} {LO HI BB X:List Fr} (hc:Sl Vc.cs 1 w (some ⟨g1,0,none⟩) N N CV) (hcv:Hid (∀v∈CV,CN w v MC∧v.n≤1000∧Rise (prs v.L))) (hl:Sl Fr.cs 4 w (some ⟨g2,0,none⟩) N N LO) (hlf:Hid (AllRn w KD LO)) (hh:Sl Fr.cs 4 w (some ⟨g3,0,none⟩) N N HI) (hhf:Hid (AllRn w KD HI)) (hb:Sl Fr.cs 4 w (some ⟨g5,0,none⟩) rn rn BB) (hbf:Hid (AllRn w KD BB)) (hx:Sl Fr.cs 4 w xA N xc X) (hxf:Hid (∀x∈X,FrOk w mx x)) (hN:N≤100) (hrn:rn≤100) (hmx:mx≤20000000) (hMC:MC≤10000000) (hKD:KD≤4000000000) (r:Bool) (hr:Hid (holdsF CV LO HI BB X N rn=r)) (hT:Hid (Tab w)) :
  Calls Tryz.prog 29 #[.agg #[.int .i64 (rn:Int),.slice (some ⟨g1,0,none⟩) N N,.slice (some ⟨g2,0,none⟩) N N,.slice (some ⟨g3,0,none⟩) N N,.slice (some ⟨g4,0,none⟩) N N,.slice (some ⟨g5,0,none⟩) rn rn],.slice xA N xc] w fun e w'=>e=.returned (.bool r)∧Below w.heap.size w w':=by
 have HXL:=zh hx.1;have HCL:=zh hc.1;have HLL:=zh hl.1;have HHL:=zh hh.1;have HBL:=zh hb.1;obtain⟨W,hW,x0,hB⟩:=zAa w #[.int .i64 (rn:Int),.slice (some ⟨g1,0,none⟩) N N,.slice (some ⟨g2,0,none⟩) N N,.slice (some ⟨g3,0,none⟩) N N,.slice (some ⟨g4,0,none⟩) N N,.slice (some ⟨g5,0,none⟩) rn rn] 39;have HX0:=zh x0;clear x0;have Bz:=zr W;have pa1:=(zx HX0 Bz).cell 1 (.slice (some ⟨g1,0,none⟩) N N) rfl;go_enter Tryz.func29,Tryz.ntmps29
 go_wp2_with fail
 rw[←hW];clear hW;go_wp2_with fail
 have HST:Hid (HD1 w #[.int .i64 (rn:Int),.slice (some ⟨g1,0,none⟩) N N,.slice (some ⟨g2,0,none⟩) N N,.slice (some ⟨g3,0,none⟩) N N,.slice (some ⟨g4,0,none⟩) N N,.slice (some ⟨g5,0,none⟩) rn rn] (X.zip (LO.zip HI)) CV X (mx+MC+5) N N (.slice none 0 0) (.int .i64 ((0:Nat):Int)) W):=zh ⟨0,none,0,0,Nat.zero_le _,rfl,rfl,rfl,rfl,nv_none _ _,HX0.out.below Bz,bT hB Bz⟩;clear hB Bz HX0;go_loopg [5,11] N (fun gk s t wr=>HD1 w #[.int .i64 (rn:Int),.slice (some ⟨g1,0,none⟩) N N,.slice (some ⟨g2,0,none⟩) N N,.slice (some ⟨g3,0,none⟩) N N,.slice (some ⟨g4,0,none⟩) N N,.slice (some ⟨g5,0,none⟩) rn rn] (X.zip (LO.zip HI)) CV X (mx+MC+5) N gk s t wr)
 case atStart=>exact HST.out
 case round =>
  clear HST;obtain⟨i,A,c,k,hi,hgk,rfl,rfl,hd,hnv,x0,hB⟩:=hrel;have HX0:=zh x0;have HGK:=zh hgk;have HD:=zh hd;clear hgk hd x0;by_cases hlt:i<N
  ·obtain⟨xb,xo,rfl,hel⟩:=hx.at Fr.cs_len zo zo;obtain⟨c1,o1,e1,hel1⟩:=hl.at Fr.cs_len zo zo;cases e1;obtain⟨c2,o2,e2,hel2⟩:=hh.at Fr.cs_len zo zo;cases e2;obtain⟨c3,o3,e3,hel3⟩:=hc.at Vc.cs_len zo zo;cases e3;obtain⟨x,hxi⟩:∃x,X[i]?=some x:=⟨X[i]'(by rw[HXL.out];exact hlt),List.getElem?_eq_getElem _⟩;obtain⟨y2,hy2⟩:∃x,LO[i]?=some x:=⟨LO[i]'(by rw[HLL.out];exact hlt),List.getElem?_eq_getElem _⟩;obtain⟨y3,hy3⟩:∃x,HI[i]?=some x:=⟨HI[i]'(by rw[HHL.out];exact hlt),List.getElem?_eq_getElem _⟩;obtain⟨v,hvi⟩:∃x,CV[i]?=some x:=⟨CV[i]'(by rw[HCL.out];exact hlt),List.getElem?_eq_getElem _⟩;have hnd0:=hel i x hxi;have hnd1:=hel1 i y2 hy2;have hnd2:=hel2 i y3 hy3;have hnd3:ElA w g1 i (Vc.cs v):=by have:=hel3 i v hvi;rwa [Nat.mul_one,Nat.zero_add] at this
   have HXM:=zh (List.mem_of_getElem? hxi);have HXI:=zh hxi;have HVI:=zh hvi;have HVC:=zh (hcv.out v (List.mem_of_getElem? hvi));have hf1:=hlf.out y2 (List.mem_of_getElem? hy2);have hf2:=hhf.out y3 (List.mem_of_getElem? hy3);have hr1:=hf1.1.below hB;have hr2:=hf2.1.below hB;have HZ10:Hid (sz y2.q≤KD):=zh (zi hf1.2.2);have HZ20:Hid (sz y3.q≤KD):=zh (zi hf2.2.2);have HTI:Hid ((X.zip (LO.zip HI))[i]?=some (x,(y2,y3))):=zh (by rw[List.getElem?_zip_eq_some,List.getElem?_zip_eq_some];exact⟨hxi,hy2,hy3⟩);have i1:(i:Int)<(N:Int):=zo;have i2:(0:Int)≤(i:Int):=zo;obtain⟨z1,HZ1⟩:∃z,Hid (cmpQ x.q y2.q=z):=⟨_,zh rfl⟩;obtain⟨z2,HZ2⟩:∃z,Hid (cmpQ x.q y3.q=z):=⟨_,zh rfl⟩;clear hel hel1 hel2 hel3 hxi hy2 hy3 hvi hf1 hf2;by_cases k1:z1<0
   ·have HP:Hid (inB (x,(y2,y3))=false):=zh (by unfold inB;simp only;rw[HZ1.out,decide_eq_true k1];rfl);obtain rfl:r=false:=by rw[←hr.out];unfold holdsF;rw[all_no HTI.out HP.out];rfl
    have Bz:=zr wr;have pa2:=(zx HX0 Bz).cell 2 (.slice (some ⟨g2,0,none⟩) N N) rfl;have pA0:=(hnd0.below (bT hB Bz)).c0 (u:=.bool x.s) rfl;have pA1:=(hnd0.below (bT hB Bz)).at 1 (.slice x.A x.l x.c) rfl;have pA2:=(hnd0.below (bT hB Bz)).at 2 (.bool x.s') rfl;have pA3:=(hnd0.below (bT hB Bz)).at 3 (.slice x.A' x.l' x.c') rfl;have pB0:=(hnd1.below (bT hB Bz)).c0' (u:=.bool y2.s) rfl;have pB1:=(hnd1.below (bT hB Bz)).at' 1 (.slice y2.A y2.l y2.c) rfl;have pB2:=(hnd1.below (bT hB Bz)).at' 2 (.bool y2.s') rfl;have pB3:=(hnd1.below (bT hB Bz)).at' 3 (.slice y2.A' y2.l' y2.c') rfl;go_wp2_with fail
    (try simp only[vAa,vBa,vC])
    refine zl (zz [0,1,2,3,4,5,6,7,8] (.only 9 (zz [10,11,12,13,14,15,16,17,18,19,20] (.only 21 (zz [22,23] .done))))) [] (zsa pa2 (zsa pA0 (zsa pA1 (zsa pA2 (zsa pA3 (zsa pB0 (zsa pB1 (zsa pB2 (zIa pB3))))))))) ?_;iterate 9 (refine zUa ?_;try simp only[uW,uX,uY,uZ])
    refine zC 23 rfl rfl (fun K hK=>?_);go_simp
    with_reducible refine(cmp_q (FrOk.below (hxf.out x HXM.out) (bT hB (bT (b:=wr) Bz))).r (RN.r' (RN.below hr1) HZ10.out) zo z1 HZ1).mono ?_
    rintro e w11 ⟨rfl,b11⟩;replace b11:=zq (a:=wr) b11;replace Bz:=bT Bz b11;clear b11;clear pa2 pA0 pA1 pA2 pA3 pB0 pB1 pB2 pB3;have pa2:=(zx HX0 Bz).cell 2 (.slice (some ⟨g2,0,none⟩) N N) rfl;have pA0:=(hnd0.below (bT hB Bz)).c0 (u:=.bool x.s) rfl;have pA1:=(hnd0.below (bT hB Bz)).at 1 (.slice x.A x.l x.c) rfl;have pA2:=(hnd0.below (bT hB Bz)).at 2 (.bool x.s') rfl;have pA3:=(hnd0.below (bT hB Bz)).at 3 (.slice x.A' x.l' x.c') rfl;have pB0:=(hnd1.below (bT hB Bz)).c0' (u:=.bool y2.s) rfl;have pB1:=(hnd1.below (bT hB Bz)).at' 1 (.slice y2.A y2.l y2.c) rfl;have pB2:=(hnd1.below (bT hB Bz)).at' 2 (.bool y2.s') rfl;have pB3:=(hnd1.below (bT hB Bz)).at' 3 (.slice y2.A' y2.l' y2.c') rfl;refine hK.out _ _ ⟨pa2,pA0,pA1,pA2,pA3,pB0,pB1,pB2,pB3⟩ (fun _=>?_);try simp only[uW,uX,uY,uZ]
    clear hK K;iterate 2 (refine zUa ?_;try simp only[uW,uX,uY,uZ])
    iterate 9 (refine zN rfl rfl ?_;try simp only[uW,uX,uY,uZ])
    refine wpPlan_pass (o:=⟨some 35,_,_,_,_,_⟩) rfl rfl ⟨pa2,pA0,pA1,pA2,pA3,pB0,pB1,pB2,pB3⟩ ?_;try simp only[uW,uX,uY,uZ]
    refine zN rfl rfl ?_;try simp only[uW,uX,uY,uZ]
    refine zUa ?_;try simp only[uW,uX,uY,uZ]
    refine wpPlan_done ?_;go_wp2_with fail
    go_ret
    have hF:=bT (c:=w11) hB Bz;exact⟨rfl,bT (bT hB Bz)⟩
   ·have d1:decide (z1<0)=false:=decide_eq_false k1;by_cases k2:0<z2
    ·have HP:Hid (inB (x,(y2,y3))=false):=zh (by unfold inB;simp only;rw[HZ1.out,HZ2.out,decide_eq_false k1,decide_eq_true k2];rfl);obtain rfl:r=false:=by rw[←hr.out];unfold holdsF;rw[all_no HTI.out HP.out];rfl
     have Bz:=zr wr;obtain⟨-,-,pa2,pa3,-⟩:=(zx HX0 Bz).cz;have pA0:=(hnd0.below (bT hB Bz)).c0 (u:=.bool x.s) rfl;have pA1:=(hnd0.below (bT hB Bz)).at 1 (.slice x.A x.l x.c) rfl;have pA2:=(hnd0.below (bT hB Bz)).at 2 (.bool x.s') rfl;have pA3:=(hnd0.below (bT hB Bz)).at 3 (.slice x.A' x.l' x.c') rfl;have pB0:=(hnd1.below (bT hB Bz)).c0' (u:=.bool y2.s) rfl;have pB1:=(hnd1.below (bT hB Bz)).at' 1 (.slice y2.A y2.l y2.c) rfl;have pB2:=(hnd1.below (bT hB Bz)).at' 2 (.bool y2.s') rfl;have pB3:=(hnd1.below (bT hB Bz)).at' 3 (.slice y2.A' y2.l' y2.c') rfl;have pC0:=(hnd2.below (bT hB Bz)).c0' (u:=.bool y3.s) rfl;have pC1:=(hnd2.below (bT hB Bz)).at' 1 (.slice y3.A y3.l y3.c) rfl;have pC2:=(hnd2.below (bT hB Bz)).at' 2 (.bool y3.s') rfl;have pC3:=(hnd2.below (bT hB Bz)).at' 3 (.slice y3.A' y3.l' y3.c') rfl;go_wp2_with fail
     (try simp only[vAa,vBa,vC])
     refine zl (zz [0,1,2,3,4,5,6,7,8] (.only 9 (zz [10,11,12,13,14,15,16,17,18,19,20] (.only 21 (zz [22,23] .done))))) [] (zsa pa2 (zsa pa3 (zsa pA0 (zsa pA1 (zsa pA2 (zsa pA3 (zsa pB0 (zsa pB1 (zsa pB2 (zsa pB3 (zsa pC0 (zsa pC1 (zsa pC2 (zIa pC3)))))))))))))) ?_;iterate 9 (refine zUa ?_;try simp only[uW,uX,uY,uZ])
     refine zC 23 rfl rfl (fun K hK=>?_);go_simp
     with_reducible refine(cmp_q (FrOk.below (hxf.out x HXM.out) (bT hB (bT (b:=wr) Bz))).r (RN.r' (RN.below hr1) HZ10.out) zo z1 HZ1).mono ?_
     rintro e w11 ⟨rfl,b11⟩;replace b11:=zq (a:=wr) b11;replace hr2:=hr2.below b11;replace Bz:=bT Bz b11;clear b11;clear pa2 pa3 pA0 pA1 pA2 pA3 pB0 pB1 pB2 pB3 pC0 pC1 pC2 pC3;obtain⟨-,-,pa2,pa3,-⟩:=(zx HX0 Bz).cz;have pA0:=(hnd0.below (bT hB Bz)).c0 (u:=.bool x.s) rfl;have pA1:=(hnd0.below (bT hB Bz)).at 1 (.slice x.A x.l x.c) rfl;have pA2:=(hnd0.below (bT hB Bz)).at 2 (.bool x.s') rfl;have pA3:=(hnd0.below (bT hB Bz)).at 3 (.slice x.A' x.l' x.c') rfl;have pB0:=(hnd1.below (bT hB Bz)).c0' (u:=.bool y2.s) rfl;have pB1:=(hnd1.below (bT hB Bz)).at' 1 (.slice y2.A y2.l y2.c) rfl;have pB2:=(hnd1.below (bT hB Bz)).at' 2 (.bool y2.s') rfl;have pB3:=(hnd1.below (bT hB Bz)).at' 3 (.slice y2.A' y2.l' y2.c') rfl;have pC0:=(hnd2.below (bT hB Bz)).c0' (u:=.bool y3.s) rfl;have pC1:=(hnd2.below (bT hB Bz)).at' 1 (.slice y3.A y3.l y3.c) rfl;have pC2:=(hnd2.below (bT hB Bz)).at' 2 (.bool y3.s') rfl;have pC3:=(hnd2.below (bT hB Bz)).at' 3 (.slice y3.A' y3.l' y3.c') rfl;refine hK.out _ _ ⟨pa2,pa3,pA0,pA1,pA2,pA3,pB0,pB1,pB2,pB3,pC0,pC1,pC2,pC3⟩ (fun _=>?_);try simp only[uW,uX,uY,uZ]
     clear hK K;iterate 11 (refine zUa ?_;try simp only[uW,uX,uY,uZ])
     refine zC 35 rfl rfl (fun K hK=>?_);go_simp
     with_reducible refine(cmp_q (FrOk.below (hxf.out x HXM.out) (bT hB (bT (b:=w11) Bz))).r (RN.r' (RN.below hr2) HZ20.out) zo z2 HZ2).mono ?_
     rintro e w12 ⟨rfl,b12⟩;replace b12:=zq (a:=w11) b12;replace Bz:=bT Bz b12;clear b12;clear pa2 pa3 pA0 pA1 pA2 pA3 pB0 pB1 pB2 pB3 pC0 pC1 pC2 pC3;obtain⟨-,-,pa2,pa3,-⟩:=(zx HX0 Bz).cz;have pA0:=(hnd0.below (bT hB Bz)).c0 (u:=.bool x.s) rfl;have pA1:=(hnd0.below (bT hB Bz)).at 1 (.slice x.A x.l x.c) rfl;have pA2:=(hnd0.below (bT hB Bz)).at 2 (.bool x.s') rfl;have pA3:=(hnd0.below (bT hB Bz)).at 3 (.slice x.A' x.l' x.c') rfl;have pB0:=(hnd1.below (bT hB Bz)).c0' (u:=.bool y2.s) rfl;have pB1:=(hnd1.below (bT hB Bz)).at' 1 (.slice y2.A y2.l y2.c) rfl;have pB2:=(hnd1.below (bT hB Bz)).at' 2 (.bool y2.s') rfl;have pB3:=(hnd1.below (bT hB Bz)).at' 3 (.slice y2.A' y2.l' y2.c') rfl;have pC0:=(hnd2.below (bT hB Bz)).c0' (u:=.bool y3.s) rfl;have pC1:=(hnd2.below (bT hB Bz)).at' 1 (.slice y3.A y3.l y3.c) rfl;have pC2:=(hnd2.below (bT hB Bz)).at' 2 (.bool y3.s') rfl;have pC3:=(hnd2.below (bT hB Bz)).at' 3 (.slice y3.A' y3.l' y3.c') rfl;refine hK.out _ _ ⟨pa2,pa3,pA0,pA1,pA2,pA3,pB0,pB1,pB2,pB3,pC0,pC1,pC2,pC3⟩ (fun _=>?_);try simp only[uW,uX,uY,uZ]
     clear hK K;iterate 2 (refine zUa ?_;try simp only[uW,uX,uY,uZ])
     refine wpPlan_done ?_;go_wp2_with fail
     go_ret
     have hF:=bT (c:=w12) hB Bz;exact⟨rfl,bT (bT hB Bz)⟩
    ·have HP:Hid (inB (x,(y2,y3))=true):=zh (by unfold inB;simp only;rw[HZ1.out,HZ2.out,decide_eq_false k1,decide_eq_false k2];rfl);have hid1:=Nat.mul_le_mul (show i≤100 by omega) (show mx+MC+5≤30000005 by omega);have HD4:Hid (1+i*(mx+MC+5)+1≤4000000000):=zh zo;have HD5:Hid (1+(i+1)*(mx+MC+5)=1+i*(mx+MC+5)+1+(mx+(MC+1)+3)):=zh (by rw[Nat.succ_mul];omega);have HVN:Hid (v.n≤1000000):=zh (zi HVC.out.2.1);have HKN:Hid (k≤1000000):=zh (by
      have h1:=sumF_len (X:=X) (B:=1000) (fun u hu=>by have h2:=hcv.out u hu;rw[h2.1.1.1];exact h2.2.1) i;have h3:=hnv.len;omega)
     have HRS:Hid (Rise (sumF CV X i)):=zh (sumF_rise i);clear hid1;have Bz:=zr wr;obtain⟨-,-,pa2,pa3,-⟩:=(zx HX0 Bz).cz;have pA0:=(hnd0.below (bT hB Bz)).c0 (u:=.bool x.s) rfl;have pA1:=(hnd0.below (bT hB Bz)).at 1 (.slice x.A x.l x.c) rfl;have pA2:=(hnd0.below (bT hB Bz)).at 2 (.bool x.s') rfl;have pA3:=(hnd0.below (bT hB Bz)).at 3 (.slice x.A' x.l' x.c') rfl;have pB0:=(hnd1.below (bT hB Bz)).c0' (u:=.bool y2.s) rfl;have pB1:=(hnd1.below (bT hB Bz)).at' 1 (.slice y2.A y2.l y2.c) rfl;have pB2:=(hnd1.below (bT hB Bz)).at' 2 (.bool y2.s') rfl;have pB3:=(hnd1.below (bT hB Bz)).at' 3 (.slice y2.A' y2.l' y2.c') rfl;have pC0:=(hnd2.below (bT hB Bz)).c0' (u:=.bool y3.s) rfl;have pC1:=(hnd2.below (bT hB Bz)).at' 1 (.slice y3.A y3.l y3.c) rfl;have pC2:=(hnd2.below (bT hB Bz)).at' 2 (.bool y3.s') rfl;have pC3:=(hnd2.below (bT hB Bz)).at' 3 (.slice y3.A' y3.l' y3.c') rfl;go_wp2_with fail
     (try simp only[vAa,vBa,vC])
     refine zl (zz [0,1,2,3,4,5,6,7,8] (.only 9 (zz [10,11,12,13,14,15,16,17,18,19,20] (.only 21 (zz [22,23] .done))))) [] (zsa pa2 (zsa pa3 (zsa pA0 (zsa pA1 (zsa pA2 (zsa pA3 (zsa pB0 (zsa pB1 (zsa pB2 (zsa pB3 (zsa pC0 (zsa pC1 (zsa pC2 (zIa pC3)))))))))))))) ?_;iterate 9 (refine zUa ?_;try simp only[uW,uX,uY,uZ])
     refine zC 23 rfl rfl (fun K hK=>?_);go_simp
     with_reducible refine(cmp_q (FrOk.below (hxf.out x HXM.out) (bT hB (bT (b:=wr) Bz))).r (RN.r' (RN.below hr1) HZ10.out) zo z1 HZ1).mono ?_
     rintro e w11 ⟨rfl,b11⟩;replace b11:=zq (a:=wr) b11;replace hnv:=hnv.below b11;replace hr2:=hr2.below b11;replace Bz:=bT Bz b11;clear b11;clear pa2 pa3 pA0 pA1 pA2 pA3 pB0 pB1 pB2 pB3 pC0 pC1 pC2 pC3;obtain⟨-,-,pa2,pa3,-⟩:=(zx HX0 Bz).cz;have pA0:=(hnd0.below (bT hB Bz)).c0 (u:=.bool x.s) rfl;have pA1:=(hnd0.below (bT hB Bz)).at 1 (.slice x.A x.l x.c) rfl;have pA2:=(hnd0.below (bT hB Bz)).at 2 (.bool x.s') rfl;have pA3:=(hnd0.below (bT hB Bz)).at 3 (.slice x.A' x.l' x.c') rfl;have pB0:=(hnd1.below (bT hB Bz)).c0' (u:=.bool y2.s) rfl;have pB1:=(hnd1.below (bT hB Bz)).at' 1 (.slice y2.A y2.l y2.c) rfl;have pB2:=(hnd1.below (bT hB Bz)).at' 2 (.bool y2.s') rfl;have pB3:=(hnd1.below (bT hB Bz)).at' 3 (.slice y2.A' y2.l' y2.c') rfl;have pC0:=(hnd2.below (bT hB Bz)).c0' (u:=.bool y3.s) rfl;have pC1:=(hnd2.below (bT hB Bz)).at' 1 (.slice y3.A y3.l y3.c) rfl;have pC2:=(hnd2.below (bT hB Bz)).at' 2 (.bool y3.s') rfl;have pC3:=(hnd2.below (bT hB Bz)).at' 3 (.slice y3.A' y3.l' y3.c') rfl;refine hK.out _ _ ⟨pa2,pa3,pA0,pA1,pA2,pA3,pB0,pB1,pB2,pB3,pC0,pC1,pC2,pC3⟩ (fun _=>?_);try simp only[uW,uX,uY,uZ]
     clear hK K;iterate 11 (refine zUa ?_;try simp only[uW,uX,uY,uZ])
     refine zC 35 rfl rfl (fun K hK=>?_);go_simp
     with_reducible refine(cmp_q (FrOk.below (hxf.out x HXM.out) (bT hB (bT (b:=w11) Bz))).r (RN.r' (RN.below hr2) HZ20.out) zo z2 HZ2).mono ?_
     rintro e w12 ⟨rfl,b12⟩;replace b12:=zq (a:=w11) b12;replace hnv:=hnv.below b12;replace Bz:=bT Bz b12;clear b12;clear pa2 pa3 pA0 pA1 pA2 pA3 pB0 pB1 pB2 pB3 pC0 pC1 pC2 pC3;obtain⟨-,pa1,pa2,pa3,-⟩:=(zx HX0 Bz).cz;have pA0:=(hnd0.below (bT hB Bz)).c0 (u:=.bool x.s) rfl;have pA1:=(hnd0.below (bT hB Bz)).at 1 (.slice x.A x.l x.c) rfl;have pA2:=(hnd0.below (bT hB Bz)).at 2 (.bool x.s') rfl;have pA3:=(hnd0.below (bT hB Bz)).at 3 (.slice x.A' x.l' x.c') rfl;have pB0:=(hnd1.below (bT hB Bz)).c0' (u:=.bool y2.s) rfl;have pB1:=(hnd1.below (bT hB Bz)).at' 1 (.slice y2.A y2.l y2.c) rfl;have pB2:=(hnd1.below (bT hB Bz)).at' 2 (.bool y2.s') rfl;have pB3:=(hnd1.below (bT hB Bz)).at' 3 (.slice y2.A' y2.l' y2.c') rfl;have pC0:=(hnd2.below (bT hB Bz)).c0' (u:=.bool y3.s) rfl;have pC1:=(hnd2.below (bT hB Bz)).at' 1 (.slice y3.A y3.l y3.c) rfl;have pC2:=(hnd2.below (bT hB Bz)).at' 2 (.bool y3.s') rfl;have pC3:=(hnd2.below (bT hB Bz)).at' 3 (.slice y3.A' y3.l' y3.c') rfl;have pD0:=(hnd3.below (bT hB Bz)).c0 (u:=.slice v.A v.n v.c) rfl;refine hK.out _ _ ⟨pa2,pa3,pA0,pA1,pA2,pA3,pB0,pB1,pB2,pB3,pC0,pC1,pC2,pC3⟩ (fun _=>?_);try simp only[uW,uX,uY,uZ]
     clear hK K;iterate 2 (refine zUa ?_;try simp only[uW,uX,uY,uZ])
     refine wpPlan_done ?_;go_wp2_with fail
     (try simp only[vAa,vBa,vC])
     refine zl (zz [0,1,2,3,4,5,6,7,8,9] (.only 10 (.take 11 .done))) [] (zsa pa1 (zsa pA0 (zsa pA1 (zsa pA2 (zsa pA3 (zIa pD0)))))) ?_;iterate 10 (refine zUa ?_;try simp only[uW,uX,uY,uZ])
     refine zC 48 rfl rfl (fun K hK=>?_);go_simp
     with_reducible refine(axpyV_q (M:=MC+1) (M':=1+i*(mx+MC+5)+1) ((NV.below hnv).gv HRS.out) (FrOk.below (hxf.out x HXM.out) (bT hB (bT (b:=w12) Bz))).r ((CN.nv (CN.below HVC.out.1 (bT hB (bT (b:=w12) Bz)))).gv HVC.out.2.2) zo HD4.out zo HVN.out HKN.out (zt hT hB Bz)).mono ?_
     rintro e w13 ⟨A13,n13,c13,rfl,h13,b13⟩;replace b13:=zq (a:=w12) b13;replace Bz:=bT Bz b13;clear b13;clear pa1 pa2 pa3 pA0 pA1 pA2 pA3 pB0 pB1 pB2 pB3 pC0 pC1 pC2 pC3 pD0;have pa1:=(zx HX0 Bz).cell 1 (.slice (some ⟨g1,0,none⟩) N N) rfl;have pA0:=(hnd0.below (bT hB Bz)).c0 (u:=.bool x.s) rfl;have pA1:=(hnd0.below (bT hB Bz)).at 1 (.slice x.A x.l x.c) rfl;have pA2:=(hnd0.below (bT hB Bz)).at 2 (.bool x.s') rfl;have pA3:=(hnd0.below (bT hB Bz)).at 3 (.slice x.A' x.l' x.c') rfl;have pD0:=(hnd3.below (bT hB Bz)).c0 (u:=.slice v.A v.n v.c) rfl;refine hK.out _ _ ⟨pa1,pA0,pA1,pA2,pA3,pD0⟩ (fun _=>?_);try simp only[uW,uX,uY,uZ]
     clear hK K;refine zUa ?_;try simp only[uW,uX,uY,uZ]
     refine wpPlan_done ?_;go_wp2_with fail
     go_roundg (N-(i+1))
     case measure=>have:=HGK.out;omega
     case rel=>exact⟨i+1,A13,c13,n13,zo,rfl,by rfl,by go_num,take_all HD.out HTI.out HP.out,by rw[sumF_at HVI.out HXI.out,HD5.out];exact NV.below h13,HX0.out.below (bT Bz),bT (bT hB Bz)⟩
  ·obtain rfl:i=N:=zo;obtain⟨N,hN0⟩:∃N,N=i:=⟨_,rfl⟩;subst hN0;have i1:¬(N:Int)<(N:Int):=zo;have HAL:Hid ((X.zip (LO.zip HI)).all inB=true):=zh (by have h9:=HD.out;rwa [List.take_of_length_le (by rw[List.length_zip,List.length_zip,HXL.out,HLL.out,HHL.out];omega)] at h9);have HRE:Hid ((eqsF (sumF CV X N) BB rn).all id=r):=zh (by have h9:=hr.out;unfold holdsF at h9;rwa [HAL.out,Bool.true_and] at h9);have hid1:=Nat.mul_le_mul (show N≤100 by omega) (show mx+MC+5≤30000005 by omega);have HD6:Hid (1+N*(mx+MC+5)+1≤18000000000):=zh zo;have HKN:Hid (k≤1000000):=zh (by
    have h1:=sumF_len (X:=X) (B:=1000) (fun u hu=>by have h2:=hcv.out u hu;rw[h2.1.1.1];exact h2.2.1) N;have h3:=hnv.len;omega)
   have HRS:Hid (Rise (sumF CV X N)):=zh (sumF_rise N);have HEL:Hid ((eqsF (sumF CV X N) BB rn).length=rn):=zh (by unfold eqsF;rw[List.length_map,List.length_range]);clear hid1;have Bz:=zr wr;have pa5:=(zx HX0 Bz).cell 5 (.slice (some ⟨g5,0,none⟩) rn rn) rfl;go_wp2_with fail
   obtain⟨wo,hwo⟩:∃x:World,x=wr:=⟨_,rfl⟩;subst hwo;have HB0:=zh (bT hB Bz);have HY0:=zh (zx HX0 Bz);have HNV:=zh hnv;have HST:Hid (AL1 wo (eqsF (sumF CV X N) BB rn) id rn rn (.int .i64 ((0:Nat):Int)) wo):=zh ⟨0,Nat.zero_le _,rfl,rfl,Below.refl _ _,by simp⟩;clear hB Bz HX0 hnv HGK HD;go_loopg [53] rn (fun gk s wr=>AL1 wo (eqsF (sumF CV X N) BB rn) id rn gk s wr)
   case atStart=>exact HST.out
   case round =>
    clear HST;obtain⟨i,hi,hgk,rfl,hBW,hd⟩:=hrel;have HGK:=zh hgk;have HD:=zh hd;have hB:=bT HB0.out hBW;have HX0:=zh (HY0.out.below hBW);clear hgk hd;by_cases hlt:i<rn
    ·obtain⟨c5,o5,e5,hel5⟩:=hb.at Fr.cs_len zo zo;cases e5;obtain⟨y5,hy5⟩:∃x,BB[i]?=some x:=⟨BB[i]'(by rw[HBL.out];exact hlt),List.getElem?_eq_getElem _⟩;have hnd5:=hel5 i y5 hy5;have hf5:=hbf.out y5 (List.mem_of_getElem? hy5);have hr5:=hf5.1.below hB;have HZ5:Hid (sz y5.q≤KD):=zh (zi hf5.2.2);have HTI:=zh (eqsF_at (P:=sumF CV X N) hlt hy5);have i3:(i:Int)<(rn:Int):=zo;have i4:(0:Int)≤(i:Int):=zo;clear hel5 hy5 hf5;cases hp:decide (pget (sumF CV X N) (i:Int)=y5.q)
     ·have HP:=zh hp;obtain rfl:r=false:=by rw[←HRE.out];exact all_no HTI.out HP.out
      clear hp;have Bz:=zr wr;have pa5:=(zx HX0 Bz).cell 5 (.slice (some ⟨g5,0,none⟩) rn rn) rfl;have pA0:=(hnd5.below (bT hB Bz)).c0' (u:=.bool y5.s) rfl;have pA1:=(hnd5.below (bT hB Bz)).at' 1 (.slice y5.A y5.l y5.c) rfl;have pA2:=(hnd5.below (bT hB Bz)).at' 2 (.bool y5.s') rfl;have pA3:=(hnd5.below (bT hB Bz)).at' 3 (.slice y5.A' y5.l' y5.c') rfl;go_wp2_with fail
      (try simp only[vAa,vBa,vC])
      refine zl (zz [0,1,3,4,5,6,7] (.only 2 (.only 8 (.take 9 .done)))) [] (zsa pa5 (zsa pA0 (zsa pA1 (zsa pA2 (zIa pA3))))) ?_;iterate 7 (refine zUa ?_;try simp only[uW,uX,uY,uZ])
      refine zC 58 rfl rfl (fun K hK=>?_);go_simp
      with_reducible refine(getV_q (i:Int) ((NV.below HNV.out (bT hBW (bT (b:=wr) Bz))).gv HRS.out) HD6.out HKN.out (zt hT hB Bz)).mono ?_
      rintro e w31 ⟨s31,A31,c31,l31,s31r,A31r,c31r,l31r,rfl,h31,b31⟩;replace b31:=zq (a:=wr) b31;replace hr5:=hr5.below b31;replace Bz:=bT Bz b31;clear b31;have z31:=(NV.gv HNV.out HRS.out).getsz (i:Int);clear pa5 pA0 pA1 pA2 pA3;have pa5:=(zx HX0 Bz).cell 5 (.slice (some ⟨g5,0,none⟩) rn rn) rfl;have pA0:=(hnd5.below (bT hB Bz)).c0' (u:=.bool y5.s) rfl;have pA1:=(hnd5.below (bT hB Bz)).at' 1 (.slice y5.A y5.l y5.c) rfl;have pA2:=(hnd5.below (bT hB Bz)).at' 2 (.bool y5.s') rfl;have pA3:=(hnd5.below (bT hB Bz)).at' 3 (.slice y5.A' y5.l' y5.c') rfl;refine hK.out _ _ ⟨pa5,pA0,pA1,pA2,pA3⟩ (fun _=>?_);try simp only[uW,uX,uY,uZ]
      clear hK K;refine zC 64 rfl rfl (fun K hK=>?_);go_simp
      with_reducible refine(same_q (RN.r' (RN.below h31) z31) (RN.r' (RN.below hr5) HZ5.out) (zi HD6.out) false HP).mono ?_
      rintro e w32 ⟨rfl,b32⟩;replace b32:=zq (a:=w31) b32;replace Bz:=bT Bz b32;clear b32;clear pa5 pA0 pA1 pA2 pA3;have pa5:=(zx HX0 Bz).cell 5 (.slice (some ⟨g5,0,none⟩) rn rn) rfl;have pA0:=(hnd5.below (bT hB Bz)).c0' (u:=.bool y5.s) rfl;have pA1:=(hnd5.below (bT hB Bz)).at' 1 (.slice y5.A y5.l y5.c) rfl;have pA2:=(hnd5.below (bT hB Bz)).at' 2 (.bool y5.s') rfl;have pA3:=(hnd5.below (bT hB Bz)).at' 3 (.slice y5.A' y5.l' y5.c') rfl;refine hK.out _ _ ⟨pa5,pA0,pA1,pA2,pA3⟩ (fun _=>?_);try simp only[uW,uX,uY,uZ]
      clear hK K;refine zUa ?_;try simp only[uW,uX,uY,uZ]
      refine wpPlan_done ?_;go_wp2_with fail
      go_ret
      have hF:=bT (c:=w32) hB Bz;exact⟨rfl,bT (bT hB Bz)⟩
     ·have HP:=zh hp;clear hp;have Bz:=zr wr;have pa5:=(zx HX0 Bz).cell 5 (.slice (some ⟨g5,0,none⟩) rn rn) rfl;have pA0:=(hnd5.below (bT hB Bz)).c0' (u:=.bool y5.s) rfl;have pA1:=(hnd5.below (bT hB Bz)).at' 1 (.slice y5.A y5.l y5.c) rfl;have pA2:=(hnd5.below (bT hB Bz)).at' 2 (.bool y5.s') rfl;have pA3:=(hnd5.below (bT hB Bz)).at' 3 (.slice y5.A' y5.l' y5.c') rfl;go_wp2_with fail
      (try simp only[vAa,vBa,vC])
      refine zl (zz [0,1,3,4,5,6,7] (.only 2 (.only 8 (.take 9 .done)))) [] (zsa pa5 (zsa pA0 (zsa pA1 (zsa pA2 (zIa pA3))))) ?_;iterate 7 (refine zUa ?_;try simp only[uW,uX,uY,uZ])
      refine zC 58 rfl rfl (fun K hK=>?_);go_simp
      with_reducible refine(getV_q (i:Int) ((NV.below HNV.out (bT hBW (bT (b:=wr) Bz))).gv HRS.out) HD6.out HKN.out (zt hT hB Bz)).mono ?_
      rintro e w31 ⟨s31,A31,c31,l31,s31r,A31r,c31r,l31r,rfl,h31,b31⟩;replace b31:=zq (a:=wr) b31;replace hr5:=hr5.below b31;replace Bz:=bT Bz b31;clear b31;have z31:=(NV.gv HNV.out HRS.out).getsz (i:Int);clear pa5 pA0 pA1 pA2 pA3;have pa5:=(zx HX0 Bz).cell 5 (.slice (some ⟨g5,0,none⟩) rn rn) rfl;have pA0:=(hnd5.below (bT hB Bz)).c0' (u:=.bool y5.s) rfl;have pA1:=(hnd5.below (bT hB Bz)).at' 1 (.slice y5.A y5.l y5.c) rfl;have pA2:=(hnd5.below (bT hB Bz)).at' 2 (.bool y5.s') rfl;have pA3:=(hnd5.below (bT hB Bz)).at' 3 (.slice y5.A' y5.l' y5.c') rfl;refine hK.out _ _ ⟨pa5,pA0,pA1,pA2,pA3⟩ (fun _=>?_);try simp only[uW,uX,uY,uZ]
      clear hK K;refine zC 64 rfl rfl (fun K hK=>?_);go_simp
      with_reducible refine(same_q (RN.r' (RN.below h31) z31) (RN.r' (RN.below hr5) HZ5.out) (zi HD6.out) true HP).mono ?_
      rintro e w32 ⟨rfl,b32⟩;replace b32:=zq (a:=w31) b32;replace Bz:=bT Bz b32;clear b32;clear pa5 pA0 pA1 pA2 pA3;have pa5:=(zx HX0 Bz).cell 5 (.slice (some ⟨g5,0,none⟩) rn rn) rfl;have pA0:=(hnd5.below (bT hB Bz)).c0' (u:=.bool y5.s) rfl;have pA1:=(hnd5.below (bT hB Bz)).at' 1 (.slice y5.A y5.l y5.c) rfl;have pA2:=(hnd5.below (bT hB Bz)).at' 2 (.bool y5.s') rfl;have pA3:=(hnd5.below (bT hB Bz)).at' 3 (.slice y5.A' y5.l' y5.c') rfl;refine hK.out _ _ ⟨pa5,pA0,pA1,pA2,pA3⟩ (fun _=>?_);try simp only[uW,uX,uY,uZ]
      clear hK K;refine zUa ?_;try simp only[uW,uX,uY,uZ]
      refine wpPlan_done ?_;go_wp2_with fail
      go_roundg (rn-(i+1))
      case measure=>have:=HGK.out;omega
      case rel=>exact⟨i+1,zo,rfl,by go_num,bT (bT hBW Bz),take_all HD.out HTI.out HP.out⟩
    ·obtain rfl:i=rn:=zo;obtain⟨rn,hrn0⟩:∃rn,rn=i:=⟨_,rfl⟩;subst hrn0;have i3:¬(rn:Int)<(rn:Int):=zo;obtain rfl:r=true:=by rw[←HRE.out];exact all_yes HEL.out HD.out
     have Bz:=zr wr;go_wp2_with fail
     go_ret
     have hF:=bT (c:=wr) hB Bz;exact⟨rfl,bT (bT hB Bz)⟩
end Go.Proofs.YtjkgjiofmgapfaaGreatDoor
