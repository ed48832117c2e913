import Derived.Test.YtiondclbdgijbaaGreatDoorYSo1
import Derived.Test.YtiondclbdgijbaaGreatDoorYVj
set_option maxHeartbeats 8000000
set_option maxRecDepth 100000
namespace Go.Proofs.YtiondclbdgijbaaGreatDoor
open Go.RowKit Tw
variable {L:List Tm} {A:Option Addr} {M:Nat} {P:List (Int×Rat)}
def TellsO (w:World) (P:List (Int×Rat)) (M n:Nat) (e:Ending) (w':World):Prop :=
 ∃A' n' c' P',e=.returned (.slice A' n' c')∧GV w' A' n' c' P' (M+1)∧Rise P'∧(∀a,pget P' a=pget P a)∧n'≤n∧Below w.heap.size w w'
def OR1 (w:World) (L:List Tm) (n gk:Nat) (s:Value) (wr:World):Prop:=∃i:Nat,i≤n∧n-i=gk∧s=.int .i64 (i:Int)∧Below w.heap.size w wr∧Rise (prs (L.take i))
theorem rise_next {k:Nat} {x y:Tm} (h:Rise (prs (L.take (k+1)))) (hy:L[k]?=some y) (hx:L[k+1]?=some x) (hl:y.at_<x.at_):Rise (prs (L.take (k+1+1))):=by
 rw[zAi hx,prs_append];refine h.snoc fun z hz=>?_;rw[zAi hy,prs_append] at h hz;rcases uD.1 hz with hz | hz
 ·have:=(Rise.front (x:=(y.at_,y.x.q)) h).2 z hz;simp only at this ⊢
  omega
 ·obtain rfl:=uC.1 hz;exact hl
theorem ordered_q {w:World} {n c:Nat} (h:GV w A n c P M) (hM:M≤19000000000) (hn:n≤1000000) (hT:Hid (Tab w)) :
  Calls Tryz.prog 110 #[.slice A n c] w (TellsO w P M n):=by
 have hg:=zh h;obtain⟨L,h1,h2,rfl,h4,h5⟩:=h;have HS:=zh h1;have HLN:=zh h1.1;clear h1 h2 h4 h5;go_enter Tryz.func110,Tryz.ntmps110
 go_wp2_with fail
 go_loopg [6] n (fun gk s wr=>OR1 w L n gk s wr)
 case atStart=>exact⟨0,uA _,rfl,rfl,Below.refl _ _,List.Pairwise.nil⟩
 case round =>
  obtain⟨i,hi,hgk,rfl,hB,hr⟩:=hrel;have HGK:=zh hgk;clear hgk;by_cases hlt:i<n
  ·obtain⟨b,off,rfl,hel⟩:=HS.out.at Tm.cs_len zo zo;obtain⟨x,hx⟩:∃x,L[i]?=some x:=⟨L[i]'(by rw[HLN.out];exact hlt),cA _⟩;have hnd:=hel i x hx;cases i with
   | zero =>
    have HR2:Hid (Rise (prs (L.take (0+1)))):=zh (by rw[zAi hx];exact List.pairwise_singleton _ _);have i1:(0:Int)<(n:Int):=zo;clear hx hel hr;have Bz:=zr wr;go_wp2_with fail
    (try simp only[vAa,vBa,vC])
    refine zl (zz [0,1,2,3,4,5,6,7,8,9,10,11,12,13,14,15] .done) [] zn ?_;iterate 3 (refine zUa ?_;try simp only[uW,uX,uY,uZ])
    iterate 12 (refine zN rfl rfl ?_;try simp only[uW,uX,uY,uZ])
    refine zUa ?_;try simp only[uW,uX,uY,uZ]
    refine wpPlan_done ?_;go_wp2_with fail
    go_roundg (n-(0+1))
    case measure=>have:=HGK.out;omega
    case rel=>exact⟨0+1,zo,rfl,by go_num,bT (bT hB Bz),HR2.out⟩
   | succ k =>
    obtain⟨y,hy⟩:∃y,L[k]?=some y:=⟨L[k]'(by rw[HLN.out];omega),cA _⟩;have hnd':=hel k y hy;have i1:(k:Int)+1<(n:Int):=zo;have i2:(0:Int)≤(k:Int)+1:=zo;have i3:(0:Int)≤(k:Int):=zo;have i4:(k:Int)<(n:Int):=zo;have i5:(0:Int)<(k:Int)+1:=zo;have w6:IntKind.i64.wrap ((k:Int)+1-1)=(k:Int):=by rw[IntWalk.i64_in _ zo];omega
    have w7:IntKind.i64.wrap (k:Int)=(k:Int):=IntWalk.i64_in _ zo;by_cases hl:y.at_<x.at_
    ·have HR2:=zh (rise_next hr hy hx hl);have g1:¬x.at_≤y.at_:=zo;clear hx hy hel hr hl;have Bz:=zr wr;have pA0:=(hnd.below (bT hB Bz)).c0 (u:=.int .i64 x.at_) rfl;have pB0:=(hnd'.below (bT hB Bz)).c0 (u:=.int .i64 y.at_) rfl;go_wp2_with fail
     (try simp only[vAa,vBa,vC])
     refine zl (zz [0,1,2,3,4,5,6,7,8,9,10,11,12,13,14,15] .done) [] (zsa pA0 (zIa pB0)) ?_;iterate 16 (refine zUa ?_;try simp only[uW,uX,uY,uZ])
     refine wpPlan_done ?_;go_wp2_with fail
     go_roundg (n-(k+1+1))
     case measure=>have:=HGK.out;omega
     case rel=>exact⟨k+1+1,zo,rfl,by go_num,bT (bT hB Bz),HR2.out⟩
    ·have g1:x.at_≤y.at_:=zo;clear hx hy hel hr hl;have Bz:=zr wr;have pA0:=(hnd.below (bT hB Bz)).c0 (u:=.int .i64 x.at_) rfl;have pB0:=(hnd'.below (bT hB Bz)).c0 (u:=.int .i64 y.at_) rfl;go_wp2_with fail
     (try simp only[vAa,vBa,vC])
     refine zl (zz [0,1,2,3,4,5,6,7,8,9,10,11,12,13,14,15] .done) [] (zsa pA0 (zIa pB0)) ?_;iterate 16 (refine zUa ?_;try simp only[uW,uX,uY,uZ])
     refine wpPlan_done ?_;go_wp2_with fail
     with_reducible refine(normV_q (hg.out.below (bT hB (bT (b:=wr) Bz))) hM hn (zt hT hB Bz)).mono ?_
     rintro e w1 ⟨A1,n1,c1,rfl,h1,q⟩;replace q:=zq (a:=wr) q;replace Bz:=bT Bz q;clear q;clear pA0 pB0;go_wp2_with fail
     go_ret
     have hF:=bT (c:=w1) hB Bz;have hF2:=h1.len;exact⟨A1,n1,c1,nrm (prs L),rfl,(NV.below h1).gv (nrm_nrm _).rise,(nrm_nrm _).rise,nrm_get _,by have:=nrm_len (prs L);have:=HLN.out;rw[prs_len] at *;omega,bT (bT hB Bz)⟩
  ·obtain rfl:i=n:=zo;have i1:¬(i:Int)<(i:Int):=zo;rw[fA (by rw[HLN.out];exact aA _)] at hr;have HR:=zh hr;clear hr;go_wp2_with fail
   go_ret
   exact⟨A,i,c,prs L,rfl,(hg.out.below hB).mono (Nat.le_succ _),HR.out,fun _=>rfl,aA _,hB⟩
def DT1 (w W:World) (vb:Nat) (P Q:List (Int×Rat)) (n m D gk:Nat) (s6 s7:Value) (wr:World):Prop :=
 ∃(i j:Nat) (q:Rat) (sS:Bool) (sA:Option Addr) (sc sl:Nat) (sS':Bool) (sA':Option Addr) (sc' sl':Nat),s6=.int .i64 (i:Int)∧s7=.int .i64 (j:Int)∧i≤n∧j≤m∧n-i+(m-j)≤gk∧RN wr sS sA sc sl sS' sA' sc' sl' q∧Dotted q P Q i j∧sz q≤1+i*D∧
  Bx wr w.heap.size #[.bool false,.slice none 0 0,.bool false,.slice none 0 0] 47∧Bx wr vb #[.bool sS,.slice sA sl sc,.bool sS',.slice sA' sl' sc'] 47∧Below w.heap.size w wr∧Below W.heap.size W wr
theorem dotV_q {w:World} {X Y:Option Addr} {n cx m cy M':Nat} {Q:List (Int×Rat)} (h:GV w X n cx P M) (h':GV w Y m cy Q M') (hM0:n*(M+M'+3)≤15000000000) (hM:M≤15000000000) (hM':M'≤15000000000) (hn:n≤1000000) (hm:m≤1000000) (hT:Hid (Tab w)) :
  Calls Tryz.prog 90 #[.slice X n cx,.slice Y m cy] w (TellsR w (pdot P Q)):=by
 have hx:=zh h;have hy:=zh h';have hM:M≤19000000000:=zo;have hM':M'≤19000000000:=zo;clear h h';obtain⟨W,hW,x0,hB⟩:=zAb w #[.bool false,.slice none 0 0,.bool false,.slice none 0 0] 47;have HX0:=zh x0;clear x0;have Bz:=zr W;go_enter Tryz.func90,Tryz.ntmps90
 go_wp2_with fail
 rw[←hW];clear hW;go_wp2_with fail
 with_reducible refine(ordered_q (hx.out.below (bT hB (bT (b:=W) Bz))) hM hn (zt hT hB Bz)).mono ?_
 rintro e w1 ⟨A1,n1,c1,P1,rfl,h1,r1,e1,l1,z⟩;replace z:=zq (a:=W) z;replace Bz:=bT Bz z;clear z;go_wp2_with fail
 with_reducible refine(ordered_q (hy.out.below (bT hB (bT (b:=w1) Bz))) hM' hm (zt hT hB Bz)).mono ?_
 rintro e w2 ⟨A2,n2,c2,P2,rfl,h2,r2,e2,l2,z⟩;replace z:=zq (a:=w1) z;replace h1:=h1.below z;replace Bz:=bT Bz z;clear z;go_upto_region 3 with(fail)
 obtain⟨V1,hW,x1,hN⟩:=zAb w2 #[.bool false,.slice none 0 0,.bool false,.slice none 0 0] 47;rw[←hW];clear hW;obtain⟨v1,hb1⟩:=ze w2.heap.size;rw[←hb1] at x1 ⊢;have o0_1:w.heap.size<v1:=zi (zx HX0 Bz).lt;have ow_1:w.heap.size≤v1:=zi (zw hB Bz);replace hB:=bT (bT hB Bz) hN;replace HX0:=zba HX0 Bz hN;have HX1:=zh x1;have HN2:=zh hN;have how2:w2.heap.size≤v1:=zo;clear x1 hN Bz hb1;have Bz:=zr V1;go_wp2_with fail
 obtain⟨LX,x1,x2,rfl,x4,x5⟩:=h1;obtain⟨LY,y1,y2,rfl,y4,y5⟩:=h2;obtain⟨D,hD⟩:∃D,D=M+M'+3:=⟨_,rfl⟩;rw[←hD] at hM0;have HSX:=zh x1;have HSY:=zh y1;have HLX:=zh x1.1;have HLY:=zh y1.1;have HOX:=zh x2;have HOY:=zh y2;have HWX:=zh x4;have HWY:=zh y4;have HRX:=zh r1;have HRY:=zh r2;have HGX:=zh e1;have HGY:=zh e2;have HB1:=zh (bT hB Bz);have XX0:=zh (zx HX0 Bz);have XX1:=zh (zx HX1 Bz);clear x1 x2 x4 x5 y1 y2 y4 y5 r1 r2 e1 e2 hB Bz HX0 HX1;go_loopg [6,7] (n1+n2) (fun gk s6 s7 wr=>DT1 w w2 v1 (prs LX) (prs LY) n1 n2 D gk s6 s7 wr)
 case atStart=>exact⟨0,0,0,_,_,_,_,_,_,_,_,rfl,rfl,uA _,uA _,aA _,RN.zero _,Dotted.start _ _,wA sz_zero zo,XX0.out,XX1.out,HB1.out,HN2.out⟩
 case round =>
  clear HB1 XX0 XX1 HN2;obtain⟨i,j,q,sS,sA,sc,sl,sS',sA',sc',sl',rfl,rfl,hi,hj,hgk,hs,hd,hsq,hx0,hx1,hB,hBW⟩:=hrel;have HDT:=zh hd;have HX0:=zh hx0;have HX1:=zh hx1;clear hd hx0 hx1;by_cases hin:i<n1
  ·have i1:(i:Int)<(n1:Int):=zo;by_cases hjm:j<n2
   ·obtain⟨bx,ox,rfl,hel⟩:=HSX.out.at Tm.cs_len zo zo;obtain⟨by_,oy,rfl,hel'⟩:=HSY.out.at Tm.cs_len zo zo;obtain⟨x,ex⟩:∃x,LX[i]?=some x:=⟨LX[i]'(by rw[HLX.out];exact hin),cA _⟩;obtain⟨y,ey⟩:∃y,LY[j]?=some y:=⟨LY[j]'(by rw[HLY.out];exact hjm),cA _⟩;have hnd:=hel i x ex;have hnd':=hel' j y ey;have hfx:=HOX.out x (eA ex);have hfy:=HOY.out y (eA ey);have hrx:R wr x.x.s x.x.A x.x.c x.x.l x.x.s' x.x.A' x.x.c' x.x.l' x.x.q (dgT x):=(hfx.below hBW).r;have hry:R wr y.x.s y.x.A y.x.c y.x.l y.x.s' y.x.A' y.x.c' y.x.l' y.x.q (dgT y):=(hfy.below hBW).r;have hdx:dgT x+2≤M+1:=wA (wsum_mem (eA ex)) (HWX.out _);have hdy:dgT y+2≤M'+1:=wA (wsum_mem (eA ey)) (HWY.out _);have hsx:=hfx.szd;have hsy:=hfy.szd;have hsm:sz (x.x.q*y.x.q)≤(dgT x+1)+(dgT y+1):=sz_mul hsx hsy;have hsa:=sz_add hsq hsm;have hiD:i*D≤n*D:=fB _ zo;have hiS:(i+1)*D=i*D+D:=by rw[xB,fE]
    have hD1:D≤n*D:=Nat.le_mul_of_pos_left D zo;have hpx:=prs_get ex;have hpy:=prs_get ey;have j1:(j:Int)<(n2:Int):=zo;have i2:(0:Int)≤(i:Int):=zo;have j2:(0:Int)≤(j:Int):=zo;clear hel hel' ex ey hfx hfy;by_cases hxy:x.at_<y.at_
    ·have HD2:Hid (Dotted q (prs LX) (prs LY) (i+1) j):=zh (HDT.out.left HRX.out HRY.out hpx hpy hxy);have HS1:Hid (sz q≤1+(i+1)*D):=zh (by rw[hiS];omega);have g1:x.at_<y.at_:=hxy;clear hxy hpx hpy;have Bz:=zr wr;have pA0:=(hnd.below (bT hBW Bz)).c0 (u:=.int .i64 x.at_) rfl;have pB0:=(hnd'.below (bT hBW Bz)).c0 (u:=.int .i64 y.at_) rfl;go_wp2_with fail
     (try simp only[vAa,vBa,vC])
     refine zl (zz [0,1,2,3,4,5,6,7,8,9,10,11] .done) [] (zsa pA0 (zIa pB0)) ?_;iterate 12 (refine zUa ?_;try simp only[uW,uX,uY,uZ])
     refine wpPlan_done ?_;go_wp2_with fail
     have hs1:=HS1.out;go_roundg (n1-(i+1)+(n2-(j)))
     case measure=>omega
     case rel=>exact⟨i+1,j,_,_,_,_,_,_,_,_,_,by go_num,rfl,zo,zo,aA _,RN.below hs,HD2.out,hs1,HX0.out.below (bT Bz),HX1.out.below (bT Bz),bT (bT hB Bz),bT (bT hBW Bz)⟩
    ·have g1:¬x.at_<y.at_:=hxy;by_cases hyx:y.at_<x.at_
     ·have HD2:Hid (Dotted q (prs LX) (prs LY) i (j+1)):=zh (HDT.out.right HRX.out HRY.out hpx hpy hyx);have HS1:Hid (sz q≤1+i*D):=zh hsq;have g2:y.at_<x.at_:=hyx;clear hxy hyx hpx hpy;have Bz:=zr wr;have pA0:=(hnd.below (bT hBW Bz)).c0 (u:=.int .i64 x.at_) rfl;have pB0:=(hnd'.below (bT hBW Bz)).c0 (u:=.int .i64 y.at_) rfl;go_wp2_with fail
      (try simp only[vAa,vBa,vC])
      refine zl (zz [0,1,2,3,4,5,6,7,8,9,10,11] .done) [] (zsa pA0 (zIa pB0)) ?_;iterate 12 (refine zUa ?_;try simp only[uW,uX,uY,uZ])
      refine wpPlan_done ?_;go_wp2_with fail
      (try simp only[vAa,vBa,vC])
      refine zl (zz [0,1,2,3,4,5,6,7,8,9,10,11] .done) [] (zsa pA0 (zIa pB0)) ?_;iterate 12 (refine zUa ?_;try simp only[uW,uX,uY,uZ])
      refine wpPlan_done ?_;go_wp2_with fail
      have hs1:=HS1.out;go_roundg (n1-(i)+(n2-(j+1)))
      case measure=>omega
      case rel=>exact⟨i,j+1,_,_,_,_,_,_,_,_,_,rfl,by go_num,zo,zo,aA _,RN.below hs,HD2.out,hs1,HX0.out.below (bT Bz),HX1.out.below (bT Bz),bT (bT hB Bz),bT (bT hBW Bz)⟩
     ·have HD2:Hid (Dotted (q+x.x.q*y.x.q) (prs LX) (prs LY) (i+1) (j+1)):=zh (HDT.out.both HRX.out HRY.out hpx hpy (show x.at_=y.at_ by omega));have HS1:Hid (sz (q+x.x.q*y.x.q)≤1+(i+1)*D):=zh (by rw[hiS];omega);have g2:¬y.at_<x.at_:=hyx;clear hxy hyx hpx hpy;have Bz:=zr wr;obtain⟨pb0,pb1,pb2,pb3,-⟩:=(zx HX1 Bz).cz;obtain⟨y1,f1_0,fb1,fb2,fb3,-⟩:=(zx HX1 Bz).fz;obtain⟨pA0,pA1,pA2,pA3,pA4,-⟩:=(hnd.below (bT hBW Bz)).ez;obtain⟨pB0,pB1,pB2,pB3,pB4,-⟩:=(hnd'.below (bT hBW Bz)).ez;go_wp2_with fail
      (try simp only[vAa,vBa,vC])
      refine zl (zz [0,1,2,3,4,5,6,7,8,9,10,11] .done) [] (zsa pA0 (zIa pB0)) ?_;iterate 12 (refine zUa ?_;try simp only[uW,uX,uY,uZ])
      refine wpPlan_done ?_;go_wp2_with fail
      (try simp only[vAa,vBa,vC])
      refine zl (zz [0,1,2,3,4,5,6,7,8,9,10,11] .done) [] (zsa pA0 (zIa pB0)) ?_;iterate 12 (refine zUa ?_;try simp only[uW,uX,uY,uZ])
      refine wpPlan_done ?_;go_wp2_with fail
      (try simp only[vAa,vBa,vC])
      refine zl (.take 0 (.pure 1 (.pure 2 (.pure 3 (.pure 4 (.take 5 (.pure 6 (.pure 7 (.pure 8 (.pure 9 (.take 10 (.only 11 (.only 12 (.only 13 .done)))))))))))))) [13] (zsa pb0 (zsa pb1 (zsa pb2 (zsa pb3 (zsa pA1 (zsa pA2 (zsa pA3 (zsa pA4 (zsa pB1 (zsa pB2 (zsa pB3 (zIa pB4)))))))))))) ?_;iterate 11 ((first|refine zUa ?_|refine zV ?_);try simp only[uW,uX,uY,uZ])
      refine zC 33 rfl rfl (fun K hK=>?_);go_simp
      with_reducible refine(mul_q (R.below hrx) (R.below hry) zo (zt hT hB Bz)).mono ?_
      rintro e w11 ⟨s11,A11,c11,l11,s11r,A11r,c11r,l11r,rfl,h11,z⟩;replace z:=zq (a:=wr) z;replace hs:=hs.below z;replace Bz:=bT Bz z;clear z;clear pb0 pb1 pb2 pb3 f1_0 fb1 fb2 fb3 y1 pA0 pA1 pA2 pA3 pA4 pB0 pB1 pB2 pB3 pB4;obtain⟨pb0,pb1,pb2,pb3,-⟩:=(zx HX1 Bz).cz;obtain⟨y1,f1_0,fb1,fb2,fb3,-⟩:=(zx HX1 Bz).fz;obtain⟨-,pA1,pA2,pA3,pA4,-⟩:=(hnd.below (bT hBW Bz)).ez;obtain⟨-,pB1,pB2,pB3,pB4,-⟩:=(hnd'.below (bT hBW Bz)).ez;refine hK.out _ _ ⟨pb0,pb1,pb2,pb3,pA1,pA2,pA3,pA4,pB1,pB2,pB3,pB4⟩ (fun _=>?_);try simp only[uW,uX,uY,uZ]
      clear hK K;refine zC 34 rfl rfl (fun K hK=>?_);go_simp
      with_reducible refine(add_q (R.below hs.r) (R.below h11.r) zo (zt hT hB Bz)).mono ?_
      rintro e w12 ⟨s12,A12,c12,l12,s12r,A12r,c12r,l12r,rfl,h12,z⟩;replace z:=zq (a:=w11) z;replace Bz:=bT Bz z;clear z;clear pb0 pb1 pb2 pb3 f1_0 fb1 fb2 fb3 y1 pA1 pA2 pA3 pA4 pB1 pB2 pB3 pB4;obtain⟨pb0,pb1,pb2,pb3,-⟩:=(zx HX1 Bz).cz;obtain⟨y1,f1_0,fb1,fb2,fb3,-⟩:=(zx HX1 Bz).fz;obtain⟨-,pA1,pA2,pA3,pA4,-⟩:=(hnd.below (bT hBW Bz)).ez;obtain⟨-,pB1,pB2,pB3,pB4,-⟩:=(hnd'.below (bT hBW Bz)).ez;refine hK.out _ _ ⟨pb0,pb1,pb2,pb3,pA1,pA2,pA3,pA4,pB1,pB2,pB3,pB4⟩ (fun _=>?_);try simp only[uW,uX,uY,uZ]
      clear hK K;refine wpPlan_late (o:=⟨none,_,_,_,_,_⟩) rfl rfl zd (fun K hK=>?_);go_simp
      refine hK.out _ _ ?_;try simp only[Act.put,uX,uY,uZ]
      clear hK K;refine wpPlan_done ?_;obtain⟨V11,hW,x,kk,far,bel⟩:=store4 (.bool s12) (.slice A12 l12 c12) (.bool s12r) (.slice A12r l12r c12r) (zx HX1 Bz) nofun nofun nofun nofun;rw[←hW];clear hW;replace h12:=h12.k kk;replace hB:=bel w.heap.size w zo (bT hB Bz);replace hBW:=bel w2.heap.size w2 zo (bT hBW Bz);replace HX0:=zf far HX0 Bz;replace HX1:=zh x;clear x kk far bel Bz;have Bz:=zr V11;clear pb0 pb1 pb2 pb3 f1_0 fb1 fb2 fb3 y1 pA1 pA2 pA3 pA4 pB1 pB2 pB3 pB4;go_wp2_with fail
      have hs1:=HS1.out;go_roundg (n1-(i+1)+(n2-(j+1)))
      case measure=>omega
      case rel=>exact⟨i+1,j+1,_,_,_,_,_,_,_,_,_,by go_num,by go_num,zo,zo,aA _,RN.below h12,HD2.out,hs1,HX0.out.below (bT Bz),HX1.out.below (bT Bz),bT (bT hB Bz),bT (bT hBW Bz)⟩
   ·obtain rfl:j=n2:=zo;have j1:¬(j:Int)<(j:Int):=zo;have HEND:Hid (q=pdot P Q):=zh (by rw[HDT.out.done (.inr (by rw[prs_len,HLY.out];exact aA _)),pdot_congr HGY.out,pdot_congr_left HGX.out]);have Bz:=zr wr;obtain⟨pa0,pa1,pa2,pa3,-⟩:=(zx HX0 Bz).cz;obtain⟨y0,fa0,fa1,fa2,fa3,-⟩:=(zx HX0 Bz).fz;obtain⟨pb0,pb1,pb2,pb3,-⟩:=(zx HX1 Bz).cz;go_wp2_with fail
    (try simp only[Exit.inBlock,Exit.then])
    refine bodyPost_ret (by simp[results,Tryz.results90,go_sem,pa0,pa1,pa2,pa3];try rfl) rfl ?_;obtain⟨V1,hW,x,kk,far,bel⟩:=store4 (.bool sS) (.slice sA sl sc) (.bool sS') (.slice sA' sl' sc') (zx HX0 Bz) nofun nofun nofun nofun;rw[←hW];clear hW;replace hs:=hs.k kk;replace hB:=bel w.heap.size w zo (bT hB Bz);replace HX1:=zf far HX1 Bz;replace HX0:=zh x;clear x kk far bel Bz;have Bz:=zr V1;have hF:=bT (c:=V1) hB Bz;exact⟨_,_,_,_,_,_,_,_,rfl,by rw[←HEND.out];exact RN.below hs,bT hF⟩
  ·obtain rfl:i=n1:=zo;have i1:¬(i:Int)<(i:Int):=zo;have HEND:Hid (q=pdot P Q):=zh (by rw[HDT.out.done (.inl (by rw[prs_len,HLX.out];exact aA _)),pdot_congr HGY.out,pdot_congr_left HGX.out]);have Bz:=zr wr;obtain⟨pa0,pa1,pa2,pa3,-⟩:=(zx HX0 Bz).cz;obtain⟨y0,fa0,fa1,fa2,fa3,-⟩:=(zx HX0 Bz).fz;obtain⟨pb0,pb1,pb2,pb3,-⟩:=(zx HX1 Bz).cz;go_wp2_with fail
   (try simp only[Exit.inBlock,Exit.then])
   refine bodyPost_ret (by simp[results,Tryz.results90,go_sem,pa0,pa1,pa2,pa3];try rfl) rfl ?_;obtain⟨V1,hW,x,kk,far,bel⟩:=store4 (.bool sS) (.slice sA sl sc) (.bool sS') (.slice sA' sl' sc') (zx HX0 Bz) nofun nofun nofun nofun;rw[←hW];clear hW;replace hs:=hs.k kk;replace hB:=bel w.heap.size w zo (bT hB Bz);replace HX1:=zf far HX1 Bz;replace HX0:=zh x;clear x kk far bel Bz;have Bz:=zr V1;have hF:=bT (c:=V1) hB Bz;exact⟨_,_,_,_,_,_,_,_,rfl,by rw[←HEND.out];exact RN.below hs,bT hF⟩
theorem OnT.len {w:World} (h:OnT w L (fun _=>M)):∀t∈L,t.x.l≤M∧t.x.l'≤M:=fun t ht=>by have h1:=h.dg t ht;have h2:=(h t ht).2.2;unfold dgT at h1;simp only at h2;omega
def TellsW (w:World) (P:List (Int×Rat)) (K N:Nat) (e:Ending) (w':World):Prop:=∃A n c,e=.returned (.slice A n c)∧NV w' A n c P K∧n≤N∧Below w.heap.size w w'
def TellsNum (w:World) (q:Rat) (K:Nat) (e:Ending) (w':World):Prop:=∃s A c l s' A' c' l',e=.returned (.agg #[.bool s,.slice A l c,.bool s',.slice A' l' c'])∧RN w' s A c l s' A' c' l' q∧sz q≤K∧Below w.heap.size w w'
theorem TellsV.w {w w':World} {K N:Nat} {e:Ending} (h:TellsV w P M e w') (hK:M≤K) (hN:P.length≤N):TellsW w P K N e w':=by
 obtain⟨A,n,c,rfl,h1,h2⟩:=h;exact⟨A,n,c,rfl,h1.mono hK,by have:=h1.len;omega,h2⟩
theorem TellsR.num {w w':World} {q:Rat} {K:Nat} {e:Ending} (h:TellsR w q e w') (hK:sz q≤K):TellsNum w q K e w':=by
 obtain⟨s,A,c,l,s',A',c',l',rfl,h1,h2⟩:=h;exact⟨s,A,c,l,s',A',c',l',rfl,h1,hK,h2⟩
theorem GV.size {w:World} {n c N:Nat} (h:GV w A n c P M) (hn:n≤N):P.length≤N:=by rw[h.len];exact hn
theorem OnT.c {w:World} {s s':Bool} {A':Option Addr} {c l c' l':Nat} {q:Rat} (at_:Int) (h:RN w s A c l s' A' c' l' q) (hs:sz q≤1) (hL:OnT w L (fun _=>2)):OnT w (⟨at_,⟨s,A,c,l,s',A',c',l',q,true⟩⟩ :: L) (fun _=>2):=fun t ht=>by
 rcases rB.1 ht with rfl | ht
 ·exact⟨h,rfl,by simp only;omega⟩
 ·exact hL t ht
end Go.Proofs.YtiondclbdgijbaaGreatDoor
