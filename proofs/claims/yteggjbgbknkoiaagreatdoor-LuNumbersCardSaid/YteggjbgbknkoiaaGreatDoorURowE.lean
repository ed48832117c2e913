import Derived.Test.YteggjbgbknkoiaaGreatDoorURow
import Derived.Test.YteggjbgbknkoiaaGreatDoorUSh1E
set_option maxHeartbeats 8000000
set_option maxRecDepth 100000
namespace Go.Proofs.YteggjbgbknkoiaaGreatDoor
open Go.RowKit Tw
theorem exact_sp {w:World} {m:Nat} {x:Fr} (h:FrOk w m x) (hm:m≤40000000000) (t:Bool) (ht:Hid (x.ex=t)) (hT:Hid (Tab w)) :
  Calls Tryz.prog 56 #[.agg #[.bool x.s,.slice x.A x.l x.c,.bool x.s',.slice x.A' x.l' x.c']] w fun e w'=>e=.returned (.bool t)∧Below w.heap.size w w':=by
 obtain⟨h1,xs,ys,h2,h3,h4⟩:=h;exact exact_sparse h1 h2 h3 hm t (zh (h4.trans ht.out)) hT
def RT1 (w:World) (L:List Tm) (n:Int) (len gk:Nat) (s:Value) (wr:World):Prop:=∃i:Nat,i≤len∧len-i=gk∧s=.int .i64 (i:Int)∧Below w.heap.size w wr∧∀j,j<i→rightAt L n j=true
theorem rightB_true {L:List Tm} {n:Int} (h:∀j,j<L.length→rightAt L n j=true):rightB L n=true:=by
 unfold rightB;rw[wD];intro j hj;exact h j (xF.1 hj)
theorem rightB_false {L:List Tm} {n:Int} {i:Nat} (hi:i<L.length) (h:rightAt L n i=false):rightB L n=false:=by
 unfold rightB;rw[List.all_eq_false];exact⟨i,xF.2 hi,by rw[h];simp⟩
theorem right_q {w:World} {A:Option Addr} {len c m:Nat} {L:List Tm} {n:Int} (h:Sl Tm.cs 5 w A len c L) (hok:∀t∈L,FrOk w m t.x) (hm:m≤20000000000) (hlen:len≤1000000000) (r:Bool) (hr:Hid (rightB L n=r)) (hT:Hid (Tab w)) :
  Calls Tryz.prog 21 #[.slice A len c,.int .i64 n] w fun e w'=>e=.returned (.bool r)∧Below w.heap.size w w':=by
 have H:=zh h;have HOK:=zh hok;have HLN:=zh h.1;have hst:RT1 w L n len len (.int .i64 ((0:Nat):Int)) w:=⟨0,nA _,rfl,rfl,Below.refl _ _,fun j hj=>by omega⟩;have HST:=zh hst;clear h hok hst;go_enter Tryz.func21,Tryz.ntmps21
 go_wp2_with fail
 go_loopg [9] len (fun gk s wr=>RT1 w L n len gk s wr)
 case atStart=>exact HST.out
 case round =>
  clear HST;obtain⟨i,hi,hgk,rfl,hB,hd⟩:=hrel;have HGK:=zh hgk;have HD:=zh hd;clear hgk hd;by_cases hlt:i<len
  ·obtain⟨b,off,rfl,hel⟩:=H.out.at Tm.cs_len zo zo;obtain⟨t,ht⟩:∃t,L[i]?=some t:=⟨L[i]'(by rw[HLN.out];exact hlt),aA _⟩;have hnd:=hel i t ht;have hfr:=HOK.out t (dA ht);have hfx:=hfr.r;have HTI:=zh ht;replace hfr:=hfr.below hB;replace hfx:=hfx.below hB;have i1:(i:Int)<(len:Int):=zo;have i2:(0:Int)≤(i:Int):=zo;have HEL:=zh hel;obtain⟨sg,HSG⟩:∃sg,Hid (t.x.q.num.sign=sg):=⟨_,zh rfl⟩;obtain⟨ex,HEX⟩:∃ex,Hid (t.x.ex=ex):=⟨_,zh rfl⟩;clear ht hel;by_cases c1:t.at_<0
   ·have g1:decide (t.at_<0)=true:=by simpa using c1
    obtain rfl:r=false:=by rw[←hr.out];exact rightB_false (by rw[HLN.out];exact hlt) (by unfold rightAt;rw[HTI.out];simp;omega)
    clear c1;have Bz:=zr wr;obtain⟨pA0,pA1,pA2,pA3,pA4,-⟩:=(hnd.below (bT hB Bz)).ez;go_upto_region 4 with(fail)
    obtain⟨V1,hW,x0,hN⟩:=zAe wr #[.int .i64 t.at_,.bool t.x.s,.slice t.x.A t.x.l t.x.c,.bool t.x.s',.slice t.x.A' t.x.l' t.x.c'] 32;rw[←hW];clear hW;obtain⟨v0,hb0⟩:=ze wr.heap.size;rw[←hb0] at x0 ⊢;have ow_0:w.heap.size≤v0:=zi (zw hB Bz);replace hB:=bT (bT hB Bz) hN;have HX0:=zh x0;clear x0 hN Bz hb0;have Bz:=zr V1;clear pA0 pA1 pA2 pA3 pA4;have pa0:=(zxb HX0 Bz).cell 0 (.int .i64 t.at_) rfl;go_wp2_with fail
    go_ret
    have hF:=bT (c:=V1) hB Bz;exact⟨rfl,bT (bT hB Bz)⟩
   ·have g1:decide (t.at_<0)=false:=by simp;omega
    by_cases c2:n≤t.at_
    ·have g2:decide (n≤t.at_)=true:=by simpa using c2
     obtain rfl:r=false:=by rw[←hr.out];exact rightB_false (by rw[HLN.out];exact hlt) (by unfold rightAt;rw[HTI.out];simp;omega)
     clear c1 c2;have Bz:=zr wr;obtain⟨pA0,pA1,pA2,pA3,pA4,-⟩:=(hnd.below (bT hB Bz)).ez;go_upto_region 4 with(fail)
     obtain⟨V1,hW,x0,hN⟩:=zAe wr #[.int .i64 t.at_,.bool t.x.s,.slice t.x.A t.x.l t.x.c,.bool t.x.s',.slice t.x.A' t.x.l' t.x.c'] 32;rw[←hW];clear hW;obtain⟨v0,hb0⟩:=ze wr.heap.size;rw[←hb0] at x0 ⊢;have ow_0:w.heap.size≤v0:=zi (zw hB Bz);replace hB:=bT (bT hB Bz) hN;have HX0:=zh x0;clear x0 hN Bz hb0;have Bz:=zr V1;clear pA0 pA1 pA2 pA3 pA4;have pa0:=(zxb HX0 Bz).cell 0 (.int .i64 t.at_) rfl;go_wp2_with fail
     go_ret
     have hF:=bT (c:=V1) hB Bz;exact⟨rfl,bT (bT hB Bz)⟩
    ·have g2:decide (n≤t.at_)=false:=by simp;omega
     rcases mB i with rfl | hi0
     ·replace hnd:ElA w b off t.cs:=by simpa using hnd
      have a0:rightAt L n 0=(decide (t.x.q≠0)&&t.x.ex):=by
       have f1:decide (0≤t.at_)=true:=by simp;omega
       have f2:decide (t.at_<n)=true:=by simp;omega
       unfold rightAt;rw[HTI.out];simp only[f1,f2,Bool.true_and]
      have A0:=zh a0;clear c1 c2 a0 HEL;by_cases c4:sg=0
      ·have g4:(sg==0)=true:=by simpa using c4
       obtain rfl:r=false:=by rw[←hr.out];exact rightB_false (by rw[HLN.out];exact hlt) (by rw[A0.out];have:=HSG.out;rw[c4] at this;simp[Rat.num_eq_zero.1 (Int.sign_eq_zero_iff_zero.1 this)])
       clear c4;have Bz:=zr wr;obtain⟨pA0,pA1,pA2,pA3,pA4,-⟩:=(hnd.below (bT hB Bz)).ez;go_upto_region 4 with(fail)
       obtain⟨V1,hW,x0,hN⟩:=zAe wr #[.int .i64 t.at_,.bool t.x.s,.slice t.x.A t.x.l t.x.c,.bool t.x.s',.slice t.x.A' t.x.l' t.x.c'] 32;rw[←hW];clear hW;obtain⟨v0,hb0⟩:=ze wr.heap.size;rw[←hb0] at x0 ⊢;have ow_0:w.heap.size≤v0:=zi (zw hB Bz);replace hfx:=hfx.below hN;replace hB:=bT (bT hB Bz) hN;have HX0:=zh x0;clear x0 hN Bz hb0;have Bz:=zr V1;clear pA0 pA1 pA2 pA3 pA4;obtain⟨pa0,pa1,pa2,pa3,pa4,-⟩:=(zxb HX0 Bz).cz;go_wp2_with fail
       (try simp only[vAa,vBa,vC])
       refine zl (zz [0,1,2,3,4,5,6,7,8,9,10,11,12,13] .done) [] zn ?_;iterate 3 (refine zUa ?_;try simp only[Act.put,uX,uY,uZ])
       iterate 9 (refine zN rfl rfl ?_;try simp only[Act.put,uX,uY,uZ])
       iterate 2 (refine zUa ?_;try simp only[Act.put,uX,uY,uZ])
       refine zAa ?_;go_wp2_with fail
       with_reducible refine(sign_q (R.below hfx) zo sg HSG).mono ?_
       rintro e w1 ⟨rfl,z⟩;replace z:=zq (a:=V1) z;replace Bz:=bT Bz z;clear z;clear pa0 pa1 pa2 pa3 pa4;go_wp2_with fail
       go_ret
       have hF:=bT (c:=w1) hB Bz;exact⟨rfl,bT (bT hB Bz)⟩
      ·have g4:(sg==0)=false:=by simpa using c4
       have nz:t.x.q≠0:=fun e=>c4 (by rw[←HSG.out,e];rfl);have NZ:=zh nz;clear c4 nz;cases ex
       ·obtain rfl:r=false:=by rw[←hr.out];exact rightB_false (by rw[HLN.out];exact hlt) (by rw[A0.out,HEX.out];simp)
        have Bz:=zr wr;obtain⟨pA0,pA1,pA2,pA3,pA4,-⟩:=(hnd.below (bT hB Bz)).ez;go_upto_region 4 with(fail)
        obtain⟨V1,hW,x0,hN⟩:=zAe wr #[.int .i64 t.at_,.bool t.x.s,.slice t.x.A t.x.l t.x.c,.bool t.x.s',.slice t.x.A' t.x.l' t.x.c'] 32;rw[←hW];clear hW;obtain⟨v0,hb0⟩:=ze wr.heap.size;rw[←hb0] at x0 ⊢;have ow_0:w.heap.size≤v0:=zi (zw hB Bz);replace hfr:=hfr.below hN;replace hfx:=hfx.below hN;replace hB:=bT (bT hB Bz) hN;have HX0:=zh x0;clear x0 hN Bz hb0;have Bz:=zr V1;clear pA0 pA1 pA2 pA3 pA4;obtain⟨pa0,pa1,pa2,pa3,pa4,-⟩:=(zxb HX0 Bz).cz;go_wp2_with fail
        (try simp only[vAa,vBa,vC])
        refine zl (zz [0,1,2,3,4,5,6,7,8,9,10,11,12,13] .done) [] zn ?_;iterate 3 (refine zUa ?_;try simp only[Act.put,uX,uY,uZ])
        iterate 9 (refine zN rfl rfl ?_;try simp only[Act.put,uX,uY,uZ])
        iterate 2 (refine zUa ?_;try simp only[Act.put,uX,uY,uZ])
        refine zAa ?_;go_wp2_with fail
        with_reducible refine(sign_q (R.below hfx) zo sg HSG).mono ?_
        rintro e w1 ⟨rfl,z⟩;replace z:=zq (a:=V1) z;replace hfr:=hfr.below z;replace Bz:=bT Bz z;clear z;clear pa0 pa1 pa2 pa3 pa4;obtain⟨-,pa1,pa2,pa3,pa4,-⟩:=(zxb HX0 Bz).cz;go_wp2_with fail
        with_reducible refine(exact_sp (FrOk.below hfr) zo false HEX (zt hT hB Bz)).mono ?_
        rintro e w2 ⟨rfl,z⟩;replace z:=zq (a:=w1) z;replace Bz:=bT Bz z;clear z;clear pa1 pa2 pa3 pa4;go_wp2_with fail
        go_ret
        have hF:=bT (c:=w2) hB Bz;exact⟨rfl,bT (bT hB Bz)⟩
       ·have HA:Hid (rightAt L n 0=true):=zh (by rw[A0.out,HEX.out];simpa using NZ.out);have Bz:=zr wr;obtain⟨pA0,pA1,pA2,pA3,pA4,-⟩:=(hnd.below (bT hB Bz)).ez;go_upto_region 4 with(fail)
        obtain⟨V1,hW,x0,hN⟩:=zAe wr #[.int .i64 t.at_,.bool t.x.s,.slice t.x.A t.x.l t.x.c,.bool t.x.s',.slice t.x.A' t.x.l' t.x.c'] 32;rw[←hW];clear hW;obtain⟨v0,hb0⟩:=ze wr.heap.size;rw[←hb0] at x0 ⊢;have ow_0:w.heap.size≤v0:=zi (zw hB Bz);replace hfr:=hfr.below hN;replace hfx:=hfx.below hN;replace hB:=bT (bT hB Bz) hN;have HX0:=zh x0;clear x0 hN Bz hb0;have Bz:=zr V1;clear pA0 pA1 pA2 pA3 pA4;obtain⟨pa0,pa1,pa2,pa3,pa4,-⟩:=(zxb HX0 Bz).cz;go_wp2_with fail
        (try simp only[vAa,vBa,vC])
        refine zl (zz [0,1,2,3,4,5,6,7,8,9,10,11,12,13] .done) [] zn ?_;iterate 3 (refine zUa ?_;try simp only[Act.put,uX,uY,uZ])
        iterate 9 (refine zN rfl rfl ?_;try simp only[Act.put,uX,uY,uZ])
        iterate 2 (refine zUa ?_;try simp only[Act.put,uX,uY,uZ])
        refine zAa ?_;go_wp2_with fail
        with_reducible refine(sign_q (R.below hfx) zo sg HSG).mono ?_
        rintro e w1 ⟨rfl,z⟩;replace z:=zq (a:=V1) z;replace hfr:=hfr.below z;replace Bz:=bT Bz z;clear z;clear pa0 pa1 pa2 pa3 pa4;obtain⟨-,pa1,pa2,pa3,pa4,-⟩:=(zxb HX0 Bz).cz;go_wp2_with fail
        with_reducible refine(exact_sp (FrOk.below hfr) zo true HEX (zt hT hB Bz)).mono ?_
        rintro e w2 ⟨rfl,z⟩;replace z:=zq (a:=w1) z;replace Bz:=bT Bz z;clear z;clear pa1 pa2 pa3 pa4;go_wp2_with fail
        go_roundg (len-(0+1))
        case measure=>have:=HGK.out;omega
        case rel=>exact⟨0+1,zo,rfl,by go_num,bT (bT hB Bz),fun k hk=>by
         rcases kB k (0) with h1 | h1
         ·exact HD.out k h1
         ·obtain rfl:k=0:=zo;exact HA.out⟩
     ·obtain⟨j,rfl⟩:∃j,i=j+1:=⟨i-1,zo⟩;obtain⟨p,hp⟩:∃p,L[j]?=some p:=⟨L[j]'(by rw[HLN.out];omega),aA _⟩;have hpd:=HEL.out j p hp;have HP:=zh hp;have j1:(j:Int)<(len:Int):=zo;have j2:(0:Int)≤(j:Int):=zo;have j3:decide ((0:Int)<((j+1:Nat):Int))=true:=fC zo;have j4:(0:Int)<(j:Int)+1:=zo;have u1:IntKind.i64.wrap (((j+1:Nat):Int)-1)=(j:Int):=by rw[IntWalk.i64_in _ zo];omega
      have u3:IntKind.i64.wrap (j:Int)=(j:Int):=IntWalk.i64_in _ zo;have u2:IntKind.i64.wrap ((j:Int)+1-1)=(j:Int):=by rw[IntWalk.i64_in _ zo];omega
      have a0:rightAt L n (j+1)=(decide (p.at_<t.at_)&&decide (t.x.q≠0)&&t.x.ex):=by
       have f1:decide (0≤t.at_)=true:=by simp;omega
       have f2:decide (t.at_<n)=true:=by simp;omega
       unfold rightAt;rw[HTI.out];simp only[f1,f2,HP.out,Bool.true_and]
      have A0:=zh a0;clear c1 c2 a0 HEL hp hi0;by_cases c3:t.at_≤p.at_
      ·have g3:decide (t.at_≤p.at_)=true:=by simpa using c3
       obtain rfl:r=false:=by rw[←hr.out];exact rightB_false (by rw[HLN.out];exact hlt) (by rw[A0.out];simp;omega)
       clear c3;have Bz:=zr wr;obtain⟨pA0,pA1,pA2,pA3,pA4,-⟩:=(hnd.below (bT hB Bz)).ez;go_upto_region 4 with(fail)
       obtain⟨V1,hW,x0,hN⟩:=zAe wr #[.int .i64 t.at_,.bool t.x.s,.slice t.x.A t.x.l t.x.c,.bool t.x.s',.slice t.x.A' t.x.l' t.x.c'] 32;rw[←hW];clear hW;obtain⟨v0,hb0⟩:=ze wr.heap.size;rw[←hb0] at x0 ⊢;have ow_0:w.heap.size≤v0:=zi (zw hB Bz);replace hB:=bT (bT hB Bz) hN;have HX0:=zh x0;clear x0 hN Bz hb0;have Bz:=zr V1;clear pA0 pA1 pA2 pA3 pA4;have pa0:=(zxb HX0 Bz).cell 0 (.int .i64 t.at_) rfl;have pB0:=(hpd.below (bT hB Bz)).c0 (u:=.int .i64 p.at_) rfl;go_wp2_with fail
       (try simp only[vAa,vBa,vC])
       refine zl (zz [0,1,2,3,4,5,6,7,8,9,10,11,12,13] .done) [] (zsa pa0 (zIa pB0)) ?_;iterate 14 (refine zUa ?_;try simp only[Act.put,uX,uY,uZ])
       refine zAa ?_;go_wp2_with fail
       go_ret
       have hF:=bT (c:=V1) hB Bz;exact⟨rfl,bT (bT hB Bz)⟩
      ·have g3:decide (t.at_≤p.at_)=false:=by simpa using c3
       have C3:=zh c3;clear c3;by_cases c4:sg=0
       ·have g4:(sg==0)=true:=by simpa using c4
        obtain rfl:r=false:=by rw[←hr.out];exact rightB_false (by rw[HLN.out];exact hlt) (by rw[A0.out];have:=HSG.out;rw[c4] at this;simp[Rat.num_eq_zero.1 (Int.sign_eq_zero_iff_zero.1 this)])
        clear c4;have Bz:=zr wr;obtain⟨pA0,pA1,pA2,pA3,pA4,-⟩:=(hnd.below (bT hB Bz)).ez;go_upto_region 4 with(fail)
        obtain⟨V1,hW,x0,hN⟩:=zAe wr #[.int .i64 t.at_,.bool t.x.s,.slice t.x.A t.x.l t.x.c,.bool t.x.s',.slice t.x.A' t.x.l' t.x.c'] 32;rw[←hW];clear hW;obtain⟨v0,hb0⟩:=ze wr.heap.size;rw[←hb0] at x0 ⊢;have ow_0:w.heap.size≤v0:=zi (zw hB Bz);replace hfx:=hfx.below hN;replace hB:=bT (bT hB Bz) hN;have HX0:=zh x0;clear x0 hN Bz hb0;have Bz:=zr V1;clear pA0 pA1 pA2 pA3 pA4;obtain⟨pa0,pa1,pa2,pa3,pa4,-⟩:=(zxb HX0 Bz).cz;have pB0:=(hpd.below (bT hB Bz)).c0 (u:=.int .i64 p.at_) rfl;go_wp2_with fail
        (try simp only[vAa,vBa,vC])
        refine zl (zz [0,1,2,3,4,5,6,7,8,9,10,11,12,13] .done) [] (zsa pa0 (zIa pB0)) ?_;iterate 14 (refine zUa ?_;try simp only[Act.put,uX,uY,uZ])
        refine zAa ?_;go_wp2_with fail
        with_reducible refine(sign_q (R.below hfx) zo sg HSG).mono ?_
        rintro e w1 ⟨rfl,z⟩;replace z:=zq (a:=V1) z;replace Bz:=bT Bz z;clear z;clear pa0 pa1 pa2 pa3 pa4 pB0;go_wp2_with fail
        go_ret
        have hF:=bT (c:=w1) hB Bz;exact⟨rfl,bT (bT hB Bz)⟩
       ·have g4:(sg==0)=false:=by simpa using c4
        have nz:t.x.q≠0:=fun e=>c4 (by rw[←HSG.out,e];rfl);have NZ:=zh nz;clear c4 nz;cases ex
        ·obtain rfl:r=false:=by rw[←hr.out];exact rightB_false (by rw[HLN.out];exact hlt) (by rw[A0.out,HEX.out];simp)
         have Bz:=zr wr;obtain⟨pA0,pA1,pA2,pA3,pA4,-⟩:=(hnd.below (bT hB Bz)).ez;go_upto_region 4 with(fail)
         obtain⟨V1,hW,x0,hN⟩:=zAe wr #[.int .i64 t.at_,.bool t.x.s,.slice t.x.A t.x.l t.x.c,.bool t.x.s',.slice t.x.A' t.x.l' t.x.c'] 32;rw[←hW];clear hW;obtain⟨v0,hb0⟩:=ze wr.heap.size;rw[←hb0] at x0 ⊢;have ow_0:w.heap.size≤v0:=zi (zw hB Bz);replace hfr:=hfr.below hN;replace hfx:=hfx.below hN;replace hB:=bT (bT hB Bz) hN;have HX0:=zh x0;clear x0 hN Bz hb0;have Bz:=zr V1;clear pA0 pA1 pA2 pA3 pA4;obtain⟨pa0,pa1,pa2,pa3,pa4,-⟩:=(zxb HX0 Bz).cz;have pB0:=(hpd.below (bT hB Bz)).c0 (u:=.int .i64 p.at_) rfl;go_wp2_with fail
         (try simp only[vAa,vBa,vC])
         refine zl (zz [0,1,2,3,4,5,6,7,8,9,10,11,12,13] .done) [] (zsa pa0 (zIa pB0)) ?_;iterate 14 (refine zUa ?_;try simp only[Act.put,uX,uY,uZ])
         refine zAa ?_;go_wp2_with fail
         with_reducible refine(sign_q (R.below hfx) zo sg HSG).mono ?_
         rintro e w1 ⟨rfl,z⟩;replace z:=zq (a:=V1) z;replace hfr:=hfr.below z;replace Bz:=bT Bz z;clear z;clear pa0 pa1 pa2 pa3 pa4 pB0;obtain⟨-,pa1,pa2,pa3,pa4,-⟩:=(zxb HX0 Bz).cz;go_wp2_with fail
         with_reducible refine(exact_sp (FrOk.below hfr) zo false HEX (zt hT hB Bz)).mono ?_
         rintro e w2 ⟨rfl,z⟩;replace z:=zq (a:=w1) z;replace Bz:=bT Bz z;clear z;clear pa1 pa2 pa3 pa4;go_wp2_with fail
         go_ret
         have hF:=bT (c:=w2) hB Bz;exact⟨rfl,bT (bT hB Bz)⟩
        ·have HA:Hid (rightAt L n (j+1)=true):=zh (by rw[A0.out,HEX.out];have:=C3.out;simp[NZ.out];omega);have Bz:=zr wr;obtain⟨pA0,pA1,pA2,pA3,pA4,-⟩:=(hnd.below (bT hB Bz)).ez;go_upto_region 4 with(fail)
         obtain⟨V1,hW,x0,hN⟩:=zAe wr #[.int .i64 t.at_,.bool t.x.s,.slice t.x.A t.x.l t.x.c,.bool t.x.s',.slice t.x.A' t.x.l' t.x.c'] 32;rw[←hW];clear hW;obtain⟨v0,hb0⟩:=ze wr.heap.size;rw[←hb0] at x0 ⊢;have ow_0:w.heap.size≤v0:=zi (zw hB Bz);replace hfr:=hfr.below hN;replace hfx:=hfx.below hN;replace hB:=bT (bT hB Bz) hN;have HX0:=zh x0;clear x0 hN Bz hb0;have Bz:=zr V1;clear pA0 pA1 pA2 pA3 pA4;obtain⟨pa0,pa1,pa2,pa3,pa4,-⟩:=(zxb HX0 Bz).cz;have pB0:=(hpd.below (bT hB Bz)).c0 (u:=.int .i64 p.at_) rfl;go_wp2_with fail
         (try simp only[vAa,vBa,vC])
         refine zl (zz [0,1,2,3,4,5,6,7,8,9,10,11,12,13] .done) [] (zsa pa0 (zIa pB0)) ?_;iterate 14 (refine zUa ?_;try simp only[Act.put,uX,uY,uZ])
         refine zAa ?_;go_wp2_with fail
         with_reducible refine(sign_q (R.below hfx) zo sg HSG).mono ?_
         rintro e w1 ⟨rfl,z⟩;replace z:=zq (a:=V1) z;replace hfr:=hfr.below z;replace Bz:=bT Bz z;clear z;clear pa0 pa1 pa2 pa3 pa4 pB0;obtain⟨-,pa1,pa2,pa3,pa4,-⟩:=(zxb HX0 Bz).cz;go_wp2_with fail
         with_reducible refine(exact_sp (FrOk.below hfr) zo true HEX (zt hT hB Bz)).mono ?_
         rintro e w2 ⟨rfl,z⟩;replace z:=zq (a:=w1) z;replace Bz:=bT Bz z;clear z;clear pa1 pa2 pa3 pa4;go_wp2_with fail
         go_roundg (len-(j+1+1))
         case measure=>have:=HGK.out;omega
         case rel=>exact⟨j+1+1,zo,rfl,by go_num,bT (bT hB Bz),fun k hk=>by
          rcases kB k (j+1) with h1 | h1
          ·exact HD.out k h1
          ·obtain rfl:k=j+1:=zo;exact HA.out⟩
  ·obtain rfl:i=len:=zo;have i1:¬(i:Int)<(i:Int):=zo;obtain rfl:r=true:=by rw[←hr.out];exact rightB_true (by rw[HLN.out];exact HD.out)
   go_wp2_with fail
   go_ret
   exact⟨rfl,hB⟩
end Go.Proofs.YteggjbgbknkoiaaGreatDoor
