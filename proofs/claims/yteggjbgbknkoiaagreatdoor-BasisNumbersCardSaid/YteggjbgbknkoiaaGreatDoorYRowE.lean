import Derived.Test.YteggjbgbknkoiaaGreatDoorYRow
import Derived.Test.YteggjbgbknkoiaaGreatDoorYSh1E
set_option maxHeartbeats 8000000
set_option maxRecDepth 100000
namespace Go.Proofs.YteggjbgbknkoiaaGreatDoor
open Go.RowKit Tw
variable {b m:Nat} {L:List Tm} {w':World}
theorem exact_sp {w:World} {x:Fr} (h:FrOk w m x) (hm:m≤40000000000) (t:Bool) (ht:Hid (x.ex=t)) (hT:Hid (Tab w)) :
  Calls Tryz.prog 56 #[.agg #[.bool x.s,.slice x.A x.l x.c,.bool x.s',.slice x.A' x.l' x.c']] w fun e w'=>e=.returned (.bool t)∧Below w.heap.size w w':=by
 obtain⟨h1,xs,ys,h2,h3,h4⟩:=h;exact exact_sparse h1 h2 h3 hm t (zh (h4.trans ht.out)) hT
def RT1 (w:World) (L:List Tm) (n:Int) (len gk:Nat) (s:Value) (wr:World):Prop:=∃i:Nat,i≤len∧len-i=gk∧s=.int .i64 (i:Int)∧Below w.heap.size w wr∧∀j,j<i→rightAt L n j=true
theorem rightB_true {n:Int} (h:∀j,j<L.length→rightAt L n j=true):rightB L n=true:=by
 unfold rightB;rw[cE];intro j hj;exact h j (List.mem_range.1 hj)
theorem rightB_false {n:Int} {i:Nat} (hi:i<L.length) (h:rightAt L n i=false):rightB L n=false:=by
 unfold rightB;rw[List.all_eq_false];exact⟨i,List.mem_range.2 hi,by rw[h];simp⟩
theorem right_q {w:World} {A:Option Addr} {len c:Nat} {n:Int} (h:Sl Tm.cs 5 w A len c L) (hok:∀t∈L,FrOk w m t.x) (hm:m≤20000000000) (hlen:len≤1000000000) (r:Bool) (hr:Hid (rightB L n=r)) (hT:Hid (Tab w)) :
  Calls Tryz.prog 21 #[.slice A len c,.int .i64 n] w fun e w'=>e=.returned (.bool r)∧Below w.heap.size w w':=by
 have H:=zh h;have HOK:=zh hok;have HLN:=zh h.1;have hst:RT1 w L n len len (.int .i64 ((0:Nat):Int)) w:=⟨0,cB _,rfl,rfl,Below.refl _ _,fun j hj=>by omega⟩;have HST:=zh hst;clear h hok hst;go_enter Tryz.func21,Tryz.ntmps21
 go_wp2_with fail
 go_loopg [9] len (fun gk s wr=>RT1 w L n len gk s wr)
 case atStart=>exact HST.out
 case round =>
  clear HST;obtain⟨i,hi,hgk,rfl,hB,hd⟩:=hrel;have HGK:=zh hgk;have HD:=zh hd;clear hgk hd;by_cases hlt:i<len
  ·obtain⟨b,off,rfl,hel⟩:=H.out.at Tm.cs_len zo zo;obtain⟨t,ht⟩:∃t,L[i]?=some t:=⟨L[i]'(by rw[HLN.out];exact hlt),cA _⟩;have hnd:=hel i t ht;have hfr:=HOK.out t (eA ht);have hfx:=hfr.r;have HTI:=zh ht;replace hfr:=hfr.below hB;replace hfx:=hfx.below hB;have i1:(i:Int)<(len:Int):=zo;have i2:(0:Int)≤(i:Int):=zo;have HEL:=zh hel;obtain⟨sg,HSG⟩:∃sg,Hid (t.x.q.num.sign=sg):=⟨_,zh rfl⟩;obtain⟨ex,HEX⟩:∃ex,Hid (t.x.ex=ex):=⟨_,zh rfl⟩;clear ht hel;by_cases c1:t.at_<0
   ·have g1:decide (t.at_<0)=true:=by simpa using c1
    obtain rfl:r=false:=by rw[←hr.out];exact rightB_false (by rw[HLN.out];exact hlt) (by unfold rightAt;rw[HTI.out];simp;omega)
    clear c1;have Bz:=zr wr;obtain⟨pA0,pA1,pA2,pA3,pA4,-⟩:=(hnd.below (bT hB Bz)).ez;go_upto_region 4 with(fail)
    obtain⟨V1,hW,x0,hN⟩:=zAc wr #[.int .i64 t.at_,.bool t.x.s,.slice t.x.A t.x.l t.x.c,.bool t.x.s',.slice t.x.A' t.x.l' t.x.c'] 32;rw[←hW];clear hW;obtain⟨v0,hb0⟩:=ze wr.heap.size;rw[←hb0] at x0 ⊢;have ow_0:w.heap.size≤v0:=zi (zww hB Bz);replace hB:=bT (bT hB Bz) hN;have HX0:=zh x0;clear x0 hN Bz hb0;have Bz:=zr V1;clear pA0 pA1 pA2 pA3 pA4;have pa0:=(zx HX0 Bz).cell 0 (.int .i64 t.at_) rfl;go_wp2_with fail
    go_ret
    have hF:=bT (c:=V1) hB Bz;exact⟨rfl,bT (bT hB Bz)⟩
   ·have g1:decide (t.at_<0)=false:=by simp;omega
    by_cases c2:n≤t.at_
    ·have g2:decide (n≤t.at_)=true:=by simpa using c2
     obtain rfl:r=false:=by rw[←hr.out];exact rightB_false (by rw[HLN.out];exact hlt) (by unfold rightAt;rw[HTI.out];simp;omega)
     clear c1 c2;have Bz:=zr wr;obtain⟨pA0,pA1,pA2,pA3,pA4,-⟩:=(hnd.below (bT hB Bz)).ez;go_upto_region 4 with(fail)
     obtain⟨V1,hW,x0,hN⟩:=zAc wr #[.int .i64 t.at_,.bool t.x.s,.slice t.x.A t.x.l t.x.c,.bool t.x.s',.slice t.x.A' t.x.l' t.x.c'] 32;rw[←hW];clear hW;obtain⟨v0,hb0⟩:=ze wr.heap.size;rw[←hb0] at x0 ⊢;have ow_0:w.heap.size≤v0:=zi (zww hB Bz);replace hB:=bT (bT hB Bz) hN;have HX0:=zh x0;clear x0 hN Bz hb0;have Bz:=zr V1;clear pA0 pA1 pA2 pA3 pA4;have pa0:=(zx HX0 Bz).cell 0 (.int .i64 t.at_) rfl;go_wp2_with fail
     go_ret
     have hF:=bT (c:=V1) hB Bz;exact⟨rfl,bT (bT hB Bz)⟩
    ·have g2:decide (n≤t.at_)=false:=by simp;omega
     rcases xC i with rfl | hi0
     ·replace hnd:ElA w b off t.cs:=by simpa using hnd
      have a0:rightAt L n 0=(decide (t.x.q≠0)&&t.x.ex):=by
       have f1:decide (0≤t.at_)=true:=by simp;omega
       have f2:decide (t.at_<n)=true:=by simp;omega
       unfold rightAt;rw[HTI.out];simp only[f1,f2,Bool.true_and]
      have A0:=zh a0;clear c1 c2 a0 HEL;by_cases c4:sg=0
      ·have g4:(sg==0)=true:=by simpa using c4
       obtain rfl:r=false:=by rw[←hr.out];exact rightB_false (by rw[HLN.out];exact hlt) (by rw[A0.out];have:=HSG.out;rw[c4] at this;simp[Rat.num_eq_zero.1 (Int.sign_eq_zero_iff_zero.1 this)])
       clear c4;have Bz:=zr wr;obtain⟨pA0,pA1,pA2,pA3,pA4,-⟩:=(hnd.below (bT hB Bz)).ez;go_upto_region 4 with(fail)
       obtain⟨V1,hW,x0,hN⟩:=zAc wr #[.int .i64 t.at_,.bool t.x.s,.slice t.x.A t.x.l t.x.c,.bool t.x.s',.slice t.x.A' t.x.l' t.x.c'] 32;rw[←hW];clear hW;obtain⟨v0,hb0⟩:=ze wr.heap.size;rw[←hb0] at x0 ⊢;have ow_0:w.heap.size≤v0:=zi (zww hB Bz);replace hfx:=hfx.below hN;replace hB:=bT (bT hB Bz) hN;have HX0:=zh x0;clear x0 hN Bz hb0;have Bz:=zr V1;clear pA0 pA1 pA2 pA3 pA4;obtain⟨pa0,pa1,pa2,pa3,pa4,-⟩:=(zx HX0 Bz).cz;go_wp2_with fail
       (try simp only[vA,vBa,vC])
       refine zl (zza [0,1,2,3,4,5,6,7,8,9,10,11,12,13] .done) [] zn ?_;iterate 3 (refine zUa ?_;try simp only[Act.put,uX,uY,uZ])
       iterate 9 (refine zN rfl rfl ?_;try simp only[Act.put,uX,uY,uZ])
       iterate 2 (refine zUa ?_;try simp only[Act.put,uX,uY,uZ])
       refine zAa ?_;go_wp2_with fail
       with_reducible refine(sign_q (R.below hfx) zo sg HSG).mono ?_
       rintro e w1 ⟨rfl,z⟩;replace z:=zq (a:=V1) z;replace Bz:=bT Bz z;clear z;clear pa0 pa1 pa2 pa3 pa4;go_wp2_with fail
       go_ret
       have hF:=bT (c:=w1) hB Bz;exact⟨rfl,bT (bT hB Bz)⟩
      ·have g4:(sg==0)=false:=by simpa using c4
       have nz:t.x.q≠0:=fun e=>c4 (by rw[←HSG.out,e];rfl);have NZ:=zh nz;clear c4 nz;cases ex
       ·obtain rfl:r=false:=by rw[←hr.out];exact rightB_false (by rw[HLN.out];exact hlt) (by rw[A0.out,HEX.out];simp)
        have Bz:=zr wr;obtain⟨pA0,pA1,pA2,pA3,pA4,-⟩:=(hnd.below (bT hB Bz)).ez;go_upto_region 4 with(fail)
        obtain⟨V1,hW,x0,hN⟩:=zAc wr #[.int .i64 t.at_,.bool t.x.s,.slice t.x.A t.x.l t.x.c,.bool t.x.s',.slice t.x.A' t.x.l' t.x.c'] 32;rw[←hW];clear hW;obtain⟨v0,hb0⟩:=ze wr.heap.size;rw[←hb0] at x0 ⊢;have ow_0:w.heap.size≤v0:=zi (zww hB Bz);replace hfr:=hfr.below hN;replace hfx:=hfx.below hN;replace hB:=bT (bT hB Bz) hN;have HX0:=zh x0;clear x0 hN Bz hb0;have Bz:=zr V1;clear pA0 pA1 pA2 pA3 pA4;obtain⟨pa0,pa1,pa2,pa3,pa4,-⟩:=(zx HX0 Bz).cz;go_wp2_with fail
        (try simp only[vA,vBa,vC])
        refine zl (zza [0,1,2,3,4,5,6,7,8,9,10,11,12,13] .done) [] zn ?_;iterate 3 (refine zUa ?_;try simp only[Act.put,uX,uY,uZ])
        iterate 9 (refine zN rfl rfl ?_;try simp only[Act.put,uX,uY,uZ])
        iterate 2 (refine zUa ?_;try simp only[Act.put,uX,uY,uZ])
        refine zAa ?_;go_wp2_with fail
        with_reducible refine(sign_q (R.below hfx) zo sg HSG).mono ?_
        rintro e w1 ⟨rfl,z⟩;replace z:=zq (a:=V1) z;replace hfr:=hfr.below z;replace Bz:=bT Bz z;clear z;clear pa0 pa1 pa2 pa3 pa4;obtain⟨-,pa1,pa2,pa3,pa4,-⟩:=(zx HX0 Bz).cz;go_wp2_with fail
        with_reducible refine(exact_sp (FrOk.below hfr) zo false HEX (zt hT hB Bz)).mono ?_
        rintro e w2 ⟨rfl,z⟩;replace z:=zq (a:=w1) z;replace Bz:=bT Bz z;clear z;clear pa1 pa2 pa3 pa4;go_wp2_with fail
        go_ret
        have hF:=bT (c:=w2) hB Bz;exact⟨rfl,bT (bT hB Bz)⟩
       ·have HA:Hid (rightAt L n 0=true):=zh (by rw[A0.out,HEX.out];simpa using NZ.out);have Bz:=zr wr;obtain⟨pA0,pA1,pA2,pA3,pA4,-⟩:=(hnd.below (bT hB Bz)).ez;go_upto_region 4 with(fail)
        obtain⟨V1,hW,x0,hN⟩:=zAc wr #[.int .i64 t.at_,.bool t.x.s,.slice t.x.A t.x.l t.x.c,.bool t.x.s',.slice t.x.A' t.x.l' t.x.c'] 32;rw[←hW];clear hW;obtain⟨v0,hb0⟩:=ze wr.heap.size;rw[←hb0] at x0 ⊢;have ow_0:w.heap.size≤v0:=zi (zww hB Bz);replace hfr:=hfr.below hN;replace hfx:=hfx.below hN;replace hB:=bT (bT hB Bz) hN;have HX0:=zh x0;clear x0 hN Bz hb0;have Bz:=zr V1;clear pA0 pA1 pA2 pA3 pA4;obtain⟨pa0,pa1,pa2,pa3,pa4,-⟩:=(zx HX0 Bz).cz;go_wp2_with fail
        (try simp only[vA,vBa,vC])
        refine zl (zza [0,1,2,3,4,5,6,7,8,9,10,11,12,13] .done) [] zn ?_;iterate 3 (refine zUa ?_;try simp only[Act.put,uX,uY,uZ])
        iterate 9 (refine zN rfl rfl ?_;try simp only[Act.put,uX,uY,uZ])
        iterate 2 (refine zUa ?_;try simp only[Act.put,uX,uY,uZ])
        refine zAa ?_;go_wp2_with fail
        with_reducible refine(sign_q (R.below hfx) zo sg HSG).mono ?_
        rintro e w1 ⟨rfl,z⟩;replace z:=zq (a:=V1) z;replace hfr:=hfr.below z;replace Bz:=bT Bz z;clear z;clear pa0 pa1 pa2 pa3 pa4;obtain⟨-,pa1,pa2,pa3,pa4,-⟩:=(zx HX0 Bz).cz;go_wp2_with fail
        with_reducible refine(exact_sp (FrOk.below hfr) zo true HEX (zt hT hB Bz)).mono ?_
        rintro e w2 ⟨rfl,z⟩;replace z:=zq (a:=w1) z;replace Bz:=bT Bz z;clear z;clear pa1 pa2 pa3 pa4;go_wp2_with fail
        go_roundg (len-(0+1))
        case measure=>have:=HGK.out;omega
        case rel=>exact⟨0+1,zo,rfl,by go_num,bT (bT hB Bz),fun k hk=>by
         rcases nB k (0) with h1 | h1
         ·exact HD.out k h1
         ·obtain rfl:k=0:=zo;exact HA.out⟩
     ·obtain⟨j,rfl⟩:∃j,i=j+1:=⟨i-1,zo⟩;obtain⟨p,hp⟩:∃p,L[j]?=some p:=⟨L[j]'(by rw[HLN.out];omega),cA _⟩;have hpd:=HEL.out j p hp;have HP:=zh hp;have j1:(j:Int)<(len:Int):=zo;have j2:(0:Int)≤(j:Int):=zo;have j3:decide ((0:Int)<((j+1:Nat):Int))=true:=jA zo;have j4:(0:Int)<(j:Int)+1:=zo;have u1:IntKind.i64.wrap (((j+1:Nat):Int)-1)=(j:Int):=by rw[IntWalk.i64_in _ zo];omega
      have u3:IntKind.i64.wrap (j:Int)=(j:Int):=IntWalk.i64_in _ zo;have u2:IntKind.i64.wrap ((j:Int)+1-1)=(j:Int):=by rw[IntWalk.i64_in _ zo];omega
      have a0:rightAt L n (j+1)=(decide (p.at_<t.at_)&&decide (t.x.q≠0)&&t.x.ex):=by
       have f1:decide (0≤t.at_)=true:=by simp;omega
       have f2:decide (t.at_<n)=true:=by simp;omega
       unfold rightAt;rw[HTI.out];simp only[f1,f2,HP.out,Bool.true_and]
      have A0:=zh a0;clear c1 c2 a0 HEL hp hi0;by_cases c3:t.at_≤p.at_
      ·have g3:decide (t.at_≤p.at_)=true:=by simpa using c3
       obtain rfl:r=false:=by rw[←hr.out];exact rightB_false (by rw[HLN.out];exact hlt) (by rw[A0.out];simp;omega)
       clear c3;have Bz:=zr wr;obtain⟨pA0,pA1,pA2,pA3,pA4,-⟩:=(hnd.below (bT hB Bz)).ez;go_upto_region 4 with(fail)
       obtain⟨V1,hW,x0,hN⟩:=zAc wr #[.int .i64 t.at_,.bool t.x.s,.slice t.x.A t.x.l t.x.c,.bool t.x.s',.slice t.x.A' t.x.l' t.x.c'] 32;rw[←hW];clear hW;obtain⟨v0,hb0⟩:=ze wr.heap.size;rw[←hb0] at x0 ⊢;have ow_0:w.heap.size≤v0:=zi (zww hB Bz);replace hB:=bT (bT hB Bz) hN;have HX0:=zh x0;clear x0 hN Bz hb0;have Bz:=zr V1;clear pA0 pA1 pA2 pA3 pA4;have pa0:=(zx HX0 Bz).cell 0 (.int .i64 t.at_) rfl;have pB0:=(hpd.below (bT hB Bz)).c0 (u:=.int .i64 p.at_) rfl;go_wp2_with fail
       (try simp only[vA,vBa,vC])
       refine zl (zza [0,1,2,3,4,5,6,7,8,9,10,11,12,13] .done) [] (zsa pa0 (zIa pB0)) ?_;iterate 14 (refine zUa ?_;try simp only[Act.put,uX,uY,uZ])
       refine zAa ?_;go_wp2_with fail
       go_ret
       have hF:=bT (c:=V1) hB Bz;exact⟨rfl,bT (bT hB Bz)⟩
      ·have g3:decide (t.at_≤p.at_)=false:=by simpa using c3
       have C3:=zh c3;clear c3;by_cases c4:sg=0
       ·have g4:(sg==0)=true:=by simpa using c4
        obtain rfl:r=false:=by rw[←hr.out];exact rightB_false (by rw[HLN.out];exact hlt) (by rw[A0.out];have:=HSG.out;rw[c4] at this;simp[Rat.num_eq_zero.1 (Int.sign_eq_zero_iff_zero.1 this)])
        clear c4;have Bz:=zr wr;obtain⟨pA0,pA1,pA2,pA3,pA4,-⟩:=(hnd.below (bT hB Bz)).ez;go_upto_region 4 with(fail)
        obtain⟨V1,hW,x0,hN⟩:=zAc wr #[.int .i64 t.at_,.bool t.x.s,.slice t.x.A t.x.l t.x.c,.bool t.x.s',.slice t.x.A' t.x.l' t.x.c'] 32;rw[←hW];clear hW;obtain⟨v0,hb0⟩:=ze wr.heap.size;rw[←hb0] at x0 ⊢;have ow_0:w.heap.size≤v0:=zi (zww hB Bz);replace hfx:=hfx.below hN;replace hB:=bT (bT hB Bz) hN;have HX0:=zh x0;clear x0 hN Bz hb0;have Bz:=zr V1;clear pA0 pA1 pA2 pA3 pA4;obtain⟨pa0,pa1,pa2,pa3,pa4,-⟩:=(zx HX0 Bz).cz;have pB0:=(hpd.below (bT hB Bz)).c0 (u:=.int .i64 p.at_) rfl;go_wp2_with fail
        (try simp only[vA,vBa,vC])
        refine zl (zza [0,1,2,3,4,5,6,7,8,9,10,11,12,13] .done) [] (zsa pa0 (zIa pB0)) ?_;iterate 14 (refine zUa ?_;try simp only[Act.put,uX,uY,uZ])
        refine zAa ?_;go_wp2_with fail
        with_reducible refine(sign_q (R.below hfx) zo sg HSG).mono ?_
        rintro e w1 ⟨rfl,z⟩;replace z:=zq (a:=V1) z;replace Bz:=bT Bz z;clear z;clear pa0 pa1 pa2 pa3 pa4 pB0;go_wp2_with fail
        go_ret
        have hF:=bT (c:=w1) hB Bz;exact⟨rfl,bT (bT hB Bz)⟩
       ·have g4:(sg==0)=false:=by simpa using c4
        have nz:t.x.q≠0:=fun e=>c4 (by rw[←HSG.out,e];rfl);have NZ:=zh nz;clear c4 nz;cases ex
        ·obtain rfl:r=false:=by rw[←hr.out];exact rightB_false (by rw[HLN.out];exact hlt) (by rw[A0.out,HEX.out];simp)
         have Bz:=zr wr;obtain⟨pA0,pA1,pA2,pA3,pA4,-⟩:=(hnd.below (bT hB Bz)).ez;go_upto_region 4 with(fail)
         obtain⟨V1,hW,x0,hN⟩:=zAc wr #[.int .i64 t.at_,.bool t.x.s,.slice t.x.A t.x.l t.x.c,.bool t.x.s',.slice t.x.A' t.x.l' t.x.c'] 32;rw[←hW];clear hW;obtain⟨v0,hb0⟩:=ze wr.heap.size;rw[←hb0] at x0 ⊢;have ow_0:w.heap.size≤v0:=zi (zww hB Bz);replace hfr:=hfr.below hN;replace hfx:=hfx.below hN;replace hB:=bT (bT hB Bz) hN;have HX0:=zh x0;clear x0 hN Bz hb0;have Bz:=zr V1;clear pA0 pA1 pA2 pA3 pA4;obtain⟨pa0,pa1,pa2,pa3,pa4,-⟩:=(zx HX0 Bz).cz;have pB0:=(hpd.below (bT hB Bz)).c0 (u:=.int .i64 p.at_) rfl;go_wp2_with fail
         (try simp only[vA,vBa,vC])
         refine zl (zza [0,1,2,3,4,5,6,7,8,9,10,11,12,13] .done) [] (zsa pa0 (zIa pB0)) ?_;iterate 14 (refine zUa ?_;try simp only[Act.put,uX,uY,uZ])
         refine zAa ?_;go_wp2_with fail
         with_reducible refine(sign_q (R.below hfx) zo sg HSG).mono ?_
         rintro e w1 ⟨rfl,z⟩;replace z:=zq (a:=V1) z;replace hfr:=hfr.below z;replace Bz:=bT Bz z;clear z;clear pa0 pa1 pa2 pa3 pa4 pB0;obtain⟨-,pa1,pa2,pa3,pa4,-⟩:=(zx HX0 Bz).cz;go_wp2_with fail
         with_reducible refine(exact_sp (FrOk.below hfr) zo false HEX (zt hT hB Bz)).mono ?_
         rintro e w2 ⟨rfl,z⟩;replace z:=zq (a:=w1) z;replace Bz:=bT Bz z;clear z;clear pa1 pa2 pa3 pa4;go_wp2_with fail
         go_ret
         have hF:=bT (c:=w2) hB Bz;exact⟨rfl,bT (bT hB Bz)⟩
        ·have HA:Hid (rightAt L n (j+1)=true):=zh (by rw[A0.out,HEX.out];have:=C3.out;simp[NZ.out];omega);have Bz:=zr wr;obtain⟨pA0,pA1,pA2,pA3,pA4,-⟩:=(hnd.below (bT hB Bz)).ez;go_upto_region 4 with(fail)
         obtain⟨V1,hW,x0,hN⟩:=zAc wr #[.int .i64 t.at_,.bool t.x.s,.slice t.x.A t.x.l t.x.c,.bool t.x.s',.slice t.x.A' t.x.l' t.x.c'] 32;rw[←hW];clear hW;obtain⟨v0,hb0⟩:=ze wr.heap.size;rw[←hb0] at x0 ⊢;have ow_0:w.heap.size≤v0:=zi (zww hB Bz);replace hfr:=hfr.below hN;replace hfx:=hfx.below hN;replace hB:=bT (bT hB Bz) hN;have HX0:=zh x0;clear x0 hN Bz hb0;have Bz:=zr V1;clear pA0 pA1 pA2 pA3 pA4;obtain⟨pa0,pa1,pa2,pa3,pa4,-⟩:=(zx HX0 Bz).cz;have pB0:=(hpd.below (bT hB Bz)).c0 (u:=.int .i64 p.at_) rfl;go_wp2_with fail
         (try simp only[vA,vBa,vC])
         refine zl (zza [0,1,2,3,4,5,6,7,8,9,10,11,12,13] .done) [] (zsa pa0 (zIa pB0)) ?_;iterate 14 (refine zUa ?_;try simp only[Act.put,uX,uY,uZ])
         refine zAa ?_;go_wp2_with fail
         with_reducible refine(sign_q (R.below hfx) zo sg HSG).mono ?_
         rintro e w1 ⟨rfl,z⟩;replace z:=zq (a:=V1) z;replace hfr:=hfr.below z;replace Bz:=bT Bz z;clear z;clear pa0 pa1 pa2 pa3 pa4 pB0;obtain⟨-,pa1,pa2,pa3,pa4,-⟩:=(zx HX0 Bz).cz;go_wp2_with fail
         with_reducible refine(exact_sp (FrOk.below hfr) zo true HEX (zt hT hB Bz)).mono ?_
         rintro e w2 ⟨rfl,z⟩;replace z:=zq (a:=w1) z;replace Bz:=bT Bz z;clear z;clear pa1 pa2 pa3 pa4;go_wp2_with fail
         go_roundg (len-(j+1+1))
         case measure=>have:=HGK.out;omega
         case rel=>exact⟨j+1+1,zo,rfl,by go_num,bT (bT hB Bz),fun k hk=>by
          rcases nB k (j+1) with h1 | h1
          ·exact HD.out k h1
          ·obtain rfl:k=j+1:=zo;exact HA.out⟩
  ·obtain rfl:i=len:=zo;have i1:¬(i:Int)<(i:Int):=zo;obtain rfl:r=true:=by rw[←hr.out];exact rightB_true (by rw[HLN.out];exact HD.out)
   go_wp2_with fail
   go_ret
   exact⟨rfl,hB⟩
def Ch (w w':World) (b:Nat):Prop:=w.grownBy w' (some b)∧K64 w w'
theorem Ch.trans {a b c:World} {x:Nat} (h:Ch a b x) (k:Ch b c x):Ch a c x:=⟨grown_trans h.1 k.1,h.2.trans k.2⟩
theorem Ch.of_below {w:World} (h:Below w.heap.size w w'):Ch w w' b:=⟨grown_below h _,K64.below h⟩
theorem Ch.bx {w:World} {x:Nat} {cs:Array Value} {t:TypeId} (h:Ch w w' b) (hx:Bx w x cs t) (hne:x≠b):Bx w' x cs t:=(h.1.block x hx.lt (by simpa using hne)).trans hx
theorem Ch.below {w:World} {B:Nat} (h:Ch w w' b) (hb:B≤b) (hB:B≤w.heap.size):Below B w w':=⟨h.1.os,h.1.tape,h.1.output,h.1.size,fun i hi=>h.1.block i (dB hi hB) (by simp;omega)⟩
theorem Ch.set {w:World} {i:Nat} {cs:Array Value} {t:TypeId} {u:Value} (h:Bx w b cs t) (hi:cs[i]?=some u) (hu:∀n,u≠.int .u64 n) (v:Value):Ch w (w.setCell ⟨b,i,none⟩ v) b:=⟨grown_set ⟨rfl,rfl,rfl,aA _,fun _ _ _=>rfl⟩ (.inl rfl) _,K64.box h hi hu v⟩
def VcOk (w:World) (m:Nat) (v:Vc):Prop:=Sl Tm.cs 5 w v.A v.n v.c v.L∧(∀t∈v.L,FrOk w m t.x)∧v.n≤1000000
theorem VcOk.below {w:World} {v:Vc} (h:VcOk w m v) (hb:Below w.heap.size w w':=by go_grown):VcOk w' m v:=⟨h.1.below hb,fun t ht=>(h.2.1 t ht).below hb,h.2.2⟩
theorem VcOk.sl {w:World} {v:Vc} (h:VcOk w m v):Sl Tm.cs 5 w v.A v.n v.c v.L:=h.1
theorem VcOk.fr {w:World} {v:Vc} (h:VcOk w m v):∀t∈v.L,FrOk w m t.x:=h.2.1
def lens (L:List Vc):Nat:=(L.map (·.n)).sum
structure Gp where
 A:Option Addr
 n:Nat
 c:Nat
 L:List Int
def Gp.cs (v:Gp):List Value:=[.slice v.A v.n v.c]
def GpOk (w:World) (v:Gp):Prop:=Sl ics 1 w v.A v.n v.c v.L∧v.n≤1000000
theorem GpOk.below {w:World} {v:Gp} (h:GpOk w v) (hb:Below w.heap.size w w':=by go_grown):GpOk w' v:=⟨h.1.below hb,h.2⟩
theorem GpOk.sl {w:World} {v:Gp} (h:GpOk w v):Sl ics 1 w v.A v.n v.c v.L:=h.1
structure Ly where
 kind:Int
 rA:Option Addr
 rn:Nat
 rc:Nat
 rows:List Vc
 bA:Option Addr
 bn:Nat
 bc:Nat
 bias:List Fr
 ch:Int
 high:Int
 wide:Int
 out:Int
 kh:Int
 kw:Int
 st:Int
 pad:Int
 kA:Option Addr
 kn:Nat
 kc:Nat
 kern:List Fr
 gA:Option Addr
 gn:Nat
 gc:Nat
 groups:List Gp
def Ly.cs (y:Ly):List Value:=[.int .u8 y.kind,.slice y.rA y.rn y.rc,.slice y.bA y.bn y.bc,.int .i64 y.ch,.int .i64 y.high,.int .i64 y.wide,.int .i64 y.out,.int .i64 y.kh,.int .i64 y.kw,.int .i64 y.st,.int .i64 y.pad,.slice y.kA y.kn y.kc,.slice y.gA y.gn y.gc]
structure LyOk (w:World) (m:Nat) (y:Ly):Prop where
 rows:Sl Vc.cs 1 w y.rA y.rn y.rc y.rows
 rok:∀v∈y.rows,VcOk w m v
 bias:Sl Fr.cs 4 w y.bA y.bn y.bc y.bias
 bok:∀x∈y.bias,FrOk w m x
 kern:Sl Fr.cs 4 w y.kA y.kn y.kc y.kern
 kok:∀x∈y.kern,FrOk w m x
 groups:Sl Gp.cs 1 w y.gA y.gn y.gc y.groups
 gok:∀v∈y.groups,GpOk w v
 lens:y.rn≤100000∧y.bn≤100000∧y.kn≤100000∧y.gn≤100000
theorem LyOk.below {w:World} {y:Ly} (h:LyOk w m y) (hb:Below w.heap.size w w':=by go_grown):LyOk w' m y :=
 ⟨h.rows.below hb,fun v hv=>(h.rok v hv).below hb,h.bias.below hb,fun v hv=>(h.bok v hv).below hb,h.kern.below hb,fun v hv=>(h.kok v hv).below hb,h.groups.below hb,fun v hv=>(h.gok v hv).below hb,h.lens⟩
def nums (y:Ly):List Int:=[y.ch,y.high,y.wide,y.out,y.kh,y.kw,y.st,y.pad]
end Go.Proofs.YteggjbgbknkoiaaGreatDoor
