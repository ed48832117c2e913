/-
  tripwireref10.Behind, part P. Written by wip/gen/bh.py.
-/
import Derived.Test.YtidjjejgbahcgaaGreatDoorYBh0
set_option maxHeartbeats 16000000
set_option maxRecDepth 100000
namespace Go.Proofs.YtidjjejgbahcgaaGreatDoor
open Go.RowKit Tw
theorem behind_pool {w:World} {m:Nat} {y:Ly} {n:Int} (h:LyOk w m y) (hm:m≤1900) (HFb:Hid ((y.bias.all fun x=>x.ex)=true)) (HFk:Hid ((y.kern.all fun x=>x.ex)=true)) (HSZ:Hid (sizB y=false)) (HK1:Hid (¬y.kind=1)) (HK2:Hid (¬y.kind=2)) (HK3:Hid (¬y.kind=3)) (HK4:Hid (y.kind=4)) (_hT:Hid (Tab w)) :
  Calls Tryz.prog 25 #[.agg #[.int .u8 y.kind,.slice y.rA y.rn y.rc,.slice y.bA y.bn y.bc,.int .i64 y.ch,.int .i64 y.high,.int .i64 y.wide,.int .i64 y.out,.int .i64 y.kh,.int .i64 y.kw,.int .i64 y.st,.int .i64 y.pad,.slice y.kA y.kn y.kc,.slice y.gA y.gn y.gc],.int .i64 n] w (TB2 w (zAd y n)):=by
 have hl:=h.lens;have z0:y.ch=0:=(siz_all HSZ.out).1;have z1:y.high=0:=(siz_all HSZ.out).2.1;have z2:y.wide=0:=(siz_all HSZ.out).2.2.1;have z3:y.out=0:=(siz_all HSZ.out).2.2.2.1;have z4:y.kh=0:=(siz_all HSZ.out).2.2.2.2.1;have z5:y.kw=0:=(siz_all HSZ.out).2.2.2.2.2.1;have z6:y.st=0:=(siz_all HSZ.out).2.2.2.2.2.2.1;have z7:y.pad=0:=(siz_all HSZ.out).2.2.2.2.2.2.2;have n0:(y.ch != 0)=false:=by rw[z0];rfl
 have n1:(y.high != 0)=false:=by rw[z1];rfl
 have n2:(y.wide != 0)=false:=by rw[z2];rfl
 have n3:(y.out != 0)=false:=by rw[z3];rfl
 have n4:(y.kh != 0)=false:=by rw[z4];rfl
 have n5:(y.kw != 0)=false:=by rw[z5];rfl
 have n6:(y.st != 0)=false:=by rw[z6];rfl
 have n7:(y.pad != 0)=false:=by rw[z7];rfl
 clear z0 z1 z2 z3 z4 z5 z6 z7;obtain⟨W,hW,x0,hB⟩:=zY w y;have HX0:=zh x0;clear x0;have Bz:=zr W;obtain⟨-,-,pa2,pa3,pa4,pa5,pa6,pa7,pa8,pa9,paa,-⟩:=(zxb HX0 Bz).cz;go_enter Tryz.func25,Tryz.ntmps25
 go_wp2_with fail
 rw[←hW];clear hW;go_wp2_with fail
 with_reducible refine(zAi (h.bias.below (bT hB (bT (b:=W) Bz))) (zh fun x hx=>(h.bok x hx).below (bT hB (bT (b:=W) Bz))) hm zo true HFb).mono ?_
 rintro e w1 ⟨rfl,b1⟩;replace b1:=zq (a:=W) b1;replace Bz:=bT Bz b1;clear b1;clear pa2 pa3 pa4 pa5 pa6 pa7 pa8 pa9 paa;have pab:=(zxb HX0 Bz).cell 11 (.slice y.kA y.kn y.kc) rfl;go_wp2_with fail
 with_reducible refine(zAi (h.kern.below (bT hB (bT (b:=w1) Bz))) (zh fun x hx=>(h.kok x hx).below (bT hB (bT (b:=w1) Bz))) hm zo true HFk).mono ?_
 rintro e w2 ⟨rfl,b2⟩;replace b2:=zq (a:=w1) b2;replace Bz:=bT Bz b2;clear b2;clear pab;replace hB:=bT hB Bz;replace HX0:=zh (zxb HX0 Bz);clear Bz;have k1:(y.kind==1)=false:=by have h9:=HK1.out;simp[h9]
 have k2:(y.kind==2)=false:=by have h9:=HK2.out;simp[h9]
 have k3:(y.kind==3)=false:=by have h9:=HK3.out;simp[h9]
 have k4:(y.kind==4)=true:=by have h9:=HK4.out;simp[h9]
 by_cases c1:0<y.rn+y.bn+y.kn
 ·have g1:(0:Int)<(y.rn:Int)+(y.bn:Int)+(y.kn:Int):=zo;have Bz:=zr w2;obtain⟨pa0,pa1,pa2,-,-,-,-,-,-,-,-,pab,-⟩:=(zxb HX0 Bz).cz;go_wp2_with fail
  go_ret3
  have hF:=bT (c:=w2) hB Bz;exact TB2.no (none_of (bh_pool HK4.out) (fun c=>by have:=c.2;omega)) 0 0 rfl (bT hF)
 have g1:¬(0:Int)<(y.rn:Int)+(y.bn:Int)+(y.kn:Int):=zo;by_cases c2:y.gn<1
 ·have g2:(y.gn:Int)<1:=zo;have Bz:=zr w2;obtain⟨pa0,pa1,pa2,-,-,-,-,-,-,-,-,pab,pac,-⟩:=(zxb HX0 Bz).cz;go_wp2_with fail
  go_ret3
  have hF:=bT (c:=w2) hB Bz;exact TB2.no (none_of (bh_pool HK4.out) (fun c=>by have:=c.2;omega)) 0 0 rfl (bT hF)
 have g2:¬(y.gn:Int)<1:=zo;obtain⟨b,off,hA,hel⟩:=h.groups.at Gp.cs_len zo zo;rw[hA] at HX0;have HEL:=zh hel;have HLN:=zh h.groups.1;have HLE:=zh (glens_le (fun v hv=>(h.gok v hv).2));clear hel hA;have Bz:=zr w2;obtain⟨pa0,pa1,pa2,-,-,-,-,-,-,-,-,pab,pac,-⟩:=(zxb HX0 Bz).cz;go_wp2_with fail
 have HB1:=zh (bT hB Bz);have XX0:=zh (zxb HX0 Bz);clear hB Bz HX0;go_loopg [8,13] y.gn (fun gk s8 s13 wr=>BP1 w #[.int .u8 y.kind,.slice y.rA y.rn y.rc,.slice y.bA y.bn y.bc,.int .i64 y.ch,.int .i64 y.high,.int .i64 y.wide,.int .i64 y.out,.int .i64 y.kh,.int .i64 y.kw,.int .i64 y.st,.int .i64 y.pad,.slice y.kA y.kn y.kc,.slice (some ⟨b,off,none⟩) y.gn y.gc] y n gk s8 s13 wr)
 case atStart=>exact⟨0,Nat.zero_le _,rfl,by go_num,by go_num,XX0.out.below (by go_grown),bT HB1.out,rfl⟩
 case round =>
  clear HB1 XX0;obtain⟨i,hi,hgk,rfl,rfl,hx0,hB,hd⟩:=hrel;have HX0:=zh hx0;have HD:=zh hd;have HGK:=zh hgk;clear hx0 hd hgk;by_cases hlt:i<y.gn
  ·obtain⟨v,hv⟩:∃v,y.groups[i]?=some v:=⟨y.groups[i]'(by rw[HLN.out];exact hlt),List.getElem?_eq_getElem _⟩;have hnd:ElA w b (off+i) v.cs:=by have:=HEL.out i v hv;rwa [Nat.mul_one] at this
   have hvm:=List.mem_of_getElem? hv;have HV:=zh hv;have HS1:=zh (h.gok v hvm).1;have hvn:=(h.gok v hvm).2;have ht0:=HLE.out i;have i1:(i:Int)<(y.gn:Int):=zo;have i2:(0:Int)≤(i:Int):=zo;clear hv hvm;by_cases hv0:v.n<1
   ·have HG0:Hid (groupB n v=false):=zh (group_no hv0);have i3:(v.n:Int)<1:=zo;have Bz:=zr wr;have pac:=(zxb HX0 Bz).cell 12 (.slice (some ⟨b,off,none⟩) y.gn y.gc) rfl;have pA0:=((ElA.below hnd (bT hB Bz))).c0 (u:=.slice v.A v.n v.c) rfl;go_wp2_with fail
    go_ret3
    have hF:=bT (c:=wr) hB Bz;exact TB2.no (none_of (bh_pool HK4.out) (fun c=>by rw[all_no HV.out HG0.out] at c;exact absurd c.2.2.2.2.2 zd)) 0 0 rfl (bT hF)
   have i3:¬(v.n:Int)<1:=zo;have HXB:=zh HX0.out;have HBB:=zh hB;have Bz:=zr wr;have pA0:=(hnd.below (bT hB Bz)).c0 (u:=.slice v.A v.n v.c) rfl;have x0c:=HX0.out.cell 12 (.slice (some ⟨b,off,none⟩) y.gn y.gc) rfl;go_wp2_with fail
   go_loopg [15] v.n (fun gk s wr=>BP2 w #[.int .u8 y.kind,.slice y.rA y.rn y.rc,.slice y.bA y.bn y.bc,.int .i64 y.ch,.int .i64 y.high,.int .i64 y.wide,.int .i64 y.out,.int .i64 y.kh,.int .i64 y.kw,.int .i64 y.st,.int .i64 y.pad,.slice y.kA y.kn y.kc,.slice (some ⟨b,off,none⟩) y.gn y.gc] v.L n v.n gk s wr)
   case atStart=>exact⟨0,Nat.zero_le _,rfl,by go_num,HXB.out.below (by go_grown),bT HBB.out,rfl⟩
   case round =>
    clear HX0 HXB HBB hB Bz pA0 x0c;obtain⟨k,hk,hgk2,rfl,hx0,hB,hr⟩:=hrel;have HX0:=zh hx0;have HR:=zh hr;have HGJ:=zh hgk2;clear hx0 hr hgk2;by_cases hlk:k<v.n
    ·obtain⟨vb,vo,hvA,hel⟩:=HS1.out.at ics_len zo zo;obtain⟨x,hx⟩:∃x,v.L[k]?=some x:=⟨v.L[k]'(by rw[HS1.out.1];exact hlk),List.getElem?_eq_getElem _⟩;have hnx:ElA w vb (vo+k) (ics x):=by have:=hel k x hx;rwa [Nat.mul_one] at this
     have HXK:=zh hx;have HEV:=zh hel;have HVA:=zh hvA;have j1:(k:Int)<(v.n:Int):=zo;have j2:(0:Int)≤(k:Int):=zo;rw[hvA];clear hx hel hvA;by_cases c1:x<0
     ·have g1:decide (x<0)=true:=decide_eq_true c1;have Bz:=zr wr;have pA0:=((ElA.below hnx (bT hB Bz))).c0 (u:=.int .i64 x) rfl;go_wp2_with fail
      (try simp only[vAa,vB,vC])
      refine zl (zz [0,1,2,3,4,5,6,7,8,9,10,11,12,13,14,15,16,17,18,19,20,21,22,23,24,25,26,27,28] .done) [] (zI pA0) ?_;iterate 6 (refine zU ?_;try simp only[uW,uX,uY,uZ])
      iterate 6 (refine zN rfl rfl ?_;try simp only[uW,uX,uY,uZ])
      iterate 2 (refine zU ?_;try simp only[uW,uX,uY,uZ])
      iterate 14 (refine zN rfl rfl ?_;try simp only[uW,uX,uY,uZ])
      refine zU ?_;try simp only[uW,uX,uY,uZ]
      refine wpPlan_done ?_;go_wp2_with fail
      go_ret3
      have hF:=bT (c:=wr) hB Bz;have HG0:Hid (groupB n v=false):=zh (group_bad HXK.out (fun c=>by have h9:=c.1;have:=lastOf_ge (n:=n) HR.out;omega));exact TB2.no (none_of (bh_pool HK4.out) (fun c=>by rw[all_no HV.out HG0.out] at c;exact absurd c.2.2.2.2.2 zd)) 0 0 rfl (bT hF)
     have g1:decide (x<0)=false:=decide_eq_false c1;by_cases c2:n≤x
     ·have g2:decide (n≤x)=true:=decide_eq_true c2;have Bz:=zr wr;have pA0:=((ElA.below hnx (bT hB Bz))).c0 (u:=.int .i64 x) rfl;go_wp2_with fail
      (try simp only[vAa,vB,vC])
      refine zl (zz [0,1,2,3,4,5,6,7,8,9,10,11,12,13,14,15,16,17,18,19,20,21,22,23,24,25,26,27,28] .done) [] (zI pA0) ?_;iterate 14 (refine zU ?_;try simp only[uW,uX,uY,uZ])
      iterate 14 (refine zN rfl rfl ?_;try simp only[uW,uX,uY,uZ])
      refine zU ?_;try simp only[uW,uX,uY,uZ]
      refine wpPlan_done ?_;go_wp2_with fail
      go_ret3
      have hF:=bT (c:=wr) hB Bz;have HG0:Hid (groupB n v=false):=zh (group_bad HXK.out (fun c=>by have h9:=c.2;omega));exact TB2.no (none_of (bh_pool HK4.out) (fun c=>by rw[all_no HV.out HG0.out] at c;exact absurd c.2.2.2.2.2 zd)) 0 0 rfl (bT hF)
     have g2:decide (n≤x)=false:=decide_eq_false c2;rcases Nat.eq_zero_or_pos k with rfl | hk0
     ·replace hnx:ElA w vb vo (ics x):=by simpa using hnx
      have Bz:=zr wr;have pA0:=((ElA.below hnx (bT hB Bz))).c0 (u:=.int .i64 x) rfl;go_wp2_with fail
      (try simp only[vAa,vB,vC])
      refine zl (zz [0,1,2,3,4,5,6,7,8,9,10,11,12,13,14,15,16,17,18,19,20,21,22,23,24,25,26,27,28] .done) [] (zI pA0) ?_;iterate 17 (refine zU ?_;try simp only[uW,uX,uY,uZ])
      iterate 10 (refine zN rfl rfl ?_;try simp only[uW,uX,uY,uZ])
      iterate 2 (refine zU ?_;try simp only[uW,uX,uY,uZ])
      refine wpPlan_done ?_;go_wp2_with fail
      rw[←HVA.out];go_roundg (v.n-(0+1))
      case measure=>have:=HGJ.out;omega
      case rel=>exact⟨0+1,zo,rfl,by go_num,HX0.out.below (bT Bz),bT (bT hB Bz),rises_on HR.out HXK.out (by show(-1:Int)<x;omega) zo⟩
     obtain⟨j,rfl⟩:∃j,k=j+1:=⟨k-1,zo⟩;obtain⟨p,hp⟩:∃p,v.L[j]?=some p:=⟨v.L[j]'(by rw[HS1.out.1];omega),List.getElem?_eq_getElem _⟩;have hnp:ElA w vb (vo+j) (ics p):=by have:=HEV.out j p hp;rwa [Nat.mul_one] at this
     have HLP:Hid (lastOf (-1) (v.L.take (j+1))=p):=zh (last_at hp);have j3:(j:Int)<(v.n:Int):=zo;have j4:(0:Int)≤(j:Int):=zo;have j5:decide ((0:Int)<((j+1:Nat):Int))=true:=decide_eq_true zo;have j6:(0:Int)<(j:Int)+1:=zo;have j7:(0:Int)≤(j:Int)+1:=zo;have j8:(j:Int)+1<(v.n:Int):=zo;have u1:IntKind.i64.wrap (((j+1:Nat):Int)-1)=(j:Int):=by rw[IntWalk.i64_in _ zo];omega
     have u3:IntKind.i64.wrap (j:Int)=(j:Int):=IntWalk.i64_in _ zo;have u2:IntKind.i64.wrap ((j:Int)+1-1)=(j:Int):=by rw[IntWalk.i64_in _ zo];omega
     clear hp hk0;by_cases c3:x≤p
     ·have g3:decide (x≤p)=true:=decide_eq_true c3;have Bz:=zr wr;have pA0:=((ElA.below hnx (bT hB Bz))).c0 (u:=.int .i64 x) rfl;have pB0:=((ElA.below hnp (bT hB Bz))).c0 (u:=.int .i64 p) rfl;go_wp2_with fail
      (try simp only[vAa,vB,vC])
      refine zl (zz [0,1,2,3,4,5,6,7,8,9,10,11,12,13,14,15,16,17,18,19,20,21,22,23,24,25,26,27,28] .done) [] (zsa pA0 (zI pB0)) ?_;iterate 29 (refine zU ?_;try simp only[uW,uX,uY,uZ])
      refine wpPlan_done ?_;go_wp2_with fail
      go_ret3
      have hF:=bT (c:=wr) hB Bz;have HG0:Hid (groupB n v=false):=zh (group_bad HXK.out (fun c=>by have h9:=c.1;rw[HLP.out] at h9;omega));exact TB2.no (none_of (bh_pool HK4.out) (fun c=>by rw[all_no HV.out HG0.out] at c;exact absurd c.2.2.2.2.2 zd)) 0 0 rfl (bT hF)
     have g3:decide (x≤p)=false:=decide_eq_false c3;have Bz:=zr wr;have pA0:=((ElA.below hnx (bT hB Bz))).c0 (u:=.int .i64 x) rfl;have pB0:=((ElA.below hnp (bT hB Bz))).c0 (u:=.int .i64 p) rfl;go_wp2_with fail
     (try simp only[vAa,vB,vC])
     refine zl (zz [0,1,2,3,4,5,6,7,8,9,10,11,12,13,14,15,16,17,18,19,20,21,22,23,24,25,26,27,28] .done) [] (zsa pA0 (zI pB0)) ?_;iterate 29 (refine zU ?_;try simp only[uW,uX,uY,uZ])
     refine wpPlan_done ?_;go_wp2_with fail
     rw[←HVA.out];go_roundg (v.n-(j+1+1))
     case measure=>have:=HGJ.out;omega
     case rel=>exact⟨j+1+1,zo,rfl,by go_num,HX0.out.below (bT Bz),bT (bT hB Bz),rises_on HR.out HXK.out (by rw[HLP.out];omega) zo⟩
    ·obtain rfl:k=v.n:=zo;rw[List.take_of_length_le (by rw[HS1.out.1];exact Nat.le_refl _)] at HR;have HG1:Hid (groupB n v=true):=zh (group_yes zo HR.out);have j1:¬(v.n:Int)<(v.n:Int):=zo;go_wp2_with fail
     go_roundg (y.gn-(i+1))
     case measure=>have:=HGK.out;omega
     case rel=>exact⟨i+1,zo,rfl,by rw[glens_take HV.out];go_num,by go_num,HX0.out.below (by go_grown),bT hB,take_all HD.out HV.out HG1.out⟩
  ·obtain rfl:i=y.gn:=zo;rw[List.take_of_length_le (by rw[HLN.out];exact Nat.le_refl _)];have i1:¬(y.gn:Int)<(y.gn:Int):=zo;have Bz:=zr wr;have pac:=(zxb HX0 Bz).cell 12 (.slice (some ⟨b,off,none⟩) y.gn y.gc) rfl;go_wp2_with fail
   go_ret3
   have hF:=bT (c:=wr) hB Bz;exact TB2.yes (bh_pool_yes HK4.out HSZ.out zo zo (all_yes HLN.out HD.out)) rfl (bT hF)
end Go.Proofs.YtidjjejgbahcgaaGreatDoor
