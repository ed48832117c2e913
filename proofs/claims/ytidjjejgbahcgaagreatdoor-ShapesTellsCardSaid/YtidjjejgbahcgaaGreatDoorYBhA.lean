/-
  tripwireref10.Behind, part A. Written by wip/gen/bh.py.
-/
import Derived.Test.YtidjjejgbahcgaaGreatDoorYBh0
set_option maxHeartbeats 16000000
set_option maxRecDepth 100000
namespace Go.Proofs.YtidjjejgbahcgaaGreatDoor
open Go.RowKit Tw
theorem behind_aff {w:World} {m:Nat} {y:Ly} {n:Int} (h:LyOk w m y) (hg:Hid (∀v∈y.rows,GV w v.A v.n v.c (prs v.L) 870∧v.n≤1000)) (hm:m≤1900) (HFb:Hid ((y.bias.all fun x=>x.ex)=true)) (HFk:Hid ((y.kern.all fun x=>x.ex)=true)) (HSZ:Hid (sizB y=false)) (HK1:Hid (y.kind=1)) (hT:Hid (Tab w)) :
  Calls Tryz.prog 25 #[.agg #[.int .u8 y.kind,.slice y.rA y.rn y.rc,.slice y.bA y.bn y.bc,.int .i64 y.ch,.int .i64 y.high,.int .i64 y.wide,.int .i64 y.out,.int .i64 y.kh,.int .i64 y.kw,.int .i64 y.st,.int .i64 y.pad,.slice y.kA y.kn y.kc,.slice y.gA y.gn y.gc],.int .i64 n] w (TB2 w (zAd y n)):=by
 have hl:=h.lens;have z0:y.ch=0:=(siz_all HSZ.out).1;have z1:y.high=0:=(siz_all HSZ.out).2.1;have z2:y.wide=0:=(siz_all HSZ.out).2.2.1;have z3:y.out=0:=(siz_all HSZ.out).2.2.2.1;have z4:y.kh=0:=(siz_all HSZ.out).2.2.2.2.1;have z5:y.kw=0:=(siz_all HSZ.out).2.2.2.2.2.1;have z6:y.st=0:=(siz_all HSZ.out).2.2.2.2.2.2.1;have z7:y.pad=0:=(siz_all HSZ.out).2.2.2.2.2.2.2;have n0:(y.ch != 0)=false:=by rw[z0];rfl
 have n1:(y.high != 0)=false:=by rw[z1];rfl
 have n2:(y.wide != 0)=false:=by rw[z2];rfl
 have n3:(y.out != 0)=false:=by rw[z3];rfl
 have n4:(y.kh != 0)=false:=by rw[z4];rfl
 have n5:(y.kw != 0)=false:=by rw[z5];rfl
 have n6:(y.st != 0)=false:=by rw[z6];rfl
 have n7:(y.pad != 0)=false:=by rw[z7];rfl
 clear z0 z1 z2 z3 z4 z5 z6 z7;obtain⟨W,hW,x0,hB⟩:=zY w y;have HX0:=zh x0;clear x0;have Bz:=zr W;obtain⟨-,-,pa2,pa3,pa4,pa5,pa6,pa7,pa8,pa9,paa,-⟩:=(zxb HX0 Bz).cz;go_enter Tryz.func25,Tryz.ntmps25
 go_wp2_with fail
 rw[←hW];clear hW;go_wp2_with fail
 with_reducible refine(zAi (h.bias.below (bT hB (bT (b:=W) Bz))) (zh fun x hx=>(h.bok x hx).below (bT hB (bT (b:=W) Bz))) hm zo true HFb).mono ?_
 rintro e w1 ⟨rfl,b1⟩;replace b1:=zq (a:=W) b1;replace Bz:=bT Bz b1;clear b1;clear pa2 pa3 pa4 pa5 pa6 pa7 pa8 pa9 paa;have pab:=(zxb HX0 Bz).cell 11 (.slice y.kA y.kn y.kc) rfl;go_wp2_with fail
 with_reducible refine(zAi (h.kern.below (bT hB (bT (b:=w1) Bz))) (zh fun x hx=>(h.kok x hx).below (bT hB (bT (b:=w1) Bz))) hm zo true HFk).mono ?_
 rintro e w2 ⟨rfl,b2⟩;replace b2:=zq (a:=w1) b2;replace Bz:=bT Bz b2;clear b2;clear pab;replace hB:=bT hB Bz;replace HX0:=zh (zxb HX0 Bz);clear Bz;have k1:(y.kind==1)=true:=by have h9:=HK1.out;simp[h9]
 by_cases c1:0<y.kn+y.gn
 ·have g1:(0:Int)<(y.kn:Int)+(y.gn:Int):=zo;have Bz:=zr w2;obtain⟨pa0,-,-,-,-,-,-,-,-,-,-,pab,pac,-⟩:=(zxb HX0 Bz).cz;go_wp2_with fail
  go_ret3
  have hF:=bT (c:=w2) hB Bz;exact TB2.no (none_of (bh_aff HK1.out) (fun c=>by have:=c.2;omega)) 0 0 rfl (bT hF)
 have g1:¬(0:Int)<(y.kn:Int)+(y.gn:Int):=zo;by_cases c2:y.rn<1
 ·have g2:(y.rn:Int)<1:=zo;have Bz:=zr w2;obtain⟨pa0,pa1,-,-,-,-,-,-,-,-,-,pab,pac,-⟩:=(zxb HX0 Bz).cz;go_wp2_with fail
  go_ret3
  have hF:=bT (c:=w2) hB Bz;exact TB2.no (none_of (bh_aff HK1.out) (fun c=>by have:=c.2;omega)) 0 0 rfl (bT hF)
 have g2:¬(y.rn:Int)<1:=zo;by_cases c3:y.rn≠y.bn
 ·have g3:((y.rn:Int) !=(y.bn:Int))=true:=by simp;omega
  have Bz:=zr w2;obtain⟨pa0,pa1,pa2,-,-,-,-,-,-,-,-,pab,pac,-⟩:=(zxb HX0 Bz).cz;go_wp2_with fail
  go_ret3
  have hF:=bT (c:=w2) hB Bz;exact TB2.no (none_of (bh_aff HK1.out) (fun c=>by have:=c.2;omega)) 0 0 rfl (bT hF)
 have g3:((y.rn:Int) !=(y.bn:Int))=false:=by simp;omega
 obtain⟨b,off,hA,hel⟩:=h.rows.at Vc.cs_len zo zo;rw[hA] at HX0;have HEL:=zh hel;have HLN:=zh h.rows.1;have HLE:=zh (lens_le (fun v hv=>(h.rok v hv).2.2));clear hel hA;have Bz:=zr w2;obtain⟨pa0,pa1,pa2,-,-,-,-,-,-,-,-,pab,pac,-⟩:=(zxb HX0 Bz).cz;go_wp2_with fail
 have HB1:=zh (bT hB Bz);have XX0:=zh (zxb HX0 Bz);clear hB Bz HX0;go_loopg [8,9] y.rn (fun gk s8 s9 wr=>BA1 w #[.int .u8 y.kind,.slice (some ⟨b,off,none⟩) y.rn y.rc,.slice y.bA y.bn y.bc,.int .i64 y.ch,.int .i64 y.high,.int .i64 y.wide,.int .i64 y.out,.int .i64 y.kh,.int .i64 y.kw,.int .i64 y.st,.int .i64 y.pad,.slice y.kA y.kn y.kc,.slice y.gA y.gn y.gc] y n gk s8 s9 wr)
 case atStart=>exact⟨0,Nat.zero_le _,rfl,by go_num,by go_num,XX0.out.below (by go_grown),bT HB1.out,rfl⟩
 case round =>
  clear HB1 XX0;obtain⟨i,hi,hgk,rfl,rfl,hx0,hB,hd⟩:=hrel;have HX0:=zh hx0;have HD:=zh hd;have HGK:=zh hgk;clear hx0 hd hgk;by_cases hlt:i<y.rn
  ·obtain⟨v,hv⟩:∃v,y.rows[i]?=some v:=⟨y.rows[i]'(by rw[HLN.out];exact hlt),List.getElem?_eq_getElem _⟩;have hnd:ElA w b (off+i) v.cs:=by have:=HEL.out i v hv;rwa [Nat.mul_one] at this
   have hvm:=List.mem_of_getElem? hv;have HV:=zh hv;have HO1:=zh (h.rok v hvm).sl;have HO2:=zh (h.rok v hvm).fr;have hvn:=(h.rok v hvm).2.2;obtain⟨hgv,hgn⟩:=hg.out v hvm;have HGV:=zh hgv;have ht0:=HLE.out i;have i1:(i:Int)<(y.rn:Int):=zo;have i2:(0:Int)≤(i:Int):=zo;obtain⟨vA,vn,vc,vL⟩:=v;dsimp only at hvn hgn
   clear hv hvm hgv;cases hr:rightB vL n
   ·have HR:=zh hr;clear hr;have Bz:=zr wr;have pa1:=(zxb HX0 Bz).cell 1 (.slice (some ⟨b,off,none⟩) y.rn y.rc) rfl;have pA0:=((ElA.below hnd (bT hB Bz))).c0 (u:=.slice vA vn vc) rfl;go_wp2_with fail
    with_reducible refine(rightR_q (kn:=n) (GV.below HGV.out (bT hB (bT (b:=wr) Bz))) (Sl.below HO1.out (bT hB (bT (b:=wr) Bz))) (zh fun t ht=>((HO2.out t ht).mono zo).below (bT hB (bT (b:=wr) Bz))) zd hgn false HR (zt hT hB Bz)).mono ?_
    rintro e w21 ⟨rfl,b21⟩;replace b21:=zq (a:=wr) b21;replace Bz:=bT Bz b21;clear b21;clear pa1 pA0;go_wp2_with fail
    go_ret3
    have hF:=bT (c:=w21) hB Bz;exact TB2.no (none_of (bh_aff HK1.out) (fun c=>by rw[all_no HV.out HR.out] at c;exact absurd c.2.2.2.2.2.1 zd)) 0 0 rfl (bT hF)
   ·have HR:=zh hr;clear hr;have Bz:=zr wr;have pa1:=(zxb HX0 Bz).cell 1 (.slice (some ⟨b,off,none⟩) y.rn y.rc) rfl;have pA0:=((ElA.below hnd (bT hB Bz))).c0 (u:=.slice vA vn vc) rfl;go_wp2_with fail
    with_reducible refine(rightR_q (kn:=n) (GV.below HGV.out (bT hB (bT (b:=wr) Bz))) (Sl.below HO1.out (bT hB (bT (b:=wr) Bz))) (zh fun t ht=>((HO2.out t ht).mono zo).below (bT hB (bT (b:=wr) Bz))) zd hgn true HR (zt hT hB Bz)).mono ?_
    rintro e w21 ⟨rfl,b21⟩;replace b21:=zq (a:=wr) b21;replace Bz:=bT Bz b21;clear b21;clear pa1 pA0;have pa1:=(zxb HX0 Bz).cell 1 (.slice (some ⟨b,off,none⟩) y.rn y.rc) rfl;have pA0:=((ElA.below hnd (bT hB Bz))).c0 (u:=.slice vA vn vc) rfl;go_wp2_with fail
    go_roundg (y.rn-(i+1))
    case measure=>have:=HGK.out;omega
    case rel=>exact⟨i+1,zo,rfl,by rw[lens_take HV.out];go_num,by go_num,HX0.out.below (bT Bz),bT (bT hB Bz),take_all HD.out HV.out HR.out⟩
  ·obtain rfl:i=y.rn:=zo;rw[List.take_of_length_le (by rw[HLN.out];exact Nat.le_refl _)];have i1:¬(y.rn:Int)<(y.rn:Int):=zo;have Bz:=zr wr;have pa1:=(zxb HX0 Bz).cell 1 (.slice (some ⟨b,off,none⟩) y.rn y.rc) rfl;go_wp2_with fail
   go_ret3
   have hF:=bT (c:=wr) hB Bz;exact TB2.yes (bh_aff_yes HK1.out HSZ.out zo zo zo (all_yes HLN.out HD.out) HFb.out) rfl (bT hF)
end Go.Proofs.YtidjjejgbahcgaaGreatDoor
