/-
  tripwireref10.Behind, part C. Written by wip/gen/bh.py.
-/
import Derived.Test.YtidjjejgbahcgaaGreatDoorYBh0
set_option maxHeartbeats 16000000
set_option maxRecDepth 100000
namespace Go.Proofs.YtidjjejgbahcgaaGreatDoor
open Go.RowKit Tw
theorem behind_conv {w:World} {m:Nat} {y:Ly} {n:Int} (h:LyOk w m y) (hm:m≤1900) (HFb:Hid ((y.bias.all fun x=>x.ex)=true)) (HFk:Hid ((y.kern.all fun x=>x.ex)=true)) (HCH:Hid (y.ch≠0)) (HK1:Hid (¬y.kind=1)) (HK2:Hid (y.kind=2)) (_hT:Hid (Tab w)) :
  Calls Tryz.prog 25 #[.agg #[.int .u8 y.kind,.slice y.rA y.rn y.rc,.slice y.bA y.bn y.bc,.int .i64 y.ch,.int .i64 y.high,.int .i64 y.wide,.int .i64 y.out,.int .i64 y.kh,.int .i64 y.kw,.int .i64 y.st,.int .i64 y.pad,.slice y.kA y.kn y.kc,.slice y.gA y.gn y.gc],.int .i64 n] w (TB2 w (zAd y n)):=by
 have hl:=h.lens;have n0:(y.ch != 0)=true:=bne_iff_ne.2 HCH.out;obtain⟨W,hW,x0,hB⟩:=zY w y;have HX0:=zh x0;clear x0;have Bz:=zr W;obtain⟨-,-,pa2,pa3,-⟩:=(zxb HX0 Bz).cz;go_enter Tryz.func25,Tryz.ntmps25
 go_wp2_with fail
 rw[←hW];clear hW;go_wp2_with fail
 with_reducible refine(zAi (h.bias.below (bT hB (bT (b:=W) Bz))) (zh fun x hx=>(h.bok x hx).below (bT hB (bT (b:=W) Bz))) hm zo true HFb).mono ?_
 rintro e w1 ⟨rfl,b1⟩;replace b1:=zq (a:=W) b1;replace Bz:=bT Bz b1;clear b1;clear pa2 pa3;have pab:=(zxb HX0 Bz).cell 11 (.slice y.kA y.kn y.kc) rfl;go_wp2_with fail
 with_reducible refine(zAi (h.kern.below (bT hB (bT (b:=w1) Bz))) (zh fun x hx=>(h.kok x hx).below (bT hB (bT (b:=w1) Bz))) hm zo true HFk).mono ?_
 rintro e w2 ⟨rfl,b2⟩;replace b2:=zq (a:=w1) b2;replace Bz:=bT Bz b2;clear b2;clear pab;replace hB:=bT hB Bz;replace HX0:=zh (zxb HX0 Bz);clear Bz;have k1:(y.kind==1)=false:=by have h9:=HK1.out;simp[h9]
 have k2:(y.kind==2)=true:=by have h9:=HK2.out;simp[h9]
 cases hp:picOk y
 ·have HP0:=zh hp;clear hp;have Bz:=zr w2;obtain⟨pa0,pa1,pa2,pa3,pa4,pa5,pa6,pa7,pa8,pa9,paa,pab,pac,-⟩:=(zxb HX0 Bz).cz;go_wp2_with fail
  with_reducible refine(pic_no HP0.out).mono ?_
  rintro e w11 ⟨rfl,b11⟩;replace b11:=zq (a:=w2) b11;replace Bz:=bT Bz b11;clear b11;clear pa0 pa1 pa2 pa3 pa4 pa5 pa6 pa7 pa8 pa9 paa pab pac;go_wp2_with fail
  go_ret3
  have hF:=bT (c:=w11) hB Bz;exact TB2.no (none_of (bh_conv HK2.out) (fun c=>by rw[HP0.out] at c;exact absurd c.1 zd)) 0 0 rfl (bT hF)
 have HP0:=zh hp;obtain⟨R,C,b,HPN,hR,hC,hcv⟩:=pic_nums hp;have HCV:=zh hcv;clear hp hcv;cases b
 ·have Bz:=zr w2;obtain⟨pa0,pa1,pa2,pa3,pa4,pa5,pa6,pa7,pa8,pa9,paa,pab,pac,-⟩:=(zxb HX0 Bz).cz;go_wp2_with fail
  with_reducible refine(pic_is HP0 HPN).mono ?_
  rintro e w11 ⟨rfl,b11⟩;replace b11:=zq (a:=w2) b11;replace Bz:=bT Bz b11;clear b11;clear pa0 pa1 pa2 pa3 pa4 pa5 pa6 pa7 pa8 pa9 paa pab pac;go_wp2_with fail
  go_ret3
  have hF:=bT (c:=w11) hB Bz;exact TB2.no (none_of (bh_conv HK2.out) (fun c=>absurd (HPN.out.iff.2 ⟨c.2.1,c.2.2.1⟩) zd)) 0 0 rfl (bT hF)
 have p1:=mulb (zi HCV.out.ch) HCV.out.ch.2 (zi HCV.out.high) HCV.out.high.2;have p2:=mulb p1.1 p1.2 (zi HCV.out.wide) HCV.out.wide.2;have p3:=mulb (zi HCV.out.out) HCV.out.out.2 (zi HCV.out.ch) HCV.out.ch.2;have p4:=mulb p3.1 p3.2 (zi HCV.out.kh) HCV.out.kh.2;have p5:=mulb p4.1 p4.2 (zi HCV.out.kw) HCV.out.kw.2;have ww1:IntKind.i64.wrap (y.ch*y.high)=y.ch*y.high:=IntWalk.i64_in _ zo;have ww2:IntKind.i64.wrap (y.ch*y.high*y.wide)=y.ch*y.high*y.wide:=IntWalk.i64_in _ zo;have ww3:IntKind.i64.wrap (y.out*y.ch)=y.out*y.ch:=IntWalk.i64_in _ zo;have ww4:IntKind.i64.wrap (y.out*y.ch*y.kh)=y.out*y.ch*y.kh:=IntWalk.i64_in _ zo;have ww5:IntKind.i64.wrap (y.out*y.ch*y.kh*y.kw)=y.out*y.ch*y.kh*y.kw:=IntWalk.i64_in _ zo;clear p1 p2 p3 p4 p5;by_cases c1:0<y.rn+y.gn
 ·have g1:(0:Int)<(y.rn:Int)+(y.gn:Int):=zo;have Bz:=zr w2;obtain⟨pa0,pa1,pa2,pa3,pa4,pa5,pa6,pa7,pa8,pa9,paa,pab,pac,-⟩:=(zxb HX0 Bz).cz;go_wp2_with fail
  with_reducible refine(pic_is HP0 HPN).mono ?_
  rintro e w11 ⟨rfl,b11⟩;replace b11:=zq (a:=w2) b11;replace Bz:=bT Bz b11;clear b11;clear pa0 pa1 pa2 pa3 pa4 pa5 pa6 pa7 pa8 pa9 paa pab pac;obtain⟨-,pa1,-,-,-,-,-,-,-,-,-,-,pac,-⟩:=(zxb HX0 Bz).cz;go_wp2_with fail
  go_ret3
  have hF:=bT (c:=w11) hB Bz;exact TB2.no (none_of (bh_conv HK2.out) (fun c=>by have:=c.2.2.2.1;omega)) 0 0 rfl (bT hF)
 have g1:¬(0:Int)<(y.rn:Int)+(y.gn:Int):=zo;by_cases c2:y.ch*y.high*y.wide≠n
 ·have g2:(y.ch*y.high*y.wide != n)=true:=by simpa using c2
  have Bz:=zr w2;obtain⟨pa0,pa1,pa2,pa3,pa4,pa5,pa6,pa7,pa8,pa9,paa,pab,pac,-⟩:=(zxb HX0 Bz).cz;go_wp2_with fail
  with_reducible refine(pic_is HP0 HPN).mono ?_
  rintro e w11 ⟨rfl,b11⟩;replace b11:=zq (a:=w2) b11;replace Bz:=bT Bz b11;clear b11;clear pa0 pa1 pa2 pa3 pa4 pa5 pa6 pa7 pa8 pa9 paa pab pac;obtain⟨-,pa1,-,pa3,pa4,pa5,-,-,-,-,-,-,pac,-⟩:=(zxb HX0 Bz).cz;go_wp2_with fail
  go_ret3
  have hF:=bT (c:=w11) hB Bz;exact TB2.no (none_of (bh_conv HK2.out) (fun c=>c2 c.2.2.2.2.1)) 0 0 rfl (bT hF)
 have g2:(y.ch*y.high*y.wide != n)=false:=by simpa using c2
 have C2:=zh (Classical.not_not.1 c2);clear c2;by_cases c3:(y.kn:Int)≠y.out*y.ch*y.kh*y.kw
 ·have g3:((y.kn:Int) != y.out*y.ch*y.kh*y.kw)=true:=by simpa using c3
  have Bz:=zr w2;obtain⟨pa0,pa1,pa2,pa3,pa4,pa5,pa6,pa7,pa8,pa9,paa,pab,pac,-⟩:=(zxb HX0 Bz).cz;go_wp2_with fail
  with_reducible refine(pic_is HP0 HPN).mono ?_
  rintro e w11 ⟨rfl,b11⟩;replace b11:=zq (a:=w2) b11;replace Bz:=bT Bz b11;clear b11;clear pa0 pa1 pa2 pa3 pa4 pa5 pa6 pa7 pa8 pa9 paa pab pac;obtain⟨-,pa1,-,pa3,pa4,pa5,pa6,pa7,pa8,-,-,pab,pac,-⟩:=(zxb HX0 Bz).cz;go_wp2_with fail
  go_ret3
  have hF:=bT (c:=w11) hB Bz;exact TB2.no (none_of (bh_conv HK2.out) (fun c=>c3 (by rw[c.2.2.2.2.2.1];unfold cEach;simp only[Int.mul_assoc]))) 0 0 rfl (bT hF)
 have g3:((y.kn:Int) != y.out*y.ch*y.kh*y.kw)=false:=by simpa using c3
 have C3:=zh (Classical.not_not.1 c3);clear c3;by_cases c4:(y.bn:Int)≠y.out
 ·have g4:((y.bn:Int) != y.out)=true:=by simpa using c4
  have Bz:=zr w2;obtain⟨pa0,pa1,pa2,pa3,pa4,pa5,pa6,pa7,pa8,pa9,paa,pab,pac,-⟩:=(zxb HX0 Bz).cz;go_wp2_with fail
  with_reducible refine(pic_is HP0 HPN).mono ?_
  rintro e w11 ⟨rfl,b11⟩;replace b11:=zq (a:=w2) b11;replace Bz:=bT Bz b11;clear b11;clear pa0 pa1 pa2 pa3 pa4 pa5 pa6 pa7 pa8 pa9 paa pab pac;obtain⟨-,pa1,pa2,pa3,pa4,pa5,pa6,pa7,pa8,-,-,pab,pac,-⟩:=(zxb HX0 Bz).cz;go_wp2_with fail
  go_ret3
  have hF:=bT (c:=w11) hB Bz;exact TB2.no (none_of (bh_conv HK2.out) (fun c=>c4 c.2.2.2.2.2.2.1)) 0 0 rfl (bT hF)
 have g4:((y.bn:Int) != y.out)=false:=by simpa using c4
 have C4:=zh (Classical.not_not.1 c4);clear c4;have Bz:=zr w2;obtain⟨pa0,pa1,pa2,pa3,pa4,pa5,pa6,pa7,pa8,pa9,paa,pab,pac,-⟩:=(zxb HX0 Bz).cz;go_wp2_with fail
 with_reducible refine(pic_is HP0 HPN).mono ?_
 rintro e w11 ⟨rfl,b11⟩;replace b11:=zq (a:=w2) b11;replace Bz:=bT Bz b11;clear b11;clear pa0 pa1 pa2 pa3 pa4 pa5 pa6 pa7 pa8 pa9 paa pab pac;obtain⟨-,pa1,pa2,pa3,pa4,pa5,pa6,pa7,pa8,-,-,pab,pac,-⟩:=(zxb HX0 Bz).cz;go_wp2_with fail
 have q1:=mulb (zi HCV.out.out) HCV.out.out.2 hR.1 hR.2;have q2:=mulb q1.1 q1.2 hC.1 hC.2;have q3:=mulb q2.1 q2.2 (zi HCV.out.ch) HCV.out.ch.2;have q4:=mulb q3.1 q3.2 (zi HCV.out.kh) HCV.out.kh.2;have q5:=mulb q4.1 q4.2 (zi HCV.out.kw) HCV.out.kw.2;have u1:IntKind.i64.wrap (y.out*R)=y.out*R:=IntWalk.i64_in _ zo;have u2:IntKind.i64.wrap (y.out*R*C)=y.out*R*C:=IntWalk.i64_in _ zo;have u3:IntKind.i64.wrap (y.out*R*C*y.ch)=y.out*R*C*y.ch:=IntWalk.i64_in _ zo;have u4:IntKind.i64.wrap (y.out*R*C*y.ch*y.kh)=y.out*R*C*y.ch*y.kh:=IntWalk.i64_in _ zo;have u5:IntKind.i64.wrap (y.out*R*C*y.ch*y.kh*y.kw)=y.out*R*C*y.ch*y.kh*y.kw:=IntWalk.i64_in _ zo;clear q1 q2 q3 q4 q5;(try simp only[vAa,vB,vC])
 refine zl (zz [0,1,2,3,4,5,6,7,8,9,10,11,12,13,14,15,16,17,18,19,20,21,22,23] .done) [] (zsa pa3 (zsa pa6 (zsa pa7 (zI pa8)))) ?_;iterate 24 (refine zU ?_;try simp only[uW,uX,uY,uZ])
 refine wpPlan_done ?_;clear u1 u2 u3 u4 u5;go_wp2_with fail
 go_ret3
 have hF:=bT (c:=w11) hB Bz;exact TB2.yes (pic_res HK2.out HP0.out HPN.out zo C2.out C3.out C4.out HFk.out HFb.out) rfl (bT hF)
end Go.Proofs.YtidjjejgbahcgaaGreatDoor
