/-
  tripwireref10.Behind, part L. Written by wip/gen/bh.py.
-/
import Derived.Test.YtidjjejgbahcgaaGreatDoorYBh0
set_option maxHeartbeats 16000000
set_option maxRecDepth 100000
namespace Go.Proofs.YtidjjejgbahcgaaGreatDoor
open Go.RowKit Tw
theorem behind_relu {w:World} {m:Nat} {y:Ly} {n:Int} (h:LyOk w m y) (hm:m≤1900) (HFb:Hid ((y.bias.all fun x=>x.ex)=true)) (HFk:Hid ((y.kern.all fun x=>x.ex)=true)) (HSZ:Hid (sizB y=false)) (HK1:Hid (¬y.kind=1)) (HK2:Hid (¬y.kind=2)) (HK3:Hid (y.kind=3)) (_hT:Hid (Tab w)) :
  Calls Tryz.prog 25 #[.agg #[.int .u8 y.kind,.slice y.rA y.rn y.rc,.slice y.bA y.bn y.bc,.int .i64 y.ch,.int .i64 y.high,.int .i64 y.wide,.int .i64 y.out,.int .i64 y.kh,.int .i64 y.kw,.int .i64 y.st,.int .i64 y.pad,.slice y.kA y.kn y.kc,.slice y.gA y.gn y.gc],.int .i64 n] w (TB2 w (zAd y n)):=by
 have hl:=h.lens;have z0:y.ch=0:=(siz_all HSZ.out).1;have z1:y.high=0:=(siz_all HSZ.out).2.1;have z2:y.wide=0:=(siz_all HSZ.out).2.2.1;have z3:y.out=0:=(siz_all HSZ.out).2.2.2.1;have z4:y.kh=0:=(siz_all HSZ.out).2.2.2.2.1;have z5:y.kw=0:=(siz_all HSZ.out).2.2.2.2.2.1;have z6:y.st=0:=(siz_all HSZ.out).2.2.2.2.2.2.1;have z7:y.pad=0:=(siz_all HSZ.out).2.2.2.2.2.2.2;have n0:(y.ch != 0)=false:=by rw[z0];rfl
 have n1:(y.high != 0)=false:=by rw[z1];rfl
 have n2:(y.wide != 0)=false:=by rw[z2];rfl
 have n3:(y.out != 0)=false:=by rw[z3];rfl
 have n4:(y.kh != 0)=false:=by rw[z4];rfl
 have n5:(y.kw != 0)=false:=by rw[z5];rfl
 have n6:(y.st != 0)=false:=by rw[z6];rfl
 have n7:(y.pad != 0)=false:=by rw[z7];rfl
 clear z0 z1 z2 z3 z4 z5 z6 z7;obtain⟨W,hW,x0,hB⟩:=zY w y;have HX0:=zh x0;clear x0;have Bz:=zr W;obtain⟨-,-,pa2,pa3,pa4,pa5,pa6,pa7,pa8,pa9,paa,-⟩:=(zxb HX0 Bz).cz;go_enter Tryz.func25,Tryz.ntmps25
 go_wp2_with fail
 rw[←hW];clear hW;go_wp2_with fail
 with_reducible refine(zAi (h.bias.below (bT hB (bT (b:=W) Bz))) (zh fun x hx=>(h.bok x hx).below (bT hB (bT (b:=W) Bz))) hm zo true HFb).mono ?_
 rintro e w1 ⟨rfl,b1⟩;replace b1:=zq (a:=W) b1;replace Bz:=bT Bz b1;clear b1;clear pa2 pa3 pa4 pa5 pa6 pa7 pa8 pa9 paa;have pab:=(zxb HX0 Bz).cell 11 (.slice y.kA y.kn y.kc) rfl;go_wp2_with fail
 with_reducible refine(zAi (h.kern.below (bT hB (bT (b:=w1) Bz))) (zh fun x hx=>(h.kok x hx).below (bT hB (bT (b:=w1) Bz))) hm zo true HFk).mono ?_
 rintro e w2 ⟨rfl,b2⟩;replace b2:=zq (a:=w1) b2;replace Bz:=bT Bz b2;clear b2;clear pab;replace hB:=bT hB Bz;replace HX0:=zh (zxb HX0 Bz);clear Bz;have k1:(y.kind==1)=false:=by have h9:=HK1.out;simp[h9]
 have k2:(y.kind==2)=false:=by have h9:=HK2.out;simp[h9]
 have k3:(y.kind==3)=true:=by have h9:=HK3.out;simp[h9]
 by_cases c1:y.rn+y.bn+y.kn+y.gn=0
 ·have g1:(IntKind.i64.wrap (IntKind.i64.wrap (IntKind.i64.wrap ((y.rn:Int)+(y.bn:Int))+(y.kn:Int))+(y.gn:Int))==0)=true:=by rw[IntWalk.i64_in (y.rn+y.bn) zo,IntWalk.i64_in (y.rn+y.bn+y.kn) zo,IntWalk.i64_in (y.rn+y.bn+y.kn+y.gn) zo];simp;omega
  have Bz:=zr w2;obtain⟨pa0,pa1,pa2,-,-,-,-,-,-,-,-,pab,pac,-⟩:=(zxb HX0 Bz).cz;go_wp2_with fail
  (try simp only[vAa,vB,vC])
  refine zl (zz [0,1,2,3,4,5,6,7,8,9,10,11,12,13,14,15,16,17,18,19,20,21,22,23] .done) [] (zsa pa1 (zsa pa2 (zsa pab (zI pac)))) ?_;iterate 24 (refine zU ?_;try simp only[uW,uX,uY,uZ])
  refine wpPlan_done ?_;go_wp2_with fail
  go_ret3
  have hF:=bT (c:=w2) hB Bz;exact TB2.yes (by rw[bh_relu HK3.out,if_pos ⟨HSZ.out,zo⟩]) rfl (bT hF)
 ·have g1:(IntKind.i64.wrap (IntKind.i64.wrap (IntKind.i64.wrap ((y.rn:Int)+(y.bn:Int))+(y.kn:Int))+(y.gn:Int))==0)=false:=by rw[IntWalk.i64_in (y.rn+y.bn) zo,IntWalk.i64_in (y.rn+y.bn+y.kn) zo,IntWalk.i64_in (y.rn+y.bn+y.kn+y.gn) zo];simp;omega
  have Bz:=zr w2;obtain⟨pa0,pa1,pa2,-,-,-,-,-,-,-,-,pab,pac,-⟩:=(zxb HX0 Bz).cz;go_wp2_with fail
  (try simp only[vAa,vB,vC])
  refine zl (zz [0,1,2,3,4,5,6,7,8,9,10,11,12,13,14,15,16,17,18,19,20,21,22,23] .done) [] (zsa pa1 (zsa pa2 (zsa pab (zI pac)))) ?_;iterate 24 (refine zU ?_;try simp only[uW,uX,uY,uZ])
  refine wpPlan_done ?_;go_wp2_with fail
  go_ret3
  have hF:=bT (c:=w2) hB Bz;exact TB2.no (by rw[bh_relu HK3.out,if_neg (fun c=>by omega)]) n 0 rfl (bT hF)
end Go.Proofs.YtidjjejgbahcgaaGreatDoor
