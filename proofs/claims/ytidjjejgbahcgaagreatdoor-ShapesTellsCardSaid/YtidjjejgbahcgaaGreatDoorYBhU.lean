/-
  tripwireref10.Behind, part U. Written by wip/gen/bh.py.
-/
import Derived.Test.YtidjjejgbahcgaaGreatDoorYBh0
set_option maxHeartbeats 16000000
set_option maxRecDepth 100000
namespace Go.Proofs.YtidjjejgbahcgaaGreatDoor
open Go.RowKit Tw
theorem behind_c0 {w:World} {m:Nat} {y:Ly} {n:Int} (h:LyOk w m y) (hm:m≤1900) (HFb:Hid ((y.bias.all fun x=>x.ex)=true)) (HFk:Hid ((y.kern.all fun x=>x.ex)=true)) (HP0:Hid (picOk y=false)) (HK1:Hid (¬y.kind=1)) (HK2:Hid (y.kind=2)) (_hT:Hid (Tab w)) :
  Calls Tryz.prog 25 #[.agg #[.int .u8 y.kind,.slice y.rA y.rn y.rc,.slice y.bA y.bn y.bc,.int .i64 y.ch,.int .i64 y.high,.int .i64 y.wide,.int .i64 y.out,.int .i64 y.kh,.int .i64 y.kw,.int .i64 y.st,.int .i64 y.pad,.slice y.kA y.kn y.kc,.slice y.gA y.gn y.gc],.int .i64 n] w (TB2 w (zAd y n)):=by
 have hl:=h.lens;obtain⟨W,hW,x0,hB⟩:=zY w y;have HX0:=zh x0;clear x0;have Bz:=zr W;go_enter Tryz.func25,Tryz.ntmps25
 go_upto_region 1 with(fail)
 rw[←hW];clear hW;go_cut [7] (fun v wx=>v=.bool (sizB y)∧Bx wx w.heap.size #[.int .u8 y.kind,.slice y.rA y.rn y.rc,.slice y.bA y.bn y.bc,.int .i64 y.ch,.int .i64 y.high,.int .i64 y.wide,.int .i64 y.out,.int .i64 y.kh,.int .i64 y.kw,.int .i64 y.st,.int .i64 y.pad,.slice y.kA y.kn y.kc,.slice y.gA y.gn y.gc] 49∧Below w.heap.size w wx)
 case first =>
  by_cases z0:y.ch=0
  rotate_left
  ·have HS:Hid (sizB y=true):=zh (by unfold sizB nums;simp[z0]);have n0:(y.ch != 0)=true:=bne_iff_ne.2 z0;have Bz:=zr W;have pa3:=(zxb HX0 Bz).cell 3 (.int .i64 y.ch) rfl;go_wp2_with fail
   go_meet
   case rel=>exact⟨by rw[HS.out],HX0.out.below Bz,bT hB Bz⟩
  have n0:(y.ch != 0)=false:=by rw[z0];rfl
  by_cases z1:y.high=0
  rotate_left
  ·have HS:Hid (sizB y=true):=zh (by unfold sizB nums;simp[z0,z1]);have n1:(y.high != 0)=true:=bne_iff_ne.2 z1;have Bz:=zr W;obtain⟨-,-,-,pa3,pa4,-⟩:=(zxb HX0 Bz).cz;go_wp2_with fail
   go_meet
   case rel=>exact⟨by rw[HS.out],HX0.out.below Bz,bT hB Bz⟩
  have n1:(y.high != 0)=false:=by rw[z1];rfl
  by_cases z2:y.wide=0
  rotate_left
  ·have HS:Hid (sizB y=true):=zh (by unfold sizB nums;simp[z0,z1,z2]);have n2:(y.wide != 0)=true:=bne_iff_ne.2 z2;have Bz:=zr W;obtain⟨-,-,-,pa3,pa4,pa5,-⟩:=(zxb HX0 Bz).cz;go_wp2_with fail
   go_meet
   case rel=>exact⟨by rw[HS.out],HX0.out.below Bz,bT hB Bz⟩
  have n2:(y.wide != 0)=false:=by rw[z2];rfl
  by_cases z3:y.out=0
  rotate_left
  ·have HS:Hid (sizB y=true):=zh (by unfold sizB nums;simp[z0,z1,z2,z3]);have n3:(y.out != 0)=true:=bne_iff_ne.2 z3;have Bz:=zr W;obtain⟨-,-,-,pa3,pa4,pa5,pa6,-⟩:=(zxb HX0 Bz).cz;go_wp2_with fail
   go_meet
   case rel=>exact⟨by rw[HS.out],HX0.out.below Bz,bT hB Bz⟩
  have n3:(y.out != 0)=false:=by rw[z3];rfl
  by_cases z4:y.kh=0
  rotate_left
  ·have HS:Hid (sizB y=true):=zh (by unfold sizB nums;simp[z0,z1,z2,z3,z4]);have n4:(y.kh != 0)=true:=bne_iff_ne.2 z4;have Bz:=zr W;obtain⟨-,-,-,pa3,pa4,pa5,pa6,pa7,-⟩:=(zxb HX0 Bz).cz;go_wp2_with fail
   go_meet
   case rel=>exact⟨by rw[HS.out],HX0.out.below Bz,bT hB Bz⟩
  have n4:(y.kh != 0)=false:=by rw[z4];rfl
  by_cases z5:y.kw=0
  rotate_left
  ·have HS:Hid (sizB y=true):=zh (by unfold sizB nums;simp[z0,z1,z2,z3,z4,z5]);have n5:(y.kw != 0)=true:=bne_iff_ne.2 z5;have Bz:=zr W;obtain⟨-,-,-,pa3,pa4,pa5,pa6,pa7,pa8,-⟩:=(zxb HX0 Bz).cz;go_wp2_with fail
   go_meet
   case rel=>exact⟨by rw[HS.out],HX0.out.below Bz,bT hB Bz⟩
  have n5:(y.kw != 0)=false:=by rw[z5];rfl
  by_cases z6:y.st=0
  rotate_left
  ·have HS:Hid (sizB y=true):=zh (by unfold sizB nums;simp[z0,z1,z2,z3,z4,z5,z6]);have n6:(y.st != 0)=true:=bne_iff_ne.2 z6;have Bz:=zr W;obtain⟨-,-,-,pa3,pa4,pa5,pa6,pa7,pa8,pa9,-⟩:=(zxb HX0 Bz).cz;go_wp2_with fail
   go_meet
   case rel=>exact⟨by rw[HS.out],HX0.out.below Bz,bT hB Bz⟩
  have n6:(y.st != 0)=false:=by rw[z6];rfl
  by_cases z7:y.pad=0
  rotate_left
  ·have HS:Hid (sizB y=true):=zh (by unfold sizB nums;simp[z0,z1,z2,z3,z4,z5,z6,z7]);have n7:(y.pad != 0)=true:=bne_iff_ne.2 z7;have Bz:=zr W;obtain⟨-,-,-,pa3,pa4,pa5,pa6,pa7,pa8,pa9,paa,-⟩:=(zxb HX0 Bz).cz;go_wp2_with fail
   go_meet
   case rel=>exact⟨by rw[HS.out],HX0.out.below Bz,bT hB Bz⟩
  have n7:(y.pad != 0)=false:=by rw[z7];rfl
  have HS:Hid (sizB y=false):=zh (by unfold sizB nums;simp[z0,z1,z2,z3,z4,z5,z6,z7]);have Bz:=zr W;obtain⟨-,-,-,pa3,pa4,pa5,pa6,pa7,pa8,pa9,paa,-⟩:=(zxb HX0 Bz).cz;go_wp2_with fail
  go_meet
  case rel=>exact⟨by rw[HS.out],HX0.out.below Bz,bT hB Bz⟩
 case rest =>
  obtain⟨rfl,hx1,hB0⟩:=hcut;obtain⟨wx,rfl,hB1⟩:∃wx,wx=_∧Below w.heap.size w wx:=⟨_,rfl,hB0⟩;replace HX0:=zh hx1;clear hB hB0 hx1 Bz;have hB:=hB1;clear hB1;obtain⟨s,hs⟩:∃s,s=sizB y:=⟨_,rfl⟩;have HS:=zh hs.symm;rw[←hs];clear hs;have Bz:=zr wx;have pa2:=(zxb HX0 Bz).cell 2 (.slice y.bA y.bn y.bc) rfl;go_wp2_with fail
  with_reducible refine(zAi (h.bias.below (bT hB (bT (b:=wx) Bz))) (zh fun x hx=>(h.bok x hx).below (bT hB (bT (b:=wx) Bz))) hm zo true HFb).mono ?_
  rintro e w11 ⟨rfl,b11⟩;replace b11:=zq (a:=wx) b11;replace Bz:=bT Bz b11;clear b11;clear pa2;have pab:=(zxb HX0 Bz).cell 11 (.slice y.kA y.kn y.kc) rfl;go_wp2_with fail
  with_reducible refine(zAi (h.kern.below (bT hB (bT (b:=w11) Bz))) (zh fun x hx=>(h.kok x hx).below (bT hB (bT (b:=w11) Bz))) hm zo true HFk).mono ?_
  rintro e w12 ⟨rfl,b12⟩;replace b12:=zq (a:=w11) b12;replace Bz:=bT Bz b12;clear b12;clear pab;replace hB:=bT hB Bz;replace HX0:=zh (zxb HX0 Bz);clear Bz;have k1:(y.kind==1)=false:=by have h9:=HK1.out;simp[h9]
  have k2:(y.kind==2)=true:=by have h9:=HK2.out;simp[h9]
  have Bz:=zr w12;obtain⟨pa0,pa1,pa2,pa3,pa4,pa5,pa6,pa7,pa8,pa9,paa,pab,pac,-⟩:=(zxb HX0 Bz).cz;go_wp2_with fail
  with_reducible refine(pic_no HP0.out).mono ?_
  rintro e w11 ⟨rfl,b11⟩;replace b11:=zq (a:=w12) b11;replace Bz:=bT Bz b11;clear b11;clear pa0 pa1 pa2 pa3 pa4 pa5 pa6 pa7 pa8 pa9 paa pab pac;go_wp2_with fail
  go_ret3
  have hF:=bT (c:=w11) hB Bz;exact TB2.no (none_of (bh_conv HK2.out) (fun c=>by rw[HP0.out] at c;exact absurd c.1 zd)) 0 0 rfl (bT hF)
end Go.Proofs.YtidjjejgbahcgaaGreatDoor
