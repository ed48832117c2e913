import Derived.Test.YtiondclbdgijbaaGreatDoorYSh7
set_option maxHeartbeats 4000000
set_option maxRecDepth 100000
namespace Go.Proofs.YtiondclbdgijbaaGreatDoor
open Go.RowKit Tw
variable {lc ln m:Nat} {inp t u:Int} {lA:Option Addr}
theorem divb {a b A:Int} (hb:1≤b) (h0:0≤a) (h1:a≤A):0≤a / b∧a / b≤A :=
 ⟨nF h0 zo,Int.le_trans (Int.ediv_le_self b h0) h1⟩
theorem conv_q {w:World} {y:Ly} {n:Int} (h:LyOk w m y) (hm:m≤20000) (hT:Hid (Tab w)) :
  Calls Tryz.prog 101 #[.agg #[.int .u8 y.kind,.slice y.rA y.rn y.rc,.slice y.bA y.bn y.bc,.int .i64 y.ch,.int .i64 y.high,.int .i64 y.wide,.int .i64 y.out,.int .i64 y.kh,.int .i64 y.kw,.int .i64 y.st,.int .i64 y.pad,.slice y.kA y.kn y.kc,.slice y.gA y.gn y.gc],.int .i64 n] w (TellsB w (convF y n)):=by
 have hl:=h.lens;by_cases c0:((sides y).all fun z=>decide (1≤z)&&decide (z≤256))=false
 ·exact conv_0 h hm hl (zh c0)   (zh (by unfold convF;rw[bB c0])) hT
 ·have q:=sides_ok (by simpa using c0);by_cases c1:y.pad<0
  ·exact conv_1 h hm hl (zh (by simpa using c0)) c1 q.ch q.high q.wide q.out q.kh q.kw q.st  (zh (by unfold convF;rw[dA c0,bB c1])) hT
  ·skip
   by_cases c2:y.kh≤y.pad
   ·exact conv_2 h hm hl (zh (by simpa using c0)) c1 c2 q.ch q.high q.wide q.out q.kh q.kw q.st  (zh (by unfold convF;rw[dA c0,dA c1,bB c2])) hT
   ·skip
    by_cases c3:y.kw≤y.pad
    ·exact conv_3 h hm hl (zh (by simpa using c0)) c1 c2 c3 q.ch q.high q.wide q.out q.kh q.kw q.st  (zh (by unfold convF;rw[dA c0,dA c1,dA c2,bB c3])) hT
    ·have p1:=mulb (zi q.ch) q.ch.2 (zi q.high) q.high.2;have p2:=mulb p1.1 p1.2 (zi q.wide) q.wide.2;have p3:=mulb (zi q.ch) q.ch.2 (zi q.kh) q.kh.2;have p4:=mulb p3.1 p3.2 (zi q.kw) q.kw.2;have p5:=mulb (zi q.out) q.out.2 p4.1 p4.2;by_cases c4:y.ch*y.high*y.wide≠n
     ·exact conv_4 h hm hl (zh (by simpa using c0)) c1 c2 c3 (by simpa using c4) q.ch q.high q.wide q.out q.kh q.kw q.st p1.1 p1.2 p2.1 p2.2 (zh (by unfold convF;rw[dA c0,dA c1,dA c2,dA c3,bB c4])) hT
     ·skip
      by_cases c5:cHigh y<0
      ·exact conv_5 h hm hl (zh (by simpa using c0)) c1 c2 c3 (by simpa using c4) c5 q.ch q.high q.wide q.out q.kh q.kw q.st p1.1 p1.2 p2.1 p2.2 p3.1 p3.2 p4.1 p4.2 (zh (by unfold convF;rw[dA c0,dA c1,dA c2,dA c3,dA c4,bB c5])) hT
      ·skip
       by_cases c6:cWide y<0
       ·exact conv_6 h hm hl (zh (by simpa using c0)) c1 c2 c3 (by simpa using c4) c5 c6 q.ch q.high q.wide q.out q.kh q.kw q.st p1.1 p1.2 p2.1 p2.2 p3.1 p3.2 p4.1 p4.2 (zh (by unfold convF;rw[dA c0,dA c1,dA c2,dA c3,dA c4,dA c5,bB c6])) hT
       ·have q1:0≤(y.high+2*y.pad-y.kh) / y.st∧(y.high+2*y.pad-y.kh) / y.st≤766:=divb (zi q.st) (by unfold cHigh at c5;omega) (zj q.high q.kh);have q2:0≤(y.wide+2*y.pad-y.kw) / y.st∧(y.wide+2*y.pad-y.kw) / y.st≤766:=divb (zi q.st) (by unfold cWide at c6;omega) (zj q.wide q.kw);have p6:=mulb (b:=(y.high+2*y.pad-y.kh) / y.st+1) (B:=767) (zi q.out) q.out.2 zo zo;have p7:=mulb (b:=(y.wide+2*y.pad-y.kw) / y.st+1) (B:=767) p6.1 p6.2 zo zo;have p8:=mulb p7.1 p7.2 p4.1 p4.2;by_cases c7:(y.kn:Int)≠y.out*cEach y
        ·exact conv_7 h hm hl (zh (by simpa using c0)) c1 c2 c3 (by simpa using c4) c5 c6 (by simpa [cEach] using c7) q.ch q.high q.wide q.out q.kh q.kw q.st p1.1 p1.2 p2.1 p2.2 p3.1 p3.2 p4.1 p4.2 p5.1 p5.2 (zh (by unfold convF;rw[dA c0,dA c1,dA c2,dA c3,dA c4,dA c5,dA c6,bB c7])) hT
        ·skip
         by_cases c8:(y.bn:Int)≠y.out
         ·exact conv_8 h hm hl (zh (by simpa using c0)) c1 c2 c3 (by simpa using c4) c5 c6 (by simpa [cEach] using c7) (by simpa using c8) q.ch q.high q.wide q.out q.kh q.kw q.st p1.1 p1.2 p2.1 p2.2 p3.1 p3.2 p4.1 p4.2 p5.1 p5.2 (zh (by unfold convF;rw[dA c0,dA c1,dA c2,dA c3,dA c4,dA c5,dA c6,dA c7,bB c8])) hT
         ·skip
          by_cases c9:0<y.rn
          ·exact conv_9 h hm hl (zh (by simpa using c0)) c1 c2 c3 (by simpa using c4) c5 c6 (by simpa [cEach] using c7) (by simpa using c8) c9 q.ch q.high q.wide q.out q.kh q.kw q.st p1.1 p1.2 p2.1 p2.2 p3.1 p3.2 p4.1 p4.2 p5.1 p5.2 (zh (by unfold convF;rw[dA c0,dA c1,dA c2,dA c3,dA c4,dA c5,dA c6,dA c7,dA c8,bB c9])) hT
          ·skip
           by_cases c10:0<y.gn
           ·exact conv_10 h hm hl (zh (by simpa using c0)) c1 c2 c3 (by simpa using c4) c5 c6 (by simpa [cEach] using c7) (by simpa using c8) c9 c10 q.ch q.high q.wide q.out q.kh q.kw q.st p1.1 p1.2 p2.1 p2.2 p3.1 p3.2 p4.1 p4.2 p5.1 p5.2 (zh (by unfold convF;rw[dA c0,dA c1,dA c2,dA c3,dA c4,dA c5,dA c6,dA c7,dA c8,dA c9,bB c10])) hT
           ·skip
            by_cases c11:(y.kern.all fun x=>x.ex)=false
            ·exact conv_11 h hm hl (zh (by simpa using c0)) c1 c2 c3 (by simpa using c4) c5 c6 (by simpa [cEach] using c7) (by simpa using c8) c9 c10 (zh c11) q.ch q.high q.wide q.out q.kh q.kw q.st p1.1 p1.2 p2.1 p2.2 p3.1 p3.2 p4.1 p4.2 p5.1 p5.2 (zh (by unfold convF;rw[dA c0,dA c1,dA c2,dA c3,dA c4,dA c5,dA c6,dA c7,dA c8,dA c9,dA c10,bB c11])) hT
            ·skip
             by_cases c12:(y.bias.all fun x=>x.ex)=false
             ·exact conv_12 h hm hl (zh (by simpa using c0)) c1 c2 c3 (by simpa using c4) c5 c6 (by simpa [cEach] using c7) (by simpa using c8) c9 c10 (zh (by simpa using c11)) (zh c12) q.ch q.high q.wide q.out q.kh q.kw q.st p1.1 p1.2 p2.1 p2.2 p3.1 p3.2 p4.1 p4.2 p5.1 p5.2 (zh (by unfold convF;rw[dA c0,dA c1,dA c2,dA c3,dA c4,dA c5,dA c6,dA c7,dA c8,dA c9,dA c10,dA c11,bB c12])) hT
             ·skip
              exact conv_13 h hm hl (zh (by simpa using c0)) c1 c2 c3 (by simpa using c4) c5 c6 (by simpa [cEach] using c7) (by simpa using c8) c9 c10 (zh (by simpa using c11)) (zh (by simpa using c12)) q.ch q.high q.wide q.out q.kh q.kw q.st p1.1 p1.2 p2.1 p2.2 p3.1 p3.2 p4.1 p4.2 p5.1 p5.2 q1.1 q1.2 q2.1 q2.2 p6.1 p6.2 p7.1 p7.2 p8.1 p8.2 (zh (by unfold convF;rw[dA c0,dA c1,dA c2,dA c3,dA c4,dA c5,dA c6,dA c7,dA c8,dA c9,dA c10,dA c11,dA c12])) hT
def reluB (y:Ly):Bool:=plainB y&&(decide (y.rn=0)&&(decide (y.bn=0)&&decide (y.gn=0)))
def zAc (y:Ly) (n:Int):Option (Int×Int) :=
 if y.kind=1 then zAg y n else if y.kind=2 then convF y n else if y.kind=3 then(if reluB y then some (n,0) else none) else if y.kind=4 then poolF y n else none
def stepsF:List Ly→Int→Int→Except Int (List Int)
 | [],n,_=>.ok [n]
 | y :: L,n,s =>
  match zAc y n with
  | none=>.error 22
  | some (u,t)=>if 256<u then .error 25 else if 16384<s+t then .error 25 else(stepsF L u (s+t)).map (n :: ·)
def sizesF (i:Int) (L:List Ly):Except Int (List Int):=if i<1 then .error 25 else if 64<i then .error 25 else if 16<L.length then .error 25 else stepsF L i 0
theorem TellsB.no {w w':World} {e:Ending} {f:Option (Int×Int)} (h:TellsB w f e w') (hf:f=none):e=.returned (.tuple #[.int .i64 0,.int .i64 0,.bool false])∧Below w.heap.size w w':=by subst hf;exact h
theorem TellsB.yes {w w':World} {e:Ending} {f:Option (Int×Int)} {a b:Int} (h:TellsB w f e w') (hf:f=some (a,b)):e=.returned (.tuple #[.int .i64 a,.int .i64 b,.bool true])∧Below w.heap.size w w':=by subst hf;exact h
theorem behind_1n {w:World} {y:Ly} {n:Int} (h:LyOk w m y) (hm:m≤20000) (_hl:y.rn≤100000∧y.bn≤100000∧y.kn≤100000∧y.gn≤100000) (k1:(y.kind==1)=true) (HF:Hid (zAg y n=none)) (HA:Hid (zAc y n=none)) (hT:Hid (Tab w)) :
  Calls Tryz.prog 68 #[.agg #[.int .u8 y.kind,.slice y.rA y.rn y.rc,.slice y.bA y.bn y.bc,.int .i64 y.ch,.int .i64 y.high,.int .i64 y.wide,.int .i64 y.out,.int .i64 y.kh,.int .i64 y.kw,.int .i64 y.st,.int .i64 y.pad,.slice y.kA y.kn y.kc,.slice y.gA y.gn y.gc],.int .i64 n] w (TellsB w (zAc y n)):=by
 obtain⟨W,hW,x0,hB⟩:=zY w y;have HX0:=zh x0;clear x0;have Bz:=zr W;obtain⟨pa0,pa1,pa2,pa3,pa4,pa5,pa6,pa7,pa8,pa9,paa,pab,pac,-⟩:=(zx HX0 Bz).cz;go_enter Tryz.func68,Tryz.ntmps68
 go_wp2_with fail
 rw[←hW];clear hW;go_wp2_with fail
 with_reducible refine((affine_q (h.below (bT hB (bT (b:=W) Bz))) hm (zt hT hB Bz)).mono fun _ _ hx=>TellsB.no hx HF.out).mono ?_
 rintro e w1 ⟨rfl,q⟩;replace q:=zq (a:=W) q;replace Bz:=bT Bz q;clear q;clear pa0 pa1 pa2 pa3 pa4 pa5 pa6 pa7 pa8 pa9 paa pab pac;go_wp2_with fail
 go_ret3
 have hF:=bT (c:=w1) hB Bz;exact⟨by rw[HA.out];rfl,bT hF⟩
theorem behind_1s {w:World} {y:Ly} {n:Int} (h:LyOk w m y) (hm:m≤20000) (_hl:y.rn≤100000∧y.bn≤100000∧y.kn≤100000∧y.gn≤100000) (k1:(y.kind==1)=true) (HF:Hid (zAg y n=some (u,t))) (HA:Hid (zAc y n=some (u,t))) (hT:Hid (Tab w)) :
  Calls Tryz.prog 68 #[.agg #[.int .u8 y.kind,.slice y.rA y.rn y.rc,.slice y.bA y.bn y.bc,.int .i64 y.ch,.int .i64 y.high,.int .i64 y.wide,.int .i64 y.out,.int .i64 y.kh,.int .i64 y.kw,.int .i64 y.st,.int .i64 y.pad,.slice y.kA y.kn y.kc,.slice y.gA y.gn y.gc],.int .i64 n] w (TellsB w (zAc y n)):=by
 obtain⟨W,hW,x0,hB⟩:=zY w y;have HX0:=zh x0;clear x0;have Bz:=zr W;obtain⟨pa0,pa1,pa2,pa3,pa4,pa5,pa6,pa7,pa8,pa9,paa,pab,pac,-⟩:=(zx HX0 Bz).cz;go_enter Tryz.func68,Tryz.ntmps68
 go_wp2_with fail
 rw[←hW];clear hW;go_wp2_with fail
 with_reducible refine((affine_q (h.below (bT hB (bT (b:=W) Bz))) hm (zt hT hB Bz)).mono fun _ _ hx=>TellsB.yes hx HF.out).mono ?_
 rintro e w1 ⟨rfl,q⟩;replace q:=zq (a:=W) q;replace Bz:=bT Bz q;clear q;clear pa0 pa1 pa2 pa3 pa4 pa5 pa6 pa7 pa8 pa9 paa pab pac;go_wp2_with fail
 go_ret3
 have hF:=bT (c:=w1) hB Bz;exact⟨by rw[HA.out];rfl,bT hF⟩
theorem behind_2n {w:World} {y:Ly} {n:Int} (h:LyOk w m y) (hm:m≤20000) (_hl:y.rn≤100000∧y.bn≤100000∧y.kn≤100000∧y.gn≤100000) (k1:(y.kind==1)=false) (k2:(y.kind==2)=true) (HF:Hid (convF y n=none)) (HA:Hid (zAc y n=none)) (hT:Hid (Tab w)) :
  Calls Tryz.prog 68 #[.agg #[.int .u8 y.kind,.slice y.rA y.rn y.rc,.slice y.bA y.bn y.bc,.int .i64 y.ch,.int .i64 y.high,.int .i64 y.wide,.int .i64 y.out,.int .i64 y.kh,.int .i64 y.kw,.int .i64 y.st,.int .i64 y.pad,.slice y.kA y.kn y.kc,.slice y.gA y.gn y.gc],.int .i64 n] w (TellsB w (zAc y n)):=by
 obtain⟨W,hW,x0,hB⟩:=zY w y;have HX0:=zh x0;clear x0;have Bz:=zr W;obtain⟨pa0,pa1,pa2,pa3,pa4,pa5,pa6,pa7,pa8,pa9,paa,pab,pac,-⟩:=(zx HX0 Bz).cz;go_enter Tryz.func68,Tryz.ntmps68
 go_wp2_with fail
 rw[←hW];clear hW;go_wp2_with fail
 with_reducible refine((conv_q (h.below (bT hB (bT (b:=W) Bz))) hm (zt hT hB Bz)).mono fun _ _ hx=>TellsB.no hx HF.out).mono ?_
 rintro e w1 ⟨rfl,q⟩;replace q:=zq (a:=W) q;replace Bz:=bT Bz q;clear q;clear pa0 pa1 pa2 pa3 pa4 pa5 pa6 pa7 pa8 pa9 paa pab pac;go_wp2_with fail
 go_ret3
 have hF:=bT (c:=w1) hB Bz;exact⟨by rw[HA.out];rfl,bT hF⟩
theorem behind_2s {w:World} {y:Ly} {n:Int} (h:LyOk w m y) (hm:m≤20000) (_hl:y.rn≤100000∧y.bn≤100000∧y.kn≤100000∧y.gn≤100000) (k1:(y.kind==1)=false) (k2:(y.kind==2)=true) (HF:Hid (convF y n=some (u,t))) (HA:Hid (zAc y n=some (u,t))) (hT:Hid (Tab w)) :
  Calls Tryz.prog 68 #[.agg #[.int .u8 y.kind,.slice y.rA y.rn y.rc,.slice y.bA y.bn y.bc,.int .i64 y.ch,.int .i64 y.high,.int .i64 y.wide,.int .i64 y.out,.int .i64 y.kh,.int .i64 y.kw,.int .i64 y.st,.int .i64 y.pad,.slice y.kA y.kn y.kc,.slice y.gA y.gn y.gc],.int .i64 n] w (TellsB w (zAc y n)):=by
 obtain⟨W,hW,x0,hB⟩:=zY w y;have HX0:=zh x0;clear x0;have Bz:=zr W;obtain⟨pa0,pa1,pa2,pa3,pa4,pa5,pa6,pa7,pa8,pa9,paa,pab,pac,-⟩:=(zx HX0 Bz).cz;go_enter Tryz.func68,Tryz.ntmps68
 go_wp2_with fail
 rw[←hW];clear hW;go_wp2_with fail
 with_reducible refine((conv_q (h.below (bT hB (bT (b:=W) Bz))) hm (zt hT hB Bz)).mono fun _ _ hx=>TellsB.yes hx HF.out).mono ?_
 rintro e w1 ⟨rfl,q⟩;replace q:=zq (a:=W) q;replace Bz:=bT Bz q;clear q;clear pa0 pa1 pa2 pa3 pa4 pa5 pa6 pa7 pa8 pa9 paa pab pac;go_wp2_with fail
 go_ret3
 have hF:=bT (c:=w1) hB Bz;exact⟨by rw[HA.out];rfl,bT hF⟩
theorem behind_4n {w:World} {y:Ly} {n:Int} (h:LyOk w m y) (_hm:m≤20000) (_hl:y.rn≤100000∧y.bn≤100000∧y.kn≤100000∧y.gn≤100000) (k1:(y.kind==1)=false) (k2:(y.kind==2)=false) (k3:(y.kind==3)=false) (k4:(y.kind==4)=true) (HF:Hid (poolF y n=none)) (HA:Hid (zAc y n=none)) (_hT:Hid (Tab w)) :
  Calls Tryz.prog 68 #[.agg #[.int .u8 y.kind,.slice y.rA y.rn y.rc,.slice y.bA y.bn y.bc,.int .i64 y.ch,.int .i64 y.high,.int .i64 y.wide,.int .i64 y.out,.int .i64 y.kh,.int .i64 y.kw,.int .i64 y.st,.int .i64 y.pad,.slice y.kA y.kn y.kc,.slice y.gA y.gn y.gc],.int .i64 n] w (TellsB w (zAc y n)):=by
 obtain⟨W,hW,x0,hB⟩:=zY w y;have HX0:=zh x0;clear x0;have Bz:=zr W;obtain⟨pa0,pa1,pa2,pa3,pa4,pa5,pa6,pa7,pa8,pa9,paa,pab,pac,-⟩:=(zx HX0 Bz).cz;go_enter Tryz.func68,Tryz.ntmps68
 go_wp2_with fail
 rw[←hW];clear hW;go_wp2_with fail
 with_reducible refine((pool_q (h.below (bT hB (bT (b:=W) Bz)))).mono fun _ _ hx=>TellsB.no hx HF.out).mono ?_
 rintro e w1 ⟨rfl,q⟩;replace q:=zq (a:=W) q;replace Bz:=bT Bz q;clear q;clear pa0 pa1 pa2 pa3 pa4 pa5 pa6 pa7 pa8 pa9 paa pab pac;go_wp2_with fail
 go_ret3
 have hF:=bT (c:=w1) hB Bz;exact⟨by rw[HA.out];rfl,bT hF⟩
theorem behind_4s {w:World} {y:Ly} {n:Int} (h:LyOk w m y) (_hm:m≤20000) (_hl:y.rn≤100000∧y.bn≤100000∧y.kn≤100000∧y.gn≤100000) (k1:(y.kind==1)=false) (k2:(y.kind==2)=false) (k3:(y.kind==3)=false) (k4:(y.kind==4)=true) (HF:Hid (poolF y n=some (u,t))) (HA:Hid (zAc y n=some (u,t))) (_hT:Hid (Tab w)) :
  Calls Tryz.prog 68 #[.agg #[.int .u8 y.kind,.slice y.rA y.rn y.rc,.slice y.bA y.bn y.bc,.int .i64 y.ch,.int .i64 y.high,.int .i64 y.wide,.int .i64 y.out,.int .i64 y.kh,.int .i64 y.kw,.int .i64 y.st,.int .i64 y.pad,.slice y.kA y.kn y.kc,.slice y.gA y.gn y.gc],.int .i64 n] w (TellsB w (zAc y n)):=by
 obtain⟨W,hW,x0,hB⟩:=zY w y;have HX0:=zh x0;clear x0;have Bz:=zr W;obtain⟨pa0,pa1,pa2,pa3,pa4,pa5,pa6,pa7,pa8,pa9,paa,pab,pac,-⟩:=(zx HX0 Bz).cz;go_enter Tryz.func68,Tryz.ntmps68
 go_wp2_with fail
 rw[←hW];clear hW;go_wp2_with fail
 with_reducible refine((pool_q (h.below (bT hB (bT (b:=W) Bz)))).mono fun _ _ hx=>TellsB.yes hx HF.out).mono ?_
 rintro e w1 ⟨rfl,q⟩;replace q:=zq (a:=W) q;replace Bz:=bT Bz q;clear q;clear pa0 pa1 pa2 pa3 pa4 pa5 pa6 pa7 pa8 pa9 paa pab pac;go_wp2_with fail
 go_ret3
 have hF:=bT (c:=w1) hB Bz;exact⟨by rw[HA.out];rfl,bT hF⟩
theorem behind_30 {w:World} {y:Ly} {n:Int} (_h:LyOk w m y) (_hm:m≤20000) (hl:y.rn≤100000∧y.bn≤100000∧y.kn≤100000∧y.gn≤100000) (k1:(y.kind==1)=false) (k2:(y.kind==2)=false) (k3:(y.kind==3)=true) (HP:Hid (plainB y=false)) (HA:Hid (zAc y n=none)) (_hT:Hid (Tab w)) :
  Calls Tryz.prog 68 #[.agg #[.int .u8 y.kind,.slice y.rA y.rn y.rc,.slice y.bA y.bn y.bc,.int .i64 y.ch,.int .i64 y.high,.int .i64 y.wide,.int .i64 y.out,.int .i64 y.kh,.int .i64 y.kw,.int .i64 y.st,.int .i64 y.pad,.slice y.kA y.kn y.kc,.slice y.gA y.gn y.gc],.int .i64 n] w (TellsB w (zAc y n)):=by
 obtain⟨W,hW,x0,hB⟩:=zY w y;have HX0:=zh x0;clear x0;have Bz:=zr W;obtain⟨pa0,pa1,pa2,pa3,pa4,pa5,pa6,pa7,pa8,pa9,paa,pab,pac,-⟩:=(zx HX0 Bz).cz;go_enter Tryz.func68,Tryz.ntmps68
 go_wp2_with fail
 rw[←hW];clear hW;go_wp2_with fail
 with_reducible refine(plain_q zo false HP).mono ?_
 rintro e w1 ⟨rfl,q⟩;replace q:=zq (a:=W) q;replace Bz:=bT Bz q;clear q;clear pa0 pa1 pa2 pa3 pa4 pa5 pa6 pa7 pa8 pa9 paa pab pac;go_wp2_with fail
 go_ret3
 have hF:=bT (c:=w1) hB Bz;exact⟨by rw[HA.out];rfl,bT hF⟩
theorem behind_31 {w:World} {y:Ly} {n:Int} (_h:LyOk w m y) (_hm:m≤20000) (hl:y.rn≤100000∧y.bn≤100000∧y.kn≤100000∧y.gn≤100000) (k1:(y.kind==1)=false) (k2:(y.kind==2)=false) (k3:(y.kind==3)=true) (HP:Hid (plainB y=true)) (r1:((y.rn:Int)==0)=false) (HA:Hid (zAc y n=none)) (_hT:Hid (Tab w)) :
  Calls Tryz.prog 68 #[.agg #[.int .u8 y.kind,.slice y.rA y.rn y.rc,.slice y.bA y.bn y.bc,.int .i64 y.ch,.int .i64 y.high,.int .i64 y.wide,.int .i64 y.out,.int .i64 y.kh,.int .i64 y.kw,.int .i64 y.st,.int .i64 y.pad,.slice y.kA y.kn y.kc,.slice y.gA y.gn y.gc],.int .i64 n] w (TellsB w (zAc y n)):=by
 obtain⟨W,hW,x0,hB⟩:=zY w y;have HX0:=zh x0;clear x0;have Bz:=zr W;obtain⟨pa0,pa1,pa2,pa3,pa4,pa5,pa6,pa7,pa8,pa9,paa,pab,pac,-⟩:=(zx HX0 Bz).cz;go_enter Tryz.func68,Tryz.ntmps68
 go_wp2_with fail
 rw[←hW];clear hW;go_wp2_with fail
 with_reducible refine(plain_q zo true HP).mono ?_
 rintro e w1 ⟨rfl,q⟩;replace q:=zq (a:=W) q;replace Bz:=bT Bz q;clear q;clear pa0 pa1 pa2 pa3 pa4 pa5 pa6 pa7 pa8 pa9 paa pab pac;have pa1:=(zx HX0 Bz).cell 1 (.slice y.rA y.rn y.rc) rfl;go_wp2_with fail
 go_ret3
 have hF:=bT (c:=w1) hB Bz;exact⟨by rw[HA.out];rfl,bT hF⟩
theorem behind_32 {w:World} {y:Ly} {n:Int} (_h:LyOk w m y) (_hm:m≤20000) (hl:y.rn≤100000∧y.bn≤100000∧y.kn≤100000∧y.gn≤100000) (k1:(y.kind==1)=false) (k2:(y.kind==2)=false) (k3:(y.kind==3)=true) (HP:Hid (plainB y=true)) (r1:((y.rn:Int)==0)=true) (r2:((y.bn:Int)==0)=false) (HA:Hid (zAc y n=none)) (_hT:Hid (Tab w)) :
  Calls Tryz.prog 68 #[.agg #[.int .u8 y.kind,.slice y.rA y.rn y.rc,.slice y.bA y.bn y.bc,.int .i64 y.ch,.int .i64 y.high,.int .i64 y.wide,.int .i64 y.out,.int .i64 y.kh,.int .i64 y.kw,.int .i64 y.st,.int .i64 y.pad,.slice y.kA y.kn y.kc,.slice y.gA y.gn y.gc],.int .i64 n] w (TellsB w (zAc y n)):=by
 obtain⟨W,hW,x0,hB⟩:=zY w y;have HX0:=zh x0;clear x0;have Bz:=zr W;obtain⟨pa0,pa1,pa2,pa3,pa4,pa5,pa6,pa7,pa8,pa9,paa,pab,pac,-⟩:=(zx HX0 Bz).cz;go_enter Tryz.func68,Tryz.ntmps68
 go_wp2_with fail
 rw[←hW];clear hW;go_wp2_with fail
 with_reducible refine(plain_q zo true HP).mono ?_
 rintro e w1 ⟨rfl,q⟩;replace q:=zq (a:=W) q;replace Bz:=bT Bz q;clear q;clear pa0 pa1 pa2 pa3 pa4 pa5 pa6 pa7 pa8 pa9 paa pab pac;obtain⟨-,pa1,pa2,-⟩:=(zx HX0 Bz).cz;go_wp2_with fail
 go_ret3
 have hF:=bT (c:=w1) hB Bz;exact⟨by rw[HA.out];rfl,bT hF⟩
theorem behind_33 {w:World} {y:Ly} {n:Int} (_h:LyOk w m y) (_hm:m≤20000) (hl:y.rn≤100000∧y.bn≤100000∧y.kn≤100000∧y.gn≤100000) (k1:(y.kind==1)=false) (k2:(y.kind==2)=false) (k3:(y.kind==3)=true) (HP:Hid (plainB y=true)) (r1:((y.rn:Int)==0)=true) (r2:((y.bn:Int)==0)=true) (r3:((y.gn:Int)==0)=false) (HA:Hid (zAc y n=none)) (_hT:Hid (Tab w)) :
  Calls Tryz.prog 68 #[.agg #[.int .u8 y.kind,.slice y.rA y.rn y.rc,.slice y.bA y.bn y.bc,.int .i64 y.ch,.int .i64 y.high,.int .i64 y.wide,.int .i64 y.out,.int .i64 y.kh,.int .i64 y.kw,.int .i64 y.st,.int .i64 y.pad,.slice y.kA y.kn y.kc,.slice y.gA y.gn y.gc],.int .i64 n] w (TellsB w (zAc y n)):=by
 obtain⟨W,hW,x0,hB⟩:=zY w y;have HX0:=zh x0;clear x0;have Bz:=zr W;obtain⟨pa0,pa1,pa2,pa3,pa4,pa5,pa6,pa7,pa8,pa9,paa,pab,pac,-⟩:=(zx HX0 Bz).cz;go_enter Tryz.func68,Tryz.ntmps68
 go_wp2_with fail
 rw[←hW];clear hW;go_wp2_with fail
 with_reducible refine(plain_q zo true HP).mono ?_
 rintro e w1 ⟨rfl,q⟩;replace q:=zq (a:=W) q;replace Bz:=bT Bz q;clear q;clear pa0 pa1 pa2 pa3 pa4 pa5 pa6 pa7 pa8 pa9 paa pab pac;obtain⟨-,pa1,pa2,-,-,-,-,-,-,-,-,-,pac,-⟩:=(zx HX0 Bz).cz;go_wp2_with fail
 go_ret3
 have hF:=bT (c:=w1) hB Bz;exact⟨by rw[HA.out];rfl,bT hF⟩
theorem behind_34 {w:World} {y:Ly} {n:Int} (_h:LyOk w m y) (_hm:m≤20000) (hl:y.rn≤100000∧y.bn≤100000∧y.kn≤100000∧y.gn≤100000) (k1:(y.kind==1)=false) (k2:(y.kind==2)=false) (k3:(y.kind==3)=true) (HP:Hid (plainB y=true)) (r1:((y.rn:Int)==0)=true) (r2:((y.bn:Int)==0)=true) (r3:((y.gn:Int)==0)=true) (HA:Hid (zAc y n=some (n,0))) (_hT:Hid (Tab w)) :
  Calls Tryz.prog 68 #[.agg #[.int .u8 y.kind,.slice y.rA y.rn y.rc,.slice y.bA y.bn y.bc,.int .i64 y.ch,.int .i64 y.high,.int .i64 y.wide,.int .i64 y.out,.int .i64 y.kh,.int .i64 y.kw,.int .i64 y.st,.int .i64 y.pad,.slice y.kA y.kn y.kc,.slice y.gA y.gn y.gc],.int .i64 n] w (TellsB w (zAc y n)):=by
 obtain⟨W,hW,x0,hB⟩:=zY w y;have HX0:=zh x0;clear x0;have Bz:=zr W;obtain⟨pa0,pa1,pa2,pa3,pa4,pa5,pa6,pa7,pa8,pa9,paa,pab,pac,-⟩:=(zx HX0 Bz).cz;go_enter Tryz.func68,Tryz.ntmps68
 go_wp2_with fail
 rw[←hW];clear hW;go_wp2_with fail
 with_reducible refine(plain_q zo true HP).mono ?_
 rintro e w1 ⟨rfl,q⟩;replace q:=zq (a:=W) q;replace Bz:=bT Bz q;clear q;clear pa0 pa1 pa2 pa3 pa4 pa5 pa6 pa7 pa8 pa9 paa pab pac;obtain⟨-,pa1,pa2,-,-,-,-,-,-,-,-,-,pac,-⟩:=(zx HX0 Bz).cz;go_wp2_with fail
 go_ret3
 have hF:=bT (c:=w1) hB Bz;exact⟨by rw[HA.out];rfl,bT hF⟩
theorem behind_0 {w:World} {y:Ly} {n:Int} (_h:LyOk w m y) (_hm:m≤20000) (_hl:y.rn≤100000∧y.bn≤100000∧y.kn≤100000∧y.gn≤100000) (k1:(y.kind==1)=false) (k2:(y.kind==2)=false) (k3:(y.kind==3)=false) (k4:(y.kind==4)=false) (HA:Hid (zAc y n=none)) (_hT:Hid (Tab w)) :
  Calls Tryz.prog 68 #[.agg #[.int .u8 y.kind,.slice y.rA y.rn y.rc,.slice y.bA y.bn y.bc,.int .i64 y.ch,.int .i64 y.high,.int .i64 y.wide,.int .i64 y.out,.int .i64 y.kh,.int .i64 y.kw,.int .i64 y.st,.int .i64 y.pad,.slice y.kA y.kn y.kc,.slice y.gA y.gn y.gc],.int .i64 n] w (TellsB w (zAc y n)):=by
 obtain⟨W,hW,x0,hB⟩:=zY w y;have HX0:=zh x0;clear x0;have Bz:=zr W;have pa0:=(zx HX0 Bz).cell 0 (.int .u8 y.kind) rfl;go_enter Tryz.func68,Tryz.ntmps68
 go_wp2_with fail
 rw[←hW];clear hW;go_wp2_with fail
 go_ret3
 have hF:=bT (c:=W) hB Bz;exact⟨by rw[HA.out];rfl,bT hF⟩
theorem behind_q {w:World} {y:Ly} {n:Int} (h:LyOk w m y) (hm:m≤20000) (hT:Hid (Tab w)) :
  Calls Tryz.prog 68 #[.agg #[.int .u8 y.kind,.slice y.rA y.rn y.rc,.slice y.bA y.bn y.bc,.int .i64 y.ch,.int .i64 y.high,.int .i64 y.wide,.int .i64 y.out,.int .i64 y.kh,.int .i64 y.kw,.int .i64 y.st,.int .i64 y.pad,.slice y.kA y.kn y.kc,.slice y.gA y.gn y.gc],.int .i64 n] w (TellsB w (zAc y n)):=by
 have hl:=h.lens;have ne:∀{k:Int},y.kind≠k→(y.kind==k)=false:=fun h=>by simp[h]
 by_cases h1:y.kind=1
 ·have k1:(y.kind==1)=true:=by simp[h1]
  cases hf:zAg y n with
  | none=>exact behind_1n h hm hl k1 (zh hf) (zh (by unfold zAc;rw[bB h1,hf])) hT
  | some p=>exact behind_1s h hm hl k1 (zh hf) (zh (by unfold zAc;rw[bB h1,hf])) hT
 ·by_cases h2:y.kind=2
  ·have k2:(y.kind==2)=true:=by simp[h2]
   cases hf:convF y n with
   | none=>exact behind_2n h hm hl (ne h1) k2 (zh hf) (zh (by unfold zAc;rw[dA h1,bB h2,hf])) hT
   | some p=>exact behind_2s h hm hl (ne h1) k2 (zh hf) (zh (by unfold zAc;rw[dA h1,bB h2,hf])) hT
  ·by_cases h3:y.kind=3
   ·have k3:(y.kind==3)=true:=by simp[h3]
    have e:∀r,reluB y=r→zAc y n=if r then some (n,0) else none:=fun r hr=>by unfold zAc;rw[dA h1,dA h2,bB h3,hr]
    cases hp:plainB y
    ·exact behind_30 h hm hl (ne h1) (ne h2) k3 (zh hp) (zh (e false (by unfold reluB;rw[hp];rfl))) hT
    ·by_cases a1:y.rn=0
     ·by_cases a2:y.bn=0
      ·by_cases a3:y.gn=0
       ·exact behind_34 h hm hl (ne h1) (ne h2) k3 (zh hp) (by simp;omega) (by simp;omega) (by simp;omega) (zh (e true (by unfold reluB;rw[hp,jA a1,jA a2,jA a3];rfl))) hT
       ·exact behind_33 h hm hl (ne h1) (ne h2) k3 (zh hp) (by simp;omega) (by simp;omega) (by simp;omega) (zh (e false (by unfold reluB;rw[hp,jA a1,jA a2,yA a3];rfl))) hT
      ·exact behind_32 h hm hl (ne h1) (ne h2) k3 (zh hp) (by simp;omega) (by simp;omega) (zh (e false (by unfold reluB;rw[hp,jA a1,yA a2];rfl))) hT
     ·exact behind_31 h hm hl (ne h1) (ne h2) k3 (zh hp) (by simp;omega) (zh (e false (by unfold reluB;rw[hp,yA a1];rfl))) hT
   ·by_cases h4:y.kind=4
    ·have k4:(y.kind==4)=true:=by simp[h4]
     cases hf:poolF y n with
     | none=>exact behind_4n h hm hl (ne h1) (ne h2) (ne h3) k4 (zh hf) (zh (by unfold zAc;rw[dA h1,dA h2,dA h3,bB h4,hf])) hT
     | some p=>exact behind_4s h hm hl (ne h1) (ne h2) (ne h3) k4 (zh hf) (zh (by unfold zAc;rw[dA h1,dA h2,dA h3,bB h4,hf])) hT
    ·exact behind_0 h hm hl (ne h1) (ne h2) (ne h3) (ne h4) (zh (by unfold zAc;rw[dA h1,dA h2,dA h3,dA h4])) hT
theorem lens_all {L:List Vc} {K:Nat} (h:∀v∈L,v.n≤K):lens L≤L.length*K:=by have:=lens_le h L.length;rwa [List.take_length] at this
theorem glens_all {L:List Gp} {K:Nat} (h:∀v∈L,v.n≤K):glens L≤L.length*K:=by have:=glens_le h L.length;rwa [List.take_length] at this
theorem behind_bd {w:World} {y:Ly} {n:Int} (h:LyOk w m y) (h1:1≤n) (h2:n≤256) (hf:zAc y n=some (u,t)):1≤u∧u≤200000000∧0≤t∧t≤3000000000000000:=by
 have hl:=h.lens;unfold zAc at hf
 by_cases k1:y.kind=1
 ·rw[bB k1] at hf;unfold zAg at hf
  have hb:=lens_all (K:=1000000) fun v hv=>(h.rok v hv).2.2;have hr:=h.rows.1;have hk:y.rows.length*1000000≤100000*1000000:=fB _ zo;(repeat' split at hf)<;>simp at hf
  obtain⟨rfl,rfl⟩:=hf;omega
 ·rw[if_neg k1] at hf;by_cases k2:y.kind=2
  ·rw[if_pos k2] at hf;unfold convF at hf
   by_cases c0:((sides y).all fun z=>decide (1≤z)&&decide (z≤256))=false
   ·rw[bB c0] at hf;cases hf
   ·rw[if_neg c0] at hf;have q:=sides_ok (by simpa using c0);by_cases c1:y.pad<0
    ·rw[bB c1] at hf;cases hf
    ·rw[if_neg c1] at hf;by_cases c2:y.kh≤y.pad
     ·rw[bB c2] at hf;cases hf
     ·rw[if_neg c2] at hf;by_cases c5:cHigh y<0
      ·(repeat' split at hf)<;>simp at hf
      ·by_cases c6:cWide y<0
       ·(repeat' split at hf)<;>simp at hf
       ·have p3:=mulb (zi q.ch) q.ch.2 (zi q.kh) q.kh.2;have p4:=mulb p3.1 p3.2 (zi q.kw) q.kw.2;have q1:0≤cHigh y / y.st∧cHigh y / y.st≤766:=divb (zi q.st) zo (by have:=q.high;have:=q.kh;unfold cHigh;omega);by_cases c3:y.kw≤y.pad
        ·(repeat' split at hf)<;>simp at hf
        ·have q2:0≤cWide y / y.st∧cWide y / y.st≤766:=divb (zi q.st) zo (by have:=q.wide;have:=q.kw;unfold cWide;omega);have p6:=mulb (b:=cHigh y / y.st+1) (B:=767) (zi q.out) q.out.2 zo zo;have p7:=mulb (b:=cWide y / y.st+1) (B:=767) p6.1 p6.2 zo zo;have p8:=mulb p7.1 p7.2 p4.1 p4.2;have g1:1≤y.out*(cHigh y / y.st+1):=gG (zi q.out) zo;have g2:1≤y.out*(cHigh y / y.st+1)*(cWide y / y.st+1):=gG zo zo;have e:u=cUnits y∧t=cUnits y*cEach y:=by
          (repeat' split at hf)<;>simp at hf
          exact⟨hf.1.symm,hf.2.symm⟩
         obtain⟨rfl,rfl⟩:=e;unfold cUnits cEach
         omega
  ·rw[dA k2] at hf;by_cases k3:y.kind=3
   ·rw[bB k3] at hf;split at hf<;>simp at hf
    obtain⟨rfl,rfl⟩:=hf;omega
   ·rw[dA k3] at hf;by_cases k4:y.kind=4
    ·rw[bB k4] at hf;unfold poolF at hf
     have hb:=glens_all (K:=1000000) fun v hv=>(h.gok v hv).2;have hr:=h.groups.1;have hk:y.groups.length*1000000≤100000*1000000:=fB _ zo;(repeat' split at hf)<;>simp at hf
     obtain⟨rfl,rfl⟩:=hf;omega
    ·rw[dA k4] at hf;cases hf
def TellsZs (w:World) (f:Except Int (List Int)) (e:Ending) (w':World):Prop :=
 match f with
 | .error k=>e=.returned (.tuple #[.slice none 0 0,.int .i64 k])∧Below w.heap.size w w'
 | .ok l=>∃A n c,e=.returned (.tuple #[.slice A n c,.int .i64 0])∧Sl ics 1 w' A n c l∧n≤c∧Below w.heap.size w w'
def SZ (w:World) (L:List Ly) (inp:Int) (n gk:Nat) (s4 s5 s31:Value) (wr:World):Prop :=
 ∃(i:Nat) (pre:List Int) (cur s:Int) (H:Option Addr) (cap:Nat),i≤n∧n-i=gk∧s31=.int .i64 (i:Int)∧pre.length=i∧s4=.slice H (i+1) cap∧OwnR wr w.heap.size 3 1 (.slice H (i+1) cap) (i+1) (flat ics (pre++[cur]))∧s5=.int .i64 s∧0≤s∧s≤16384∧1≤cur∧cur≤256∧
  stepsF L inp 0=(stepsF (L.drop i) cur s).map (pre++·)∧Below w.heap.size w wr
theorem steps_cons {y:Ly} {L:List Ly} {n s:Int}:stepsF (y :: L) n s=match zAc y n with | none=>.error 22 | some (u,t)=>if 256<u then .error 25 else if 16384<s+t then .error 25 else(stepsF L u (s+t)).map (n :: ·):=rfl
theorem steps_at {L:List Ly} {i:Nat} {y:Ly} {cur s:Int} (h:L[i]?=some y):stepsF (L.drop i) cur s=match zAc y cur with | none=>.error 22 | some (u,t)=>if 256<u then .error 25 else if 16384<s+t then .error 25 else(stepsF (L.drop (i+1)) u (s+t)).map (cur :: ·):=by
 have hi:i<L.length:=(dC.1 h).1;have e:L.drop i=y :: L.drop (i+1):=by rw[fD hi];congr 1;exact(dC.1 h).2
 rw[e,steps_cons]
theorem map_map_cons {f:Except Int (List Int)} {pre:List Int} {cur:Int}:(f.map (cur :: ·)).map (pre++·)=f.map ((pre++[cur])++·):=by
 cases f with
 | error e=>rfl
 | ok l=>simp[Except.map]
theorem flat_ics_last (pre:List Int) (cur:Int):(flat ics (pre++[cur]))[pre.length]?=some (.int .i64 cur):=by
 have:=flat_get ics_len (pre++[cur]) pre.length cur (by simp) 0 zo;simpa [ics] using this
theorem sizes_0 {w:World} {L:List Ly} (g1:inp<1) (HA:Hid (sizesF inp L=.error 25)) :
  Calls Tryz.prog 34 #[.agg #[.int .i64 inp,.slice lA ln lc]] w (TellsZs w (sizesF inp L)):=by
 obtain⟨W,hW,x0,hB⟩:=zAb w #[.int .i64 inp,.slice lA ln lc] 24;have HX0:=zh x0;clear x0;have Bz:=zr W;have pa0:=(zx HX0 Bz).cell 0 (.int .i64 inp) rfl;go_enter Tryz.func34,Tryz.ntmps34
 go_wp2_with fail
 rw[←hW];clear hW;go_wp2_with fail
 go_ret2
 have hF:=bT (c:=W) hB Bz;rw[HA.out];exact⟨rfl,bT hF⟩
theorem sizes_1 {w:World} {L:List Ly} (g1:¬inp<1) (g2:64<inp) (HA:Hid (sizesF inp L=.error 25)) :
  Calls Tryz.prog 34 #[.agg #[.int .i64 inp,.slice lA ln lc]] w (TellsZs w (sizesF inp L)):=by
 obtain⟨W,hW,x0,hB⟩:=zAb w #[.int .i64 inp,.slice lA ln lc] 24;have HX0:=zh x0;clear x0;have Bz:=zr W;have pa0:=(zx HX0 Bz).cell 0 (.int .i64 inp) rfl;go_enter Tryz.func34,Tryz.ntmps34
 go_wp2_with fail
 rw[←hW];clear hW;go_wp2_with fail
 go_ret2
 have hF:=bT (c:=W) hB Bz;rw[HA.out];exact⟨rfl,bT hF⟩
theorem sizes_2 {w:World} {L:List Ly} (g1:¬inp<1) (g2:¬64<inp) (g3:16<ln) (HA:Hid (sizesF inp L=.error 25)) :
  Calls Tryz.prog 34 #[.agg #[.int .i64 inp,.slice lA ln lc]] w (TellsZs w (sizesF inp L)):=by
 obtain⟨W,hW,x0,hB⟩:=zAb w #[.int .i64 inp,.slice lA ln lc] 24;have HX0:=zh x0;clear x0;have Bz:=zr W;obtain⟨pa0,pa1,-⟩:=(zx HX0 Bz).cz;go_enter Tryz.func34,Tryz.ntmps34
 go_wp2_with fail
 rw[←hW];clear hW;go_wp2_with fail
 go_ret2
 have hF:=bT (c:=W) hB Bz;rw[HA.out];exact⟨rfl,bT hF⟩
theorem sizes_ok {w:World} {L:List Ly} (h:Sl Ly.cs 13 w lA ln lc L) (hok:Hid (∀y∈L,LyOk w m y)) (hm:m≤20000) (hln:ln≤9223372036854775807) (g1:¬inp<1) (g2:¬64<inp) (g3:¬16<ln) (hT:Hid (Tab w)) :
  Calls Tryz.prog 34 #[.agg #[.int .i64 inp,.slice lA ln lc]] w (TellsZs w (sizesF inp L)):=by
 have HSZE:Hid (sizesF inp L=stepsF L inp 0):=zh (by unfold sizesF;rw[dA g1,dA g2,dA (zi h.1)]);have H0:=zh h;have HLN:=zh h.1;clear h;obtain⟨W,hW,x0,hB⟩:=zAb w #[.int .i64 inp,.slice lA ln lc] 24;have HX0:=zh x0;clear x0;have Bz:=zr W;obtain⟨pa0,pa1,-⟩:=(zx HX0 Bz).cz;go_enter Tryz.func34,Tryz.ntmps34
 go_upto_region 1 with(fail)
 rw[←hW];clear hW;go_upto_region 4 with(fail)
 obtain⟨V1,hW,x1,hN⟩:=zAb W #[.int .i64 inp] 3;rw[←hW];clear hW;obtain⟨v1,hb1⟩:=ze W.heap.size;rw[←hb1] at x1 ⊢;have o0_1:w.heap.size<v1:=zi (zx HX0 Bz).lt;have ow_1:w.heap.size≤v1:=zi (zw hB Bz);replace hB:=bT (bT hB Bz) hN;replace HX0:=zba HX0 Bz hN;have HX1:=zh x1;clear x1 hN Bz hb1;have Bz:=zr V1;clear pa0 pa1;have pa1:=(zx HX0 Bz).cell 1 (.slice lA ln lc) rfl;go_wp2_with fail
 have HB0:=zh (bT hB Bz);have HO0:Hid (OwnR V1 w.heap.size 3 1 (.slice (some ⟨v1,0,none⟩) 1 1) 1 (flat ics [inp])):=zh (OwnR.lit1 elt_int (zx HX1 Bz) zo inp rfl);clear hB Bz HX0 HX1;go_loopg [4,5,31] ln (fun gk s4 s5 s31 wr=>SZ w L inp ln gk s4 s5 s31 wr)
 case atStart=>exact⟨0,[],inp,0,_,_,uA _,rfl,rfl,rfl,rfl,HO0.out,rfl,zo,zo,zo,zo,by rw[List.drop_zero];cases stepsF L inp 0<;>rfl,HB0.out⟩
 case round =>
  clear HB0 HO0;obtain⟨i,pre,cur,s,H,cap,hi,hgk,rfl,hpl,rfl,how,rfl,hs0,hs1,hc0,hc1,hst,hB⟩:=hrel;have HGK:=zh hgk;have HST:=zh hst;have HPL:=zh hpl;clear hgk hst hpl;obtain⟨g,rfl⟩:∃g,H=some ⟨g,0,none⟩:=by
   obtain⟨H',c',e,h1,h2,_⟩:=how.slice;cases e;cases H with
   | none=>have:=(h1 rfl).1;omega
   | some a=>obtain⟨g,rfl⟩:=h2 a rfl;exact⟨g,rfl⟩
  have hcap:i+1≤cap:=by obtain⟨H',c',e,_,_,h3,_⟩:=how.slice;cases e;exact h3
  by_cases hlt:i<ln
  ·obtain⟨b,off,rfl,hel⟩:=H0.out.at Ly.cs_len zo zo;obtain⟨y,hy⟩:∃y,L[i]?=some y:=⟨L[i]'(by rw[HLN.out];exact hlt),cA _⟩;have hnd:=hel i y hy;have HTI:=zh hy;have HY:=zh (hok.out y (eA hy));have i1:(i:Int)<(ln:Int):=zo;have i2:(0:Int)≤(i:Int):=zo;have i3:(i:Int)<((i+1:Nat):Int):=zo;have i4:(i:Int)<(i:Int)+1:=zo;have hoel:ElA wr g i (ics cur):=fun j v hv=>by
    obtain rfl:j=0:=by
     rcases qC j with h | h
     ·exact h
     ·rw[cB (by rw[ics_len];omega)] at hv;cases hv
    rw[bD];refine how.cell (j:=i) (u:=v) ?_;rw[show i=pre.length from HPL.out.symm,flat_ics_last];simpa [ics] using hv
   clear hy hel;cases hf:zAc y cur with
   | none =>
    have HF:=zh hf;clear hf how;have HSZ:Hid (sizesF inp L=.error 22):=zh (by rw[HSZE.out,HST.out,steps_at HTI.out,HF.out];rfl);have Bz:=zr wr;obtain⟨pA0,pA1,pA2,pA3,pA4,pA5,pA6,pA7,pA8,pA9,pAa,pAb,pAc,-⟩:=(hnd.below (bT hB Bz)).ez;go_upto_region 8 with(fail)
    obtain⟨V1,hW,x0,hN⟩:=zY wr y;rw[←hW];clear hW;obtain⟨v0,hb0⟩:=ze wr.heap.size;rw[←hb0] at x0 ⊢;have ow_0:w.heap.size≤v0:=zi (zw hB Bz);replace hoel:=hoel.below hN;replace hB:=bT (bT hB Bz) hN;have HX0:=zh x0;clear x0 hN Bz hb0;have Bz:=zr V1;clear pA0 pA1 pA2 pA3 pA4 pA5 pA6 pA7 pA8 pA9 pAa pAb pAc;obtain⟨pa0,pa1,pa2,pa3,pa4,pa5,pa6,pa7,pa8,pa9,paa,pab,pac,-⟩:=(zx HX0 Bz).cz;have pB0:=hoel.c0 (u:=.int .i64 cur) rfl;go_wp2_with fail
    (try simp only[vAa,vBa,vC])
    refine zl (zz [0,1,2,3,4] (.only 5 (zz [6,7,8,9,10,11,12] .done))) [] (zsa pa0 (zsa pa1 (zsa pa2 (zsa pa3 (zsa pa4 (zsa pa5 (zsa pa6 (zsa pa7 (zsa pa8 (zsa pa9 (zsa paa (zsa pab (zsa pac (zIa pB0)))))))))))))) ?_;iterate 5 (refine zUa ?_;try simp only[Act.put,uX,uY,uZ])
    refine zC 42 rfl rfl (fun K hK=>?_);go_simp
    with_reducible refine((behind_q (HY.out.below (bT hB (bT (b:=V1) Bz))) hm (zt hT hB Bz)).mono fun _ _ hx=>TellsB.no hx HF.out).mono ?_
    rintro e w1 ⟨rfl,q⟩;replace q:=zq (a:=V1) q;replace hoel:=hoel.below q;replace Bz:=bT Bz q;clear q;clear pa0 pa1 pa2 pa3 pa4 pa5 pa6 pa7 pa8 pa9 paa pab pac pB0;obtain⟨pa0,pa1,pa2,pa3,pa4,pa5,pa6,pa7,pa8,pa9,paa,pab,pac,-⟩:=(zx HX0 Bz).cz;have pB0:=hoel.c0 (u:=.int .i64 cur) rfl;refine hK.out _ _ ⟨pa0,pa1,pa2,pa3,pa4,pa5,pa6,pa7,pa8,pa9,paa,pab,pac,pB0⟩ (fun _=>?_);try simp only[Act.put,uX,uY,uZ]
    clear hK K;iterate 7 (refine zUa ?_;try simp only[Act.put,uX,uY,uZ])
    refine wpPlan_done ?_;go_wp2_with fail
    go_ret2
    have hF:=bT (c:=w1) hB Bz;rw[HSZ.out];exact⟨rfl,bT hF⟩
   | some p =>
    obtain⟨u,t⟩:=p;have HF:=zh hf;have hbd:=behind_bd HY.out hc0 hc1 hf;obtain⟨d1,d2,d3,d4⟩:=hbd;clear hf;by_cases hu:256<u
    ·have HSZ:Hid (sizesF inp L=.error 25):=zh (by rw[HSZE.out,HST.out,steps_at HTI.out,HF.out];simp only;rw[bB hu];rfl);clear how;have Bz:=zr wr;obtain⟨pA0,pA1,pA2,pA3,pA4,pA5,pA6,pA7,pA8,pA9,pAa,pAb,pAc,-⟩:=(hnd.below (bT hB Bz)).ez;go_upto_region 8 with(fail)
     obtain⟨V1,hW,x0,hN⟩:=zY wr y;rw[←hW];clear hW;obtain⟨v0,hb0⟩:=ze wr.heap.size;rw[←hb0] at x0 ⊢;have ow_0:w.heap.size≤v0:=zi (zw hB Bz);replace hoel:=hoel.below hN;replace hB:=bT (bT hB Bz) hN;have HX0:=zh x0;clear x0 hN Bz hb0;have Bz:=zr V1;clear pA0 pA1 pA2 pA3 pA4 pA5 pA6 pA7 pA8 pA9 pAa pAb pAc;obtain⟨pa0,pa1,pa2,pa3,pa4,pa5,pa6,pa7,pa8,pa9,paa,pab,pac,-⟩:=(zx HX0 Bz).cz;have pB0:=hoel.c0 (u:=.int .i64 cur) rfl;go_wp2_with fail
     (try simp only[vAa,vBa,vC])
     refine zl (zz [0,1,2,3,4] (.only 5 (zz [6,7,8,9,10,11,12] .done))) [] (zsa pa0 (zsa pa1 (zsa pa2 (zsa pa3 (zsa pa4 (zsa pa5 (zsa pa6 (zsa pa7 (zsa pa8 (zsa pa9 (zsa paa (zsa pab (zsa pac (zIa pB0)))))))))))))) ?_;iterate 5 (refine zUa ?_;try simp only[Act.put,uX,uY,uZ])
     refine zC 42 rfl rfl (fun K hK=>?_);go_simp
     with_reducible refine((behind_q (HY.out.below (bT hB (bT (b:=V1) Bz))) hm (zt hT hB Bz)).mono fun _ _ hx=>TellsB.yes hx HF.out).mono ?_
     rintro e w1 ⟨rfl,q⟩;replace q:=zq (a:=V1) q;replace hoel:=hoel.below q;replace Bz:=bT Bz q;clear q;clear pa0 pa1 pa2 pa3 pa4 pa5 pa6 pa7 pa8 pa9 paa pab pac pB0;obtain⟨pa0,pa1,pa2,pa3,pa4,pa5,pa6,pa7,pa8,pa9,paa,pab,pac,-⟩:=(zx HX0 Bz).cz;have pB0:=hoel.c0 (u:=.int .i64 cur) rfl;refine hK.out _ _ ⟨pa0,pa1,pa2,pa3,pa4,pa5,pa6,pa7,pa8,pa9,paa,pab,pac,pB0⟩ (fun _=>?_);try simp only[Act.put,uX,uY,uZ]
     clear hK K;iterate 7 (refine zUa ?_;try simp only[Act.put,uX,uY,uZ])
     refine wpPlan_done ?_;go_wp2_with fail
     go_ret2
     have hF:=bT (c:=w1) hB Bz;rw[HSZ.out];exact⟨rfl,bT hF⟩
    ·by_cases ht:16384<s+t
     ·have HSZ:Hid (sizesF inp L=.error 25):=zh (by rw[HSZE.out,HST.out,steps_at HTI.out,HF.out];simp only;rw[dA hu,bB ht];rfl);clear how;have Bz:=zr wr;obtain⟨pA0,pA1,pA2,pA3,pA4,pA5,pA6,pA7,pA8,pA9,pAa,pAb,pAc,-⟩:=(hnd.below (bT hB Bz)).ez;go_upto_region 8 with(fail)
      obtain⟨V1,hW,x0,hN⟩:=zY wr y;rw[←hW];clear hW;obtain⟨v0,hb0⟩:=ze wr.heap.size;rw[←hb0] at x0 ⊢;have ow_0:w.heap.size≤v0:=zi (zw hB Bz);replace hoel:=hoel.below hN;replace hB:=bT (bT hB Bz) hN;have HX0:=zh x0;clear x0 hN Bz hb0;have Bz:=zr V1;clear pA0 pA1 pA2 pA3 pA4 pA5 pA6 pA7 pA8 pA9 pAa pAb pAc;obtain⟨pa0,pa1,pa2,pa3,pa4,pa5,pa6,pa7,pa8,pa9,paa,pab,pac,-⟩:=(zx HX0 Bz).cz;have pB0:=hoel.c0 (u:=.int .i64 cur) rfl;go_wp2_with fail
      (try simp only[vAa,vBa,vC])
      refine zl (zz [0,1,2,3,4] (.only 5 (zz [6,7,8,9,10,11,12] .done))) [] (zsa pa0 (zsa pa1 (zsa pa2 (zsa pa3 (zsa pa4 (zsa pa5 (zsa pa6 (zsa pa7 (zsa pa8 (zsa pa9 (zsa paa (zsa pab (zsa pac (zIa pB0)))))))))))))) ?_;iterate 5 (refine zUa ?_;try simp only[Act.put,uX,uY,uZ])
      refine zC 42 rfl rfl (fun K hK=>?_);go_simp
      with_reducible refine((behind_q (HY.out.below (bT hB (bT (b:=V1) Bz))) hm (zt hT hB Bz)).mono fun _ _ hx=>TellsB.yes hx HF.out).mono ?_
      rintro e w1 ⟨rfl,q⟩;replace q:=zq (a:=V1) q;replace hoel:=hoel.below q;replace Bz:=bT Bz q;clear q;clear pa0 pa1 pa2 pa3 pa4 pa5 pa6 pa7 pa8 pa9 paa pab pac pB0;obtain⟨pa0,pa1,pa2,pa3,pa4,pa5,pa6,pa7,pa8,pa9,paa,pab,pac,-⟩:=(zx HX0 Bz).cz;have pB0:=hoel.c0 (u:=.int .i64 cur) rfl;refine hK.out _ _ ⟨pa0,pa1,pa2,pa3,pa4,pa5,pa6,pa7,pa8,pa9,paa,pab,pac,pB0⟩ (fun _=>?_);try simp only[Act.put,uX,uY,uZ]
      clear hK K;iterate 7 (refine zUa ?_;try simp only[Act.put,uX,uY,uZ])
      refine wpPlan_done ?_;go_wp2_with fail
      go_ret2
      have hF:=bT (c:=w1) hB Bz;rw[HSZ.out];exact⟨rfl,bT hF⟩
     ·have HNX:Hid (stepsF (L.drop i) cur s=(stepsF (L.drop (i+1)) u (s+t)).map (cur :: ·)):=zh (by rw[steps_at HTI.out,HF.out];simp only;rw[dA hu,dA ht]);have Bz:=zr wr;obtain⟨pA0,pA1,pA2,pA3,pA4,pA5,pA6,pA7,pA8,pA9,pAa,pAb,pAc,-⟩:=(hnd.below (bT hB Bz)).ez;go_upto_region 8 with(fail)
      obtain⟨V1,hW,x0,hN⟩:=zY wr y;rw[←hW];clear hW;obtain⟨v0,hb0⟩:=ze wr.heap.size;rw[←hb0] at x0 ⊢;have ow_0:w.heap.size≤v0:=zi (zw hB Bz);replace hoel:=hoel.below hN;replace how:=how.below hN;replace hB:=bT (bT hB Bz) hN;have HX0:=zh x0;clear x0 hN Bz hb0;have Bz:=zr V1;clear pA0 pA1 pA2 pA3 pA4 pA5 pA6 pA7 pA8 pA9 pAa pAb pAc;obtain⟨pa0,pa1,pa2,pa3,pa4,pa5,pa6,pa7,pa8,pa9,paa,pab,pac,-⟩:=(zx HX0 Bz).cz;have pB0:=hoel.c0 (u:=.int .i64 cur) rfl;go_wp2_with fail
      (try simp only[vAa,vBa,vC])
      refine zl (zz [0,1,2,3,4] (.only 5 (zz [6,7,8,9,10,11,12] .done))) [] (zsa pa0 (zsa pa1 (zsa pa2 (zsa pa3 (zsa pa4 (zsa pa5 (zsa pa6 (zsa pa7 (zsa pa8 (zsa pa9 (zsa paa (zsa pab (zsa pac (zIa pB0)))))))))))))) ?_;iterate 5 (refine zUa ?_;try simp only[Act.put,uX,uY,uZ])
      refine zC 42 rfl rfl (fun K hK=>?_);go_simp
      with_reducible refine((behind_q (HY.out.below (bT hB (bT (b:=V1) Bz))) hm (zt hT hB Bz)).mono fun _ _ hx=>TellsB.yes hx HF.out).mono ?_
      rintro e w1 ⟨rfl,q⟩;replace q:=zq (a:=V1) q;replace hoel:=hoel.below q;replace how:=how.below q;replace Bz:=bT Bz q;clear q;clear pa0 pa1 pa2 pa3 pa4 pa5 pa6 pa7 pa8 pa9 paa pab pac pB0;obtain⟨pa0,pa1,pa2,pa3,pa4,pa5,pa6,pa7,pa8,pa9,paa,pab,pac,-⟩:=(zx HX0 Bz).cz;have pB0:=hoel.c0 (u:=.int .i64 cur) rfl;refine hK.out _ _ ⟨pa0,pa1,pa2,pa3,pa4,pa5,pa6,pa7,pa8,pa9,paa,pab,pac,pB0⟩ (fun _=>?_);try simp only[Act.put,uX,uY,uZ]
      clear hK K;iterate 7 (refine zUa ?_;try simp only[Act.put,uX,uY,uZ])
      refine wpPlan_done ?_;go_wp2_with (at_builtin;refine And.left (b:=True) ?_)
      refine⟨?_,trivial⟩;obtain⟨V2,hW,x1,hN⟩:=zAb w1 #[.int .i64 u] 3;rw[←hW];clear hW;obtain⟨v1,hb1⟩:=ze w1.heap.size;rw[←hb1] at x1 ⊢;have o0_1:v0<v1:=zi (zx HX0 Bz).lt;have ow_1:w.heap.size≤v1:=zi (zw hB Bz);replace how:=how.below hN;replace hB:=bT (bT hB Bz) hN;replace HX0:=zba HX0 Bz hN;have HX1:=zh x1;clear x1 hN Bz hb1;have Bz:=zr V2;clear pa0 pa1 pa2 pa3 pa4 pa5 pa6 pa7 pa8 pa9 paa pab pac pB0;refine Elt.app elt_int rfl _ _ rfl (w.heap.size) (.slice (some ⟨g,0,none⟩) (i+1) cap) (i+1) (pre++[cur]) rfl how (.slice (some ⟨v1,0,none⟩) 1 1) (1) ([u]) rfl (From.one (zx HX1 Bz) (u) rfl (elt_int.len _)) zo (zi (zw hB Bz)) ?_;intro H2 c2 w2 ho2 hg2;replace hB:=(bT hB Bz).trans (hg2.below (zi (zw hB Bz)) (fun g hg=>by have:=how.base g hg;omega));clear HX0;clear HX1;clear hg2 Bz;have Bz:=zr w2;go_wp2_with fail
      go_roundg (ln-(i+1))
      case measure=>have:=HGK.out;omega
      case rel=>exact⟨i+1,pre++[cur],u,s+t,_,_,zo,rfl,by go_num,by have:=HPL.out;simp;omega,rfl,ho2,rfl,zo,zo,zo,zo,by rw[HST.out,HNX.out,map_map_cons],bT hB Bz⟩
  ·obtain rfl:i=ln:=zo;have i1:¬(i:Int)<(i:Int):=zo;have HSZ:Hid (sizesF inp L=.ok (pre++[cur])):=zh (by rw[HSZE.out,HST.out,List.drop_of_length_le (by rw[HLN.out];exact aA _)];rfl);have HO:=zh how;clear how;go_wp2_with fail
   go_ret2
   rw[HSZ.out];exact⟨_,_,_,rfl,HO.out.sl' elt_int (by have:=HPL.out;simp;omega),hcap,hB⟩
theorem sizes_q {w:World} {L:List Ly} (h:Sl Ly.cs 13 w lA ln lc L) (hok:Hid (∀y∈L,LyOk w m y)) (hm:m≤20000) (hln:ln≤9223372036854775807) (hT:Hid (Tab w)) :
  Calls Tryz.prog 34 #[.agg #[.int .i64 inp,.slice lA ln lc]] w (TellsZs w (sizesF inp L)):=by
 have hl:=h.1;by_cases g1:inp<1
 ·exact sizes_0 g1 (zh (by unfold sizesF;rw[bB g1]))
 ·by_cases g2:64<inp
  ·exact sizes_1 g1 g2 (zh (by unfold sizesF;rw[dA g1,bB g2]))
  ·by_cases g3:16<ln
   ·exact sizes_2 g1 g2 g3 (zh (by unfold sizesF;rw[dA g1,dA g2,bB (show 16<L.length by omega)]))
   ·exact sizes_ok h hok hm hln g1 g2 g3 hT
end Go.Proofs.YtiondclbdgijbaaGreatDoor
