import Derived.Test.YtiondclbdgijbaaGreatDoorYRow
set_option maxHeartbeats 4000000
set_option maxRecDepth 100000
namespace Go.Proofs.YtiondclbdgijbaaGreatDoor
open Go.RowKit Tw
variable {m:Nat}
def sides (y:Ly):List Int:=[y.ch,y.high,y.wide,y.out,y.kh,y.kw,y.st]
def cHigh (y:Ly):Int:=y.high+2*y.pad-y.kh
def cWide (y:Ly):Int:=y.wide+2*y.pad-y.kw
def cEach (y:Ly):Int:=y.ch*y.kh*y.kw
def cUnits (y:Ly):Int:=y.out*(cHigh y / y.st+1)*(cWide y / y.st+1)
def convF (y:Ly) (n:Int):Option (Int×Int) :=
 if((sides y).all fun z=>decide (1≤z)&&decide (z≤256))=false then none
 else if y.pad<0 then none else if y.kh≤y.pad then none else if y.kw≤y.pad then none else if y.ch*y.high*y.wide≠n then none
 else if cHigh y<0 then none else if cWide y<0 then none else if(y.kn:Int)≠y.out*cEach y then none else if(y.bn:Int)≠y.out then none
 else if 0<y.rn then none else if 0<y.gn then none else if(y.kern.all fun x=>x.ex)=false then none else if(y.bias.all fun x=>x.ex)=false then none
 else some (cUnits y,cUnits y*cEach y)
theorem mulb {a b A B:Int} (h0:0≤a) (h1:a≤A) (k0:0≤b) (k1:b≤B):0≤a*b∧a*b≤A*B :=
 ⟨sF h0 k0,Int.mul_le_mul h1 k1 k0 zo⟩
structure ConvOk (y:Ly):Prop where
 ch:1≤y.ch∧y.ch≤256
 high:1≤y.high∧y.high≤256
 wide:1≤y.wide∧y.wide≤256
 out:1≤y.out∧y.out≤256
 kh:1≤y.kh∧y.kh≤256
 kw:1≤y.kw∧y.kw≤256
 st:1≤y.st∧y.st≤256
theorem sides_ok {y:Ly} (h:((sides y).all fun z=>decide (1≤z)&&decide (z≤256))=true):ConvOk y:=by
 simp only[sides,List.all_cons,List.all_nil,Bool.and_true,dB,wB] at h
 obtain⟨h1,h2,h3,h4,h5,h6,h7⟩:=h;exact⟨h1,h2,h3,h4,h5,h6,h7⟩
theorem conv_0 {w:World} {y:Ly} {n:Int} (_h:LyOk w m y) (_hm:m≤20000) (_hl:y.rn≤100000∧y.bn≤100000∧y.kn≤100000∧y.gn≤100000) (HS:Hid (((sides y).all fun z=>decide (1≤z)&&decide (z≤256))=false))   (HA:Hid (convF y n=none)) (_hT:Hid (Tab w)) :
  Calls Tryz.prog 101 #[.agg #[.int .u8 y.kind,.slice y.rA y.rn y.rc,.slice y.bA y.bn y.bc,.int .i64 y.ch,.int .i64 y.high,.int .i64 y.wide,.int .i64 y.out,.int .i64 y.kh,.int .i64 y.kw,.int .i64 y.st,.int .i64 y.pad,.slice y.kA y.kn y.kc,.slice y.gA y.gn y.gc],.int .i64 n] w (TellsB w (convF y n)):=by
 obtain⟨W,hW,x0,hB⟩:=zY w y;have HX0:=zh x0;clear x0;have Bz:=zr W;obtain⟨-,-,-,pa3,pa4,pa5,pa6,pa7,pa8,pa9,-⟩:=(zx HX0 Bz).cz;go_enter Tryz.func101,Tryz.ntmps101
 go_upto_region 1 with(fail)
 rw[←hW];clear hW;go_upto_region 2 with(fail)
 obtain⟨V1,hW,x1,hN⟩:=zAb W #[.int .i64 y.ch,.int .i64 y.high,.int .i64 y.wide,.int .i64 y.out,.int .i64 y.kh,.int .i64 y.kw,.int .i64 y.st] 3;rw[←hW];clear hW;obtain⟨v1,hb1⟩:=ze W.heap.size;rw[←hb1] at x1 ⊢;have ow_1:w.heap.size≤v1:=zi (zw hB Bz);replace hB:=bT (bT hB Bz) hN;replace HX0:=zba HX0 Bz hN;have HX1:=zh x1;clear x1 hN Bz hb1;have Bz:=zr V1;clear pa3 pa4 pa5 pa6 pa7 pa8 pa9;go_wp2_with fail
 with_reducible refine(all_conv (ints_sl (sides y) (HX1.out.below (bT Bz)) 7 rfl) zo false HS).mono ?_
 rintro e w1 ⟨rfl,q⟩;replace q:=zq (a:=V1) q;replace Bz:=bT Bz q;clear q;go_wp2_with fail
 go_ret3
 have hF:=bT (c:=w1) hB Bz;exact⟨by rw[HA.out];rfl,bT hF⟩
theorem conv_1 {w:World} {y:Ly} {n:Int} (_h:LyOk w m y) (_hm:m≤20000) (_hl:y.rn≤100000∧y.bn≤100000∧y.kn≤100000∧y.gn≤100000) (HS:Hid (((sides y).all fun z=>decide (1≤z)&&decide (z≤256))=true)) (g1:y.pad<0) (_r1:1≤y.ch∧y.ch≤256) (_r2:1≤y.high∧y.high≤256) (_r3:1≤y.wide∧y.wide≤256) (_r4:1≤y.out∧y.out≤256) (_r5:1≤y.kh∧y.kh≤256) (_r6:1≤y.kw∧y.kw≤256) (_r7:1≤y.st∧y.st≤256)  (HA:Hid (convF y n=none)) (_hT:Hid (Tab w)) :
  Calls Tryz.prog 101 #[.agg #[.int .u8 y.kind,.slice y.rA y.rn y.rc,.slice y.bA y.bn y.bc,.int .i64 y.ch,.int .i64 y.high,.int .i64 y.wide,.int .i64 y.out,.int .i64 y.kh,.int .i64 y.kw,.int .i64 y.st,.int .i64 y.pad,.slice y.kA y.kn y.kc,.slice y.gA y.gn y.gc],.int .i64 n] w (TellsB w (convF y n)):=by
 obtain⟨W,hW,x0,hB⟩:=zY w y;have HX0:=zh x0;clear x0;have Bz:=zr W;obtain⟨-,-,-,pa3,pa4,pa5,pa6,pa7,pa8,pa9,-⟩:=(zx HX0 Bz).cz;go_enter Tryz.func101,Tryz.ntmps101
 go_upto_region 1 with(fail)
 rw[←hW];clear hW;go_upto_region 2 with(fail)
 obtain⟨V1,hW,x1,hN⟩:=zAb W #[.int .i64 y.ch,.int .i64 y.high,.int .i64 y.wide,.int .i64 y.out,.int .i64 y.kh,.int .i64 y.kw,.int .i64 y.st] 3;rw[←hW];clear hW;obtain⟨v1,hb1⟩:=ze W.heap.size;rw[←hb1] at x1 ⊢;have ow_1:w.heap.size≤v1:=zi (zw hB Bz);replace hB:=bT (bT hB Bz) hN;replace HX0:=zba HX0 Bz hN;have HX1:=zh x1;clear x1 hN Bz hb1;have Bz:=zr V1;clear pa3 pa4 pa5 pa6 pa7 pa8 pa9;go_wp2_with fail
 with_reducible refine(all_conv (ints_sl (sides y) (HX1.out.below (bT Bz)) 7 rfl) zo true HS).mono ?_
 rintro e w1 ⟨rfl,q⟩;replace q:=zq (a:=V1) q;replace Bz:=bT Bz q;clear q;have paa:=(zx HX0 Bz).cell 10 (.int .i64 y.pad) rfl;go_wp2_with fail
 go_ret3
 have hF:=bT (c:=w1) hB Bz;exact⟨by rw[HA.out];rfl,bT hF⟩
theorem conv_2 {w:World} {y:Ly} {n:Int} (_h:LyOk w m y) (_hm:m≤20000) (_hl:y.rn≤100000∧y.bn≤100000∧y.kn≤100000∧y.gn≤100000) (HS:Hid (((sides y).all fun z=>decide (1≤z)&&decide (z≤256))=true)) (g1:¬y.pad<0) (g2:y.kh≤y.pad) (_r1:1≤y.ch∧y.ch≤256) (_r2:1≤y.high∧y.high≤256) (_r3:1≤y.wide∧y.wide≤256) (_r4:1≤y.out∧y.out≤256) (_r5:1≤y.kh∧y.kh≤256) (_r6:1≤y.kw∧y.kw≤256) (_r7:1≤y.st∧y.st≤256)  (HA:Hid (convF y n=none)) (_hT:Hid (Tab w)) :
  Calls Tryz.prog 101 #[.agg #[.int .u8 y.kind,.slice y.rA y.rn y.rc,.slice y.bA y.bn y.bc,.int .i64 y.ch,.int .i64 y.high,.int .i64 y.wide,.int .i64 y.out,.int .i64 y.kh,.int .i64 y.kw,.int .i64 y.st,.int .i64 y.pad,.slice y.kA y.kn y.kc,.slice y.gA y.gn y.gc],.int .i64 n] w (TellsB w (convF y n)):=by
 obtain⟨W,hW,x0,hB⟩:=zY w y;have HX0:=zh x0;clear x0;have Bz:=zr W;obtain⟨-,-,-,pa3,pa4,pa5,pa6,pa7,pa8,pa9,-⟩:=(zx HX0 Bz).cz;go_enter Tryz.func101,Tryz.ntmps101
 go_upto_region 1 with(fail)
 rw[←hW];clear hW;go_upto_region 2 with(fail)
 obtain⟨V1,hW,x1,hN⟩:=zAb W #[.int .i64 y.ch,.int .i64 y.high,.int .i64 y.wide,.int .i64 y.out,.int .i64 y.kh,.int .i64 y.kw,.int .i64 y.st] 3;rw[←hW];clear hW;obtain⟨v1,hb1⟩:=ze W.heap.size;rw[←hb1] at x1 ⊢;have ow_1:w.heap.size≤v1:=zi (zw hB Bz);replace hB:=bT (bT hB Bz) hN;replace HX0:=zba HX0 Bz hN;have HX1:=zh x1;clear x1 hN Bz hb1;have Bz:=zr V1;clear pa3 pa4 pa5 pa6 pa7 pa8 pa9;go_wp2_with fail
 with_reducible refine(all_conv (ints_sl (sides y) (HX1.out.below (bT Bz)) 7 rfl) zo true HS).mono ?_
 rintro e w1 ⟨rfl,q⟩;replace q:=zq (a:=V1) q;replace Bz:=bT Bz q;clear q;obtain⟨-,-,-,-,-,-,-,pa7,-,-,paa,-⟩:=(zx HX0 Bz).cz;go_wp2_with fail
 go_ret3
 have hF:=bT (c:=w1) hB Bz;exact⟨by rw[HA.out];rfl,bT hF⟩
theorem conv_3 {w:World} {y:Ly} {n:Int} (_h:LyOk w m y) (_hm:m≤20000) (_hl:y.rn≤100000∧y.bn≤100000∧y.kn≤100000∧y.gn≤100000) (HS:Hid (((sides y).all fun z=>decide (1≤z)&&decide (z≤256))=true)) (g1:¬y.pad<0) (g2:¬y.kh≤y.pad) (g3:y.kw≤y.pad) (_r1:1≤y.ch∧y.ch≤256) (_r2:1≤y.high∧y.high≤256) (_r3:1≤y.wide∧y.wide≤256) (_r4:1≤y.out∧y.out≤256) (_r5:1≤y.kh∧y.kh≤256) (_r6:1≤y.kw∧y.kw≤256) (_r7:1≤y.st∧y.st≤256)  (HA:Hid (convF y n=none)) (_hT:Hid (Tab w)) :
  Calls Tryz.prog 101 #[.agg #[.int .u8 y.kind,.slice y.rA y.rn y.rc,.slice y.bA y.bn y.bc,.int .i64 y.ch,.int .i64 y.high,.int .i64 y.wide,.int .i64 y.out,.int .i64 y.kh,.int .i64 y.kw,.int .i64 y.st,.int .i64 y.pad,.slice y.kA y.kn y.kc,.slice y.gA y.gn y.gc],.int .i64 n] w (TellsB w (convF y n)):=by
 obtain⟨W,hW,x0,hB⟩:=zY w y;have HX0:=zh x0;clear x0;have Bz:=zr W;obtain⟨-,-,-,pa3,pa4,pa5,pa6,pa7,pa8,pa9,-⟩:=(zx HX0 Bz).cz;go_enter Tryz.func101,Tryz.ntmps101
 go_upto_region 1 with(fail)
 rw[←hW];clear hW;go_upto_region 2 with(fail)
 obtain⟨V1,hW,x1,hN⟩:=zAb W #[.int .i64 y.ch,.int .i64 y.high,.int .i64 y.wide,.int .i64 y.out,.int .i64 y.kh,.int .i64 y.kw,.int .i64 y.st] 3;rw[←hW];clear hW;obtain⟨v1,hb1⟩:=ze W.heap.size;rw[←hb1] at x1 ⊢;have ow_1:w.heap.size≤v1:=zi (zw hB Bz);replace hB:=bT (bT hB Bz) hN;replace HX0:=zba HX0 Bz hN;have HX1:=zh x1;clear x1 hN Bz hb1;have Bz:=zr V1;clear pa3 pa4 pa5 pa6 pa7 pa8 pa9;go_wp2_with fail
 with_reducible refine(all_conv (ints_sl (sides y) (HX1.out.below (bT Bz)) 7 rfl) zo true HS).mono ?_
 rintro e w1 ⟨rfl,q⟩;replace q:=zq (a:=V1) q;replace Bz:=bT Bz q;clear q;obtain⟨-,-,-,-,-,-,-,pa7,pa8,-,paa,-⟩:=(zx HX0 Bz).cz;go_wp2_with fail
 go_ret3
 have hF:=bT (c:=w1) hB Bz;exact⟨by rw[HA.out];rfl,bT hF⟩
theorem conv_4 {w:World} {y:Ly} {n:Int} (_h:LyOk w m y) (_hm:m≤20000) (_hl:y.rn≤100000∧y.bn≤100000∧y.kn≤100000∧y.gn≤100000) (HS:Hid (((sides y).all fun z=>decide (1≤z)&&decide (z≤256))=true)) (g1:¬y.pad<0) (g2:¬y.kh≤y.pad) (g3:¬y.kw≤y.pad) (g4:(y.ch*y.high*y.wide != n)=true) (_r1:1≤y.ch∧y.ch≤256) (_r2:1≤y.high∧y.high≤256) (_r3:1≤y.wide∧y.wide≤256) (_r4:1≤y.out∧y.out≤256) (_r5:1≤y.kh∧y.kh≤256) (_r6:1≤y.kw∧y.kw≤256) (_r7:1≤y.st∧y.st≤256) (lP1:0≤y.ch*y.high) (uP1:y.ch*y.high≤65536) (lP2:0≤y.ch*y.high*y.wide) (uP2:y.ch*y.high*y.wide≤16777216) (HA:Hid (convF y n=none)) (_hT:Hid (Tab w)) :
  Calls Tryz.prog 101 #[.agg #[.int .u8 y.kind,.slice y.rA y.rn y.rc,.slice y.bA y.bn y.bc,.int .i64 y.ch,.int .i64 y.high,.int .i64 y.wide,.int .i64 y.out,.int .i64 y.kh,.int .i64 y.kw,.int .i64 y.st,.int .i64 y.pad,.slice y.kA y.kn y.kc,.slice y.gA y.gn y.gc],.int .i64 n] w (TellsB w (convF y n)):=by
 obtain⟨W,hW,x0,hB⟩:=zY w y;have HX0:=zh x0;clear x0;have Bz:=zr W;obtain⟨-,-,-,pa3,pa4,pa5,pa6,pa7,pa8,pa9,-⟩:=(zx HX0 Bz).cz;go_enter Tryz.func101,Tryz.ntmps101
 go_upto_region 1 with(fail)
 rw[←hW];clear hW;go_upto_region 2 with(fail)
 obtain⟨V1,hW,x1,hN⟩:=zAb W #[.int .i64 y.ch,.int .i64 y.high,.int .i64 y.wide,.int .i64 y.out,.int .i64 y.kh,.int .i64 y.kw,.int .i64 y.st] 3;rw[←hW];clear hW;obtain⟨v1,hb1⟩:=ze W.heap.size;rw[←hb1] at x1 ⊢;have ow_1:w.heap.size≤v1:=zi (zw hB Bz);replace hB:=bT (bT hB Bz) hN;replace HX0:=zba HX0 Bz hN;have HX1:=zh x1;clear x1 hN Bz hb1;have Bz:=zr V1;clear pa3 pa4 pa5 pa6 pa7 pa8 pa9;go_wp2_with fail
 with_reducible refine(all_conv (ints_sl (sides y) (HX1.out.below (bT Bz)) 7 rfl) zo true HS).mono ?_
 rintro e w1 ⟨rfl,q⟩;replace q:=zq (a:=V1) q;replace Bz:=bT Bz q;clear q;obtain⟨-,-,-,pa3,pa4,pa5,-,pa7,pa8,-,paa,-⟩:=(zx HX0 Bz).cz;go_wp2_with fail
 go_ret3
 have hF:=bT (c:=w1) hB Bz;exact⟨by rw[HA.out];rfl,bT hF⟩
theorem conv_5 {w:World} {y:Ly} {n:Int} (_h:LyOk w m y) (_hm:m≤20000) (_hl:y.rn≤100000∧y.bn≤100000∧y.kn≤100000∧y.gn≤100000) (HS:Hid (((sides y).all fun z=>decide (1≤z)&&decide (z≤256))=true)) (g1:¬y.pad<0) (g2:¬y.kh≤y.pad) (g3:¬y.kw≤y.pad) (g4:(y.ch*y.high*y.wide != n)=false) (g5:y.high+2*y.pad-y.kh<0) (_r1:1≤y.ch∧y.ch≤256) (r2:1≤y.high∧y.high≤256) (r3:1≤y.wide∧y.wide≤256) (_r4:1≤y.out∧y.out≤256) (r5:1≤y.kh∧y.kh≤256) (r6:1≤y.kw∧y.kw≤256) (_r7:1≤y.st∧y.st≤256) (lP1:0≤y.ch*y.high) (uP1:y.ch*y.high≤65536) (lP2:0≤y.ch*y.high*y.wide) (uP2:y.ch*y.high*y.wide≤16777216) (lP3:0≤y.ch*y.kh) (uP3:y.ch*y.kh≤65536) (lP4:0≤y.ch*y.kh*y.kw) (uP4:y.ch*y.kh*y.kw≤16777216) (HA:Hid (convF y n=none)) (_hT:Hid (Tab w)) :
  Calls Tryz.prog 101 #[.agg #[.int .u8 y.kind,.slice y.rA y.rn y.rc,.slice y.bA y.bn y.bc,.int .i64 y.ch,.int .i64 y.high,.int .i64 y.wide,.int .i64 y.out,.int .i64 y.kh,.int .i64 y.kw,.int .i64 y.st,.int .i64 y.pad,.slice y.kA y.kn y.kc,.slice y.gA y.gn y.gc],.int .i64 n] w (TellsB w (convF y n)):=by
 obtain⟨W,hW,x0,hB⟩:=zY w y;have HX0:=zh x0;clear x0;have Bz:=zr W;obtain⟨-,-,-,pa3,pa4,pa5,pa6,pa7,pa8,pa9,-⟩:=(zx HX0 Bz).cz;go_enter Tryz.func101,Tryz.ntmps101
 go_upto_region 1 with(fail)
 rw[←hW];clear hW;go_upto_region 2 with(fail)
 obtain⟨V1,hW,x1,hN⟩:=zAb W #[.int .i64 y.ch,.int .i64 y.high,.int .i64 y.wide,.int .i64 y.out,.int .i64 y.kh,.int .i64 y.kw,.int .i64 y.st] 3;rw[←hW];clear hW;obtain⟨v1,hb1⟩:=ze W.heap.size;rw[←hb1] at x1 ⊢;have ow_1:w.heap.size≤v1:=zi (zw hB Bz);replace hB:=bT (bT hB Bz) hN;replace HX0:=zba HX0 Bz hN;have HX1:=zh x1;clear x1 hN Bz hb1;have Bz:=zr V1;clear pa3 pa4 pa5 pa6 pa7 pa8 pa9;go_wp2_with fail
 with_reducible refine(all_conv (ints_sl (sides y) (HX1.out.below (bT Bz)) 7 rfl) zo true HS).mono ?_
 rintro e w1 ⟨rfl,q⟩;replace q:=zq (a:=V1) q;replace Bz:=bT Bz q;clear q;obtain⟨-,-,-,pa3,pa4,pa5,-,pa7,pa8,-,paa,-⟩:=(zx HX0 Bz).cz;go_wp2_with fail
 (try simp only[vAa,vBa,vC])
 refine zl (zz [0,1,2,3,4,5,6,7,8,9,10,11,12,13,14,15,16,17,18,19] .done) [] (zsa pa4 (zsa pa5 (zsa pa7 (zsa pa8 (zIa paa))))) ?_;iterate 20 (refine zUa ?_;try simp only[Act.put,uX,uY,uZ])
 refine wpPlan_done ?_;go_wp2_with fail
 go_ret3
 have hF:=bT (c:=w1) hB Bz;exact⟨by rw[HA.out];rfl,bT hF⟩
theorem conv_6 {w:World} {y:Ly} {n:Int} (_h:LyOk w m y) (_hm:m≤20000) (_hl:y.rn≤100000∧y.bn≤100000∧y.kn≤100000∧y.gn≤100000) (HS:Hid (((sides y).all fun z=>decide (1≤z)&&decide (z≤256))=true)) (g1:¬y.pad<0) (g2:¬y.kh≤y.pad) (g3:¬y.kw≤y.pad) (g4:(y.ch*y.high*y.wide != n)=false) (g5:¬y.high+2*y.pad-y.kh<0) (g6:y.wide+2*y.pad-y.kw<0) (_r1:1≤y.ch∧y.ch≤256) (r2:1≤y.high∧y.high≤256) (r3:1≤y.wide∧y.wide≤256) (_r4:1≤y.out∧y.out≤256) (r5:1≤y.kh∧y.kh≤256) (r6:1≤y.kw∧y.kw≤256) (_r7:1≤y.st∧y.st≤256) (lP1:0≤y.ch*y.high) (uP1:y.ch*y.high≤65536) (lP2:0≤y.ch*y.high*y.wide) (uP2:y.ch*y.high*y.wide≤16777216) (lP3:0≤y.ch*y.kh) (uP3:y.ch*y.kh≤65536) (lP4:0≤y.ch*y.kh*y.kw) (uP4:y.ch*y.kh*y.kw≤16777216) (HA:Hid (convF y n=none)) (_hT:Hid (Tab w)) :
  Calls Tryz.prog 101 #[.agg #[.int .u8 y.kind,.slice y.rA y.rn y.rc,.slice y.bA y.bn y.bc,.int .i64 y.ch,.int .i64 y.high,.int .i64 y.wide,.int .i64 y.out,.int .i64 y.kh,.int .i64 y.kw,.int .i64 y.st,.int .i64 y.pad,.slice y.kA y.kn y.kc,.slice y.gA y.gn y.gc],.int .i64 n] w (TellsB w (convF y n)):=by
 obtain⟨W,hW,x0,hB⟩:=zY w y;have HX0:=zh x0;clear x0;have Bz:=zr W;obtain⟨-,-,-,pa3,pa4,pa5,pa6,pa7,pa8,pa9,-⟩:=(zx HX0 Bz).cz;go_enter Tryz.func101,Tryz.ntmps101
 go_upto_region 1 with(fail)
 rw[←hW];clear hW;go_upto_region 2 with(fail)
 obtain⟨V1,hW,x1,hN⟩:=zAb W #[.int .i64 y.ch,.int .i64 y.high,.int .i64 y.wide,.int .i64 y.out,.int .i64 y.kh,.int .i64 y.kw,.int .i64 y.st] 3;rw[←hW];clear hW;obtain⟨v1,hb1⟩:=ze W.heap.size;rw[←hb1] at x1 ⊢;have ow_1:w.heap.size≤v1:=zi (zw hB Bz);replace hB:=bT (bT hB Bz) hN;replace HX0:=zba HX0 Bz hN;have HX1:=zh x1;clear x1 hN Bz hb1;have Bz:=zr V1;clear pa3 pa4 pa5 pa6 pa7 pa8 pa9;go_wp2_with fail
 with_reducible refine(all_conv (ints_sl (sides y) (HX1.out.below (bT Bz)) 7 rfl) zo true HS).mono ?_
 rintro e w1 ⟨rfl,q⟩;replace q:=zq (a:=V1) q;replace Bz:=bT Bz q;clear q;obtain⟨-,-,-,pa3,pa4,pa5,-,pa7,pa8,-,paa,-⟩:=(zx HX0 Bz).cz;go_wp2_with fail
 (try simp only[vAa,vBa,vC])
 refine zl (zz [0,1,2,3,4,5,6,7,8,9,10,11,12,13,14,15,16,17,18,19] .done) [] (zsa pa4 (zsa pa5 (zsa pa7 (zsa pa8 (zIa paa))))) ?_;iterate 20 (refine zUa ?_;try simp only[Act.put,uX,uY,uZ])
 refine wpPlan_done ?_;go_wp2_with fail
 go_ret3
 have hF:=bT (c:=w1) hB Bz;exact⟨by rw[HA.out];rfl,bT hF⟩
theorem conv_7 {w:World} {y:Ly} {n:Int} (_h:LyOk w m y) (_hm:m≤20000) (_hl:y.rn≤100000∧y.bn≤100000∧y.kn≤100000∧y.gn≤100000) (HS:Hid (((sides y).all fun z=>decide (1≤z)&&decide (z≤256))=true)) (g1:¬y.pad<0) (g2:¬y.kh≤y.pad) (g3:¬y.kw≤y.pad) (g4:(y.ch*y.high*y.wide != n)=false) (g5:¬y.high+2*y.pad-y.kh<0) (g6:¬y.wide+2*y.pad-y.kw<0) (g7:((y.kn:Int) != y.out*(y.ch*y.kh*y.kw))=true) (_r1:1≤y.ch∧y.ch≤256) (r2:1≤y.high∧y.high≤256) (r3:1≤y.wide∧y.wide≤256) (_r4:1≤y.out∧y.out≤256) (r5:1≤y.kh∧y.kh≤256) (_r6:1≤y.kw∧y.kw≤256) (_r7:1≤y.st∧y.st≤256) (lP1:0≤y.ch*y.high) (uP1:y.ch*y.high≤65536) (lP2:0≤y.ch*y.high*y.wide) (uP2:y.ch*y.high*y.wide≤16777216) (lP3:0≤y.ch*y.kh) (uP3:y.ch*y.kh≤65536) (lP4:0≤y.ch*y.kh*y.kw) (uP4:y.ch*y.kh*y.kw≤16777216) (lP5:0≤y.out*(y.ch*y.kh*y.kw)) (uP5:y.out*(y.ch*y.kh*y.kw)≤4294967296) (HA:Hid (convF y n=none)) (_hT:Hid (Tab w)) :
  Calls Tryz.prog 101 #[.agg #[.int .u8 y.kind,.slice y.rA y.rn y.rc,.slice y.bA y.bn y.bc,.int .i64 y.ch,.int .i64 y.high,.int .i64 y.wide,.int .i64 y.out,.int .i64 y.kh,.int .i64 y.kw,.int .i64 y.st,.int .i64 y.pad,.slice y.kA y.kn y.kc,.slice y.gA y.gn y.gc],.int .i64 n] w (TellsB w (convF y n)):=by
 obtain⟨W,hW,x0,hB⟩:=zY w y;have HX0:=zh x0;clear x0;have Bz:=zr W;obtain⟨-,-,-,pa3,pa4,pa5,pa6,pa7,pa8,pa9,-⟩:=(zx HX0 Bz).cz;go_enter Tryz.func101,Tryz.ntmps101
 go_upto_region 1 with(fail)
 rw[←hW];clear hW;go_upto_region 2 with(fail)
 obtain⟨V1,hW,x1,hN⟩:=zAb W #[.int .i64 y.ch,.int .i64 y.high,.int .i64 y.wide,.int .i64 y.out,.int .i64 y.kh,.int .i64 y.kw,.int .i64 y.st] 3;rw[←hW];clear hW;obtain⟨v1,hb1⟩:=ze W.heap.size;rw[←hb1] at x1 ⊢;have ow_1:w.heap.size≤v1:=zi (zw hB Bz);replace hB:=bT (bT hB Bz) hN;replace HX0:=zba HX0 Bz hN;have HX1:=zh x1;clear x1 hN Bz hb1;have Bz:=zr V1;clear pa3 pa4 pa5 pa6 pa7 pa8 pa9;go_wp2_with fail
 with_reducible refine(all_conv (ints_sl (sides y) (HX1.out.below (bT Bz)) 7 rfl) zo true HS).mono ?_
 rintro e w1 ⟨rfl,q⟩;replace q:=zq (a:=V1) q;replace Bz:=bT Bz q;clear q;obtain⟨-,-,-,pa3,pa4,pa5,pa6,pa7,pa8,-,paa,pab,-⟩:=(zx HX0 Bz).cz;go_wp2_with fail
 (try simp only[vAa,vBa,vC])
 refine zl (zz [0,1,2,3,4,5,6,7,8,9,10,11,12,13,14,15,16,17,18,19] .done) [] (zsa pa4 (zsa pa5 (zsa pa7 (zsa pa8 (zIa paa))))) ?_;iterate 20 (refine zUa ?_;try simp only[Act.put,uX,uY,uZ])
 refine wpPlan_done ?_;go_wp2_with fail
 go_ret3
 have hF:=bT (c:=w1) hB Bz;exact⟨by rw[HA.out];rfl,bT hF⟩
theorem conv_8 {w:World} {y:Ly} {n:Int} (_h:LyOk w m y) (_hm:m≤20000) (_hl:y.rn≤100000∧y.bn≤100000∧y.kn≤100000∧y.gn≤100000) (HS:Hid (((sides y).all fun z=>decide (1≤z)&&decide (z≤256))=true)) (g1:¬y.pad<0) (g2:¬y.kh≤y.pad) (g3:¬y.kw≤y.pad) (g4:(y.ch*y.high*y.wide != n)=false) (g5:¬y.high+2*y.pad-y.kh<0) (g6:¬y.wide+2*y.pad-y.kw<0) (g7:((y.kn:Int) != y.out*(y.ch*y.kh*y.kw))=false) (g8:((y.bn:Int) != y.out)=true) (_r1:1≤y.ch∧y.ch≤256) (r2:1≤y.high∧y.high≤256) (r3:1≤y.wide∧y.wide≤256) (_r4:1≤y.out∧y.out≤256) (r5:1≤y.kh∧y.kh≤256) (_r6:1≤y.kw∧y.kw≤256) (_r7:1≤y.st∧y.st≤256) (lP1:0≤y.ch*y.high) (uP1:y.ch*y.high≤65536) (lP2:0≤y.ch*y.high*y.wide) (uP2:y.ch*y.high*y.wide≤16777216) (lP3:0≤y.ch*y.kh) (uP3:y.ch*y.kh≤65536) (lP4:0≤y.ch*y.kh*y.kw) (uP4:y.ch*y.kh*y.kw≤16777216) (lP5:0≤y.out*(y.ch*y.kh*y.kw)) (uP5:y.out*(y.ch*y.kh*y.kw)≤4294967296) (HA:Hid (convF y n=none)) (_hT:Hid (Tab w)) :
  Calls Tryz.prog 101 #[.agg #[.int .u8 y.kind,.slice y.rA y.rn y.rc,.slice y.bA y.bn y.bc,.int .i64 y.ch,.int .i64 y.high,.int .i64 y.wide,.int .i64 y.out,.int .i64 y.kh,.int .i64 y.kw,.int .i64 y.st,.int .i64 y.pad,.slice y.kA y.kn y.kc,.slice y.gA y.gn y.gc],.int .i64 n] w (TellsB w (convF y n)):=by
 obtain⟨W,hW,x0,hB⟩:=zY w y;have HX0:=zh x0;clear x0;have Bz:=zr W;obtain⟨-,-,-,pa3,pa4,pa5,pa6,pa7,pa8,pa9,-⟩:=(zx HX0 Bz).cz;go_enter Tryz.func101,Tryz.ntmps101
 go_upto_region 1 with(fail)
 rw[←hW];clear hW;go_upto_region 2 with(fail)
 obtain⟨V1,hW,x1,hN⟩:=zAb W #[.int .i64 y.ch,.int .i64 y.high,.int .i64 y.wide,.int .i64 y.out,.int .i64 y.kh,.int .i64 y.kw,.int .i64 y.st] 3;rw[←hW];clear hW;obtain⟨v1,hb1⟩:=ze W.heap.size;rw[←hb1] at x1 ⊢;have ow_1:w.heap.size≤v1:=zi (zw hB Bz);replace hB:=bT (bT hB Bz) hN;replace HX0:=zba HX0 Bz hN;have HX1:=zh x1;clear x1 hN Bz hb1;have Bz:=zr V1;clear pa3 pa4 pa5 pa6 pa7 pa8 pa9;go_wp2_with fail
 with_reducible refine(all_conv (ints_sl (sides y) (HX1.out.below (bT Bz)) 7 rfl) zo true HS).mono ?_
 rintro e w1 ⟨rfl,q⟩;replace q:=zq (a:=V1) q;replace Bz:=bT Bz q;clear q;obtain⟨-,-,pa2,pa3,pa4,pa5,pa6,pa7,pa8,-,paa,pab,-⟩:=(zx HX0 Bz).cz;go_wp2_with fail
 (try simp only[vAa,vBa,vC])
 refine zl (zz [0,1,2,3,4,5,6,7,8,9,10,11,12,13,14,15,16,17,18,19] .done) [] (zsa pa4 (zsa pa5 (zsa pa7 (zsa pa8 (zIa paa))))) ?_;iterate 20 (refine zUa ?_;try simp only[Act.put,uX,uY,uZ])
 refine wpPlan_done ?_;go_wp2_with fail
 go_ret3
 have hF:=bT (c:=w1) hB Bz;exact⟨by rw[HA.out];rfl,bT hF⟩
theorem conv_9 {w:World} {y:Ly} {n:Int} (_h:LyOk w m y) (_hm:m≤20000) (_hl:y.rn≤100000∧y.bn≤100000∧y.kn≤100000∧y.gn≤100000) (HS:Hid (((sides y).all fun z=>decide (1≤z)&&decide (z≤256))=true)) (g1:¬y.pad<0) (g2:¬y.kh≤y.pad) (g3:¬y.kw≤y.pad) (g4:(y.ch*y.high*y.wide != n)=false) (g5:¬y.high+2*y.pad-y.kh<0) (g6:¬y.wide+2*y.pad-y.kw<0) (g7:((y.kn:Int) != y.out*(y.ch*y.kh*y.kw))=false) (g8:((y.bn:Int) != y.out)=false) (g9:0<y.rn) (_r1:1≤y.ch∧y.ch≤256) (r2:1≤y.high∧y.high≤256) (r3:1≤y.wide∧y.wide≤256) (_r4:1≤y.out∧y.out≤256) (r5:1≤y.kh∧y.kh≤256) (_r6:1≤y.kw∧y.kw≤256) (_r7:1≤y.st∧y.st≤256) (lP1:0≤y.ch*y.high) (uP1:y.ch*y.high≤65536) (lP2:0≤y.ch*y.high*y.wide) (uP2:y.ch*y.high*y.wide≤16777216) (lP3:0≤y.ch*y.kh) (uP3:y.ch*y.kh≤65536) (lP4:0≤y.ch*y.kh*y.kw) (uP4:y.ch*y.kh*y.kw≤16777216) (lP5:0≤y.out*(y.ch*y.kh*y.kw)) (uP5:y.out*(y.ch*y.kh*y.kw)≤4294967296) (HA:Hid (convF y n=none)) (_hT:Hid (Tab w)) :
  Calls Tryz.prog 101 #[.agg #[.int .u8 y.kind,.slice y.rA y.rn y.rc,.slice y.bA y.bn y.bc,.int .i64 y.ch,.int .i64 y.high,.int .i64 y.wide,.int .i64 y.out,.int .i64 y.kh,.int .i64 y.kw,.int .i64 y.st,.int .i64 y.pad,.slice y.kA y.kn y.kc,.slice y.gA y.gn y.gc],.int .i64 n] w (TellsB w (convF y n)):=by
 obtain⟨W,hW,x0,hB⟩:=zY w y;have HX0:=zh x0;clear x0;have Bz:=zr W;obtain⟨-,-,-,pa3,pa4,pa5,pa6,pa7,pa8,pa9,-⟩:=(zx HX0 Bz).cz;go_enter Tryz.func101,Tryz.ntmps101
 go_upto_region 1 with(fail)
 rw[←hW];clear hW;go_upto_region 2 with(fail)
 obtain⟨V1,hW,x1,hN⟩:=zAb W #[.int .i64 y.ch,.int .i64 y.high,.int .i64 y.wide,.int .i64 y.out,.int .i64 y.kh,.int .i64 y.kw,.int .i64 y.st] 3;rw[←hW];clear hW;obtain⟨v1,hb1⟩:=ze W.heap.size;rw[←hb1] at x1 ⊢;have ow_1:w.heap.size≤v1:=zi (zw hB Bz);replace hB:=bT (bT hB Bz) hN;replace HX0:=zba HX0 Bz hN;have HX1:=zh x1;clear x1 hN Bz hb1;have Bz:=zr V1;clear pa3 pa4 pa5 pa6 pa7 pa8 pa9;go_wp2_with fail
 with_reducible refine(all_conv (ints_sl (sides y) (HX1.out.below (bT Bz)) 7 rfl) zo true HS).mono ?_
 rintro e w1 ⟨rfl,q⟩;replace q:=zq (a:=V1) q;replace Bz:=bT Bz q;clear q;obtain⟨-,pa1,pa2,pa3,pa4,pa5,pa6,pa7,pa8,-,paa,pab,-⟩:=(zx HX0 Bz).cz;go_wp2_with fail
 (try simp only[vAa,vBa,vC])
 refine zl (zz [0,1,2,3,4,5,6,7,8,9,10,11,12,13,14,15,16,17,18,19] .done) [] (zsa pa4 (zsa pa5 (zsa pa7 (zsa pa8 (zIa paa))))) ?_;iterate 20 (refine zUa ?_;try simp only[Act.put,uX,uY,uZ])
 refine wpPlan_done ?_;go_wp2_with fail
 go_ret3
 have hF:=bT (c:=w1) hB Bz;exact⟨by rw[HA.out];rfl,bT hF⟩
theorem conv_10 {w:World} {y:Ly} {n:Int} (_h:LyOk w m y) (_hm:m≤20000) (_hl:y.rn≤100000∧y.bn≤100000∧y.kn≤100000∧y.gn≤100000) (HS:Hid (((sides y).all fun z=>decide (1≤z)&&decide (z≤256))=true)) (g1:¬y.pad<0) (g2:¬y.kh≤y.pad) (g3:¬y.kw≤y.pad) (g4:(y.ch*y.high*y.wide != n)=false) (g5:¬y.high+2*y.pad-y.kh<0) (g6:¬y.wide+2*y.pad-y.kw<0) (g7:((y.kn:Int) != y.out*(y.ch*y.kh*y.kw))=false) (g8:((y.bn:Int) != y.out)=false) (g9:¬0<y.rn) (g10:0<y.gn) (_r1:1≤y.ch∧y.ch≤256) (r2:1≤y.high∧y.high≤256) (r3:1≤y.wide∧y.wide≤256) (_r4:1≤y.out∧y.out≤256) (r5:1≤y.kh∧y.kh≤256) (_r6:1≤y.kw∧y.kw≤256) (_r7:1≤y.st∧y.st≤256) (lP1:0≤y.ch*y.high) (uP1:y.ch*y.high≤65536) (lP2:0≤y.ch*y.high*y.wide) (uP2:y.ch*y.high*y.wide≤16777216) (lP3:0≤y.ch*y.kh) (uP3:y.ch*y.kh≤65536) (lP4:0≤y.ch*y.kh*y.kw) (uP4:y.ch*y.kh*y.kw≤16777216) (lP5:0≤y.out*(y.ch*y.kh*y.kw)) (uP5:y.out*(y.ch*y.kh*y.kw)≤4294967296) (HA:Hid (convF y n=none)) (_hT:Hid (Tab w)) :
  Calls Tryz.prog 101 #[.agg #[.int .u8 y.kind,.slice y.rA y.rn y.rc,.slice y.bA y.bn y.bc,.int .i64 y.ch,.int .i64 y.high,.int .i64 y.wide,.int .i64 y.out,.int .i64 y.kh,.int .i64 y.kw,.int .i64 y.st,.int .i64 y.pad,.slice y.kA y.kn y.kc,.slice y.gA y.gn y.gc],.int .i64 n] w (TellsB w (convF y n)):=by
 obtain⟨W,hW,x0,hB⟩:=zY w y;have HX0:=zh x0;clear x0;have Bz:=zr W;obtain⟨-,-,-,pa3,pa4,pa5,pa6,pa7,pa8,pa9,-⟩:=(zx HX0 Bz).cz;go_enter Tryz.func101,Tryz.ntmps101
 go_upto_region 1 with(fail)
 rw[←hW];clear hW;go_upto_region 2 with(fail)
 obtain⟨V1,hW,x1,hN⟩:=zAb W #[.int .i64 y.ch,.int .i64 y.high,.int .i64 y.wide,.int .i64 y.out,.int .i64 y.kh,.int .i64 y.kw,.int .i64 y.st] 3;rw[←hW];clear hW;obtain⟨v1,hb1⟩:=ze W.heap.size;rw[←hb1] at x1 ⊢;have ow_1:w.heap.size≤v1:=zi (zw hB Bz);replace hB:=bT (bT hB Bz) hN;replace HX0:=zba HX0 Bz hN;have HX1:=zh x1;clear x1 hN Bz hb1;have Bz:=zr V1;clear pa3 pa4 pa5 pa6 pa7 pa8 pa9;go_wp2_with fail
 with_reducible refine(all_conv (ints_sl (sides y) (HX1.out.below (bT Bz)) 7 rfl) zo true HS).mono ?_
 rintro e w1 ⟨rfl,q⟩;replace q:=zq (a:=V1) q;replace Bz:=bT Bz q;clear q;obtain⟨-,pa1,pa2,pa3,pa4,pa5,pa6,pa7,pa8,-,paa,pab,pac,-⟩:=(zx HX0 Bz).cz;go_wp2_with fail
 (try simp only[vAa,vBa,vC])
 refine zl (zz [0,1,2,3,4,5,6,7,8,9,10,11,12,13,14,15,16,17,18,19] .done) [] (zsa pa4 (zsa pa5 (zsa pa7 (zsa pa8 (zIa paa))))) ?_;iterate 20 (refine zUa ?_;try simp only[Act.put,uX,uY,uZ])
 refine wpPlan_done ?_;go_wp2_with fail
 go_ret3
 have hF:=bT (c:=w1) hB Bz;exact⟨by rw[HA.out];rfl,bT hF⟩
theorem conv_11 {w:World} {y:Ly} {n:Int} (h:LyOk w m y) (hm:m≤20000) (hl:y.rn≤100000∧y.bn≤100000∧y.kn≤100000∧y.gn≤100000) (HS:Hid (((sides y).all fun z=>decide (1≤z)&&decide (z≤256))=true)) (g1:¬y.pad<0) (g2:¬y.kh≤y.pad) (g3:¬y.kw≤y.pad) (g4:(y.ch*y.high*y.wide != n)=false) (g5:¬y.high+2*y.pad-y.kh<0) (g6:¬y.wide+2*y.pad-y.kw<0) (g7:((y.kn:Int) != y.out*(y.ch*y.kh*y.kw))=false) (g8:((y.bn:Int) != y.out)=false) (g9:¬0<y.rn) (g10:¬0<y.gn) (HK:Hid ((y.kern.all fun x=>x.ex)=false)) (_r1:1≤y.ch∧y.ch≤256) (r2:1≤y.high∧y.high≤256) (r3:1≤y.wide∧y.wide≤256) (_r4:1≤y.out∧y.out≤256) (r5:1≤y.kh∧y.kh≤256) (_r6:1≤y.kw∧y.kw≤256) (_r7:1≤y.st∧y.st≤256) (lP1:0≤y.ch*y.high) (uP1:y.ch*y.high≤65536) (lP2:0≤y.ch*y.high*y.wide) (uP2:y.ch*y.high*y.wide≤16777216) (lP3:0≤y.ch*y.kh) (uP3:y.ch*y.kh≤65536) (lP4:0≤y.ch*y.kh*y.kw) (uP4:y.ch*y.kh*y.kw≤16777216) (lP5:0≤y.out*(y.ch*y.kh*y.kw)) (uP5:y.out*(y.ch*y.kh*y.kw)≤4294967296) (HA:Hid (convF y n=none)) (hT:Hid (Tab w)) :
  Calls Tryz.prog 101 #[.agg #[.int .u8 y.kind,.slice y.rA y.rn y.rc,.slice y.bA y.bn y.bc,.int .i64 y.ch,.int .i64 y.high,.int .i64 y.wide,.int .i64 y.out,.int .i64 y.kh,.int .i64 y.kw,.int .i64 y.st,.int .i64 y.pad,.slice y.kA y.kn y.kc,.slice y.gA y.gn y.gc],.int .i64 n] w (TellsB w (convF y n)):=by
 obtain⟨W,hW,x0,hB⟩:=zY w y;have HX0:=zh x0;clear x0;have Bz:=zr W;obtain⟨-,-,-,pa3,pa4,pa5,pa6,pa7,pa8,pa9,-⟩:=(zx HX0 Bz).cz;go_enter Tryz.func101,Tryz.ntmps101
 go_upto_region 1 with(fail)
 rw[←hW];clear hW;go_upto_region 2 with(fail)
 obtain⟨V1,hW,x1,hN⟩:=zAb W #[.int .i64 y.ch,.int .i64 y.high,.int .i64 y.wide,.int .i64 y.out,.int .i64 y.kh,.int .i64 y.kw,.int .i64 y.st] 3;rw[←hW];clear hW;obtain⟨v1,hb1⟩:=ze W.heap.size;rw[←hb1] at x1 ⊢;have ow_1:w.heap.size≤v1:=zi (zw hB Bz);replace hB:=bT (bT hB Bz) hN;replace HX0:=zba HX0 Bz hN;have HX1:=zh x1;clear x1 hN Bz hb1;have Bz:=zr V1;clear pa3 pa4 pa5 pa6 pa7 pa8 pa9;go_wp2_with fail
 with_reducible refine(all_conv (ints_sl (sides y) (HX1.out.below (bT Bz)) 7 rfl) zo true HS).mono ?_
 rintro e w1 ⟨rfl,q⟩;replace q:=zq (a:=V1) q;replace Bz:=bT Bz q;clear q;obtain⟨-,pa1,pa2,pa3,pa4,pa5,pa6,pa7,pa8,-,paa,pab,pac,-⟩:=(zx HX0 Bz).cz;go_wp2_with fail
 (try simp only[vAa,vBa,vC])
 refine zl (zz [0,1,2,3,4,5,6,7,8,9,10,11,12,13,14,15,16,17,18,19] .done) [] (zsa pa4 (zsa pa5 (zsa pa7 (zsa pa8 (zIa paa))))) ?_;iterate 20 (refine zUa ?_;try simp only[Act.put,uX,uY,uZ])
 refine wpPlan_done ?_;go_wp2_with fail
 with_reducible refine(all_conv2 (h.kern.below (bT hB (bT (b:=w1) Bz))) (zh fun x hx=>(h.kok x hx).below (bT hB (bT (b:=w1) Bz))) zo (zt hT hB Bz) zo false HK).mono ?_
 rintro e w2 ⟨rfl,q⟩;replace q:=zq (a:=w1) q;replace Bz:=bT Bz q;clear q;clear pa1 pa2 pa3 pa4 pa5 pa6 pa7 pa8 paa pab pac;go_wp2_with fail
 go_ret3
 have hF:=bT (c:=w2) hB Bz;exact⟨by rw[HA.out];rfl,bT hF⟩
theorem conv_12 {w:World} {y:Ly} {n:Int} (h:LyOk w m y) (hm:m≤20000) (hl:y.rn≤100000∧y.bn≤100000∧y.kn≤100000∧y.gn≤100000) (HS:Hid (((sides y).all fun z=>decide (1≤z)&&decide (z≤256))=true)) (g1:¬y.pad<0) (g2:¬y.kh≤y.pad) (g3:¬y.kw≤y.pad) (g4:(y.ch*y.high*y.wide != n)=false) (g5:¬y.high+2*y.pad-y.kh<0) (g6:¬y.wide+2*y.pad-y.kw<0) (g7:((y.kn:Int) != y.out*(y.ch*y.kh*y.kw))=false) (g8:((y.bn:Int) != y.out)=false) (g9:¬0<y.rn) (g10:¬0<y.gn) (HK:Hid ((y.kern.all fun x=>x.ex)=true)) (HE:Hid ((y.bias.all fun x=>x.ex)=false)) (_r1:1≤y.ch∧y.ch≤256) (r2:1≤y.high∧y.high≤256) (r3:1≤y.wide∧y.wide≤256) (_r4:1≤y.out∧y.out≤256) (r5:1≤y.kh∧y.kh≤256) (_r6:1≤y.kw∧y.kw≤256) (_r7:1≤y.st∧y.st≤256) (lP1:0≤y.ch*y.high) (uP1:y.ch*y.high≤65536) (lP2:0≤y.ch*y.high*y.wide) (uP2:y.ch*y.high*y.wide≤16777216) (lP3:0≤y.ch*y.kh) (uP3:y.ch*y.kh≤65536) (lP4:0≤y.ch*y.kh*y.kw) (uP4:y.ch*y.kh*y.kw≤16777216) (lP5:0≤y.out*(y.ch*y.kh*y.kw)) (uP5:y.out*(y.ch*y.kh*y.kw)≤4294967296) (HA:Hid (convF y n=none)) (hT:Hid (Tab w)) :
  Calls Tryz.prog 101 #[.agg #[.int .u8 y.kind,.slice y.rA y.rn y.rc,.slice y.bA y.bn y.bc,.int .i64 y.ch,.int .i64 y.high,.int .i64 y.wide,.int .i64 y.out,.int .i64 y.kh,.int .i64 y.kw,.int .i64 y.st,.int .i64 y.pad,.slice y.kA y.kn y.kc,.slice y.gA y.gn y.gc],.int .i64 n] w (TellsB w (convF y n)):=by
 obtain⟨W,hW,x0,hB⟩:=zY w y;have HX0:=zh x0;clear x0;have Bz:=zr W;obtain⟨-,-,-,pa3,pa4,pa5,pa6,pa7,pa8,pa9,-⟩:=(zx HX0 Bz).cz;go_enter Tryz.func101,Tryz.ntmps101
 go_upto_region 1 with(fail)
 rw[←hW];clear hW;go_upto_region 2 with(fail)
 obtain⟨V1,hW,x1,hN⟩:=zAb W #[.int .i64 y.ch,.int .i64 y.high,.int .i64 y.wide,.int .i64 y.out,.int .i64 y.kh,.int .i64 y.kw,.int .i64 y.st] 3;rw[←hW];clear hW;obtain⟨v1,hb1⟩:=ze W.heap.size;rw[←hb1] at x1 ⊢;have ow_1:w.heap.size≤v1:=zi (zw hB Bz);replace hB:=bT (bT hB Bz) hN;replace HX0:=zba HX0 Bz hN;have HX1:=zh x1;clear x1 hN Bz hb1;have Bz:=zr V1;clear pa3 pa4 pa5 pa6 pa7 pa8 pa9;go_wp2_with fail
 with_reducible refine(all_conv (ints_sl (sides y) (HX1.out.below (bT Bz)) 7 rfl) zo true HS).mono ?_
 rintro e w1 ⟨rfl,q⟩;replace q:=zq (a:=V1) q;replace Bz:=bT Bz q;clear q;obtain⟨-,pa1,pa2,pa3,pa4,pa5,pa6,pa7,pa8,-,paa,pab,pac,-⟩:=(zx HX0 Bz).cz;go_wp2_with fail
 (try simp only[vAa,vBa,vC])
 refine zl (zz [0,1,2,3,4,5,6,7,8,9,10,11,12,13,14,15,16,17,18,19] .done) [] (zsa pa4 (zsa pa5 (zsa pa7 (zsa pa8 (zIa paa))))) ?_;iterate 20 (refine zUa ?_;try simp only[Act.put,uX,uY,uZ])
 refine wpPlan_done ?_;go_wp2_with fail
 with_reducible refine(all_conv2 (h.kern.below (bT hB (bT (b:=w1) Bz))) (zh fun x hx=>(h.kok x hx).below (bT hB (bT (b:=w1) Bz))) zo (zt hT hB Bz) zo true HK).mono ?_
 rintro e w2 ⟨rfl,q⟩;replace q:=zq (a:=w1) q;replace Bz:=bT Bz q;clear q;clear pa1 pa2 pa3 pa4 pa5 pa6 pa7 pa8 paa pab pac;have pa2:=(zx HX0 Bz).cell 2 (.slice y.bA y.bn y.bc) rfl;go_wp2_with fail
 with_reducible refine(all_conv2 (h.bias.below (bT hB (bT (b:=w2) Bz))) (zh fun x hx=>(h.bok x hx).below (bT hB (bT (b:=w2) Bz))) zo (zt hT hB Bz) zo false HE).mono ?_
 rintro e w3 ⟨rfl,q⟩;replace q:=zq (a:=w2) q;replace Bz:=bT Bz q;clear q;clear pa2;go_wp2_with fail
 go_ret3
 have hF:=bT (c:=w3) hB Bz;exact⟨by rw[HA.out];rfl,bT hF⟩
theorem conv_13 {w:World} {y:Ly} {n:Int} (h:LyOk w m y) (hm:m≤20000) (hl:y.rn≤100000∧y.bn≤100000∧y.kn≤100000∧y.gn≤100000) (HS:Hid (((sides y).all fun z=>decide (1≤z)&&decide (z≤256))=true)) (g1:¬y.pad<0) (g2:¬y.kh≤y.pad) (g3:¬y.kw≤y.pad) (g4:(y.ch*y.high*y.wide != n)=false) (g5:¬y.high+2*y.pad-y.kh<0) (g6:¬y.wide+2*y.pad-y.kw<0) (g7:((y.kn:Int) != y.out*(y.ch*y.kh*y.kw))=false) (g8:((y.bn:Int) != y.out)=false) (g9:¬0<y.rn) (g10:¬0<y.gn) (HK:Hid ((y.kern.all fun x=>x.ex)=true)) (HE:Hid ((y.bias.all fun x=>x.ex)=true)) (_r1:1≤y.ch∧y.ch≤256) (r2:1≤y.high∧y.high≤256) (r3:1≤y.wide∧y.wide≤256) (_r4:1≤y.out∧y.out≤256) (r5:1≤y.kh∧y.kh≤256) (_r6:1≤y.kw∧y.kw≤256) (r7:1≤y.st∧y.st≤256) (lP1:0≤y.ch*y.high) (uP1:y.ch*y.high≤65536) (lP2:0≤y.ch*y.high*y.wide) (uP2:y.ch*y.high*y.wide≤16777216) (lP3:0≤y.ch*y.kh) (uP3:y.ch*y.kh≤65536) (lP4:0≤y.ch*y.kh*y.kw) (uP4:y.ch*y.kh*y.kw≤16777216) (lP5:0≤y.out*(y.ch*y.kh*y.kw)) (uP5:y.out*(y.ch*y.kh*y.kw)≤4294967296) (lQ1:0≤(y.high+2*y.pad-y.kh) / y.st) (uQ1:(y.high+2*y.pad-y.kh) / y.st≤766) (lQ2:0≤(y.wide+2*y.pad-y.kw) / y.st) (uQ2:(y.wide+2*y.pad-y.kw) / y.st≤766) (lP6:0≤y.out*((y.high+2*y.pad-y.kh) / y.st+1)) (uP6:y.out*((y.high+2*y.pad-y.kh) / y.st+1)≤196352) (lP7:0≤y.out*((y.high+2*y.pad-y.kh) / y.st+1)*((y.wide+2*y.pad-y.kw) / y.st+1)) (uP7:y.out*((y.high+2*y.pad-y.kh) / y.st+1)*((y.wide+2*y.pad-y.kw) / y.st+1)≤150601984) (lP8:0≤y.out*((y.high+2*y.pad-y.kh) / y.st+1)*((y.wide+2*y.pad-y.kw) / y.st+1)*(y.ch*y.kh*y.kw)) (uP8:y.out*((y.high+2*y.pad-y.kh) / y.st+1)*((y.wide+2*y.pad-y.kw) / y.st+1)*(y.ch*y.kh*y.kw)≤2526682015596544) (HA:Hid (convF y n=some (cUnits y,cUnits y*cEach y))) (hT:Hid (Tab w)) :
  Calls Tryz.prog 101 #[.agg #[.int .u8 y.kind,.slice y.rA y.rn y.rc,.slice y.bA y.bn y.bc,.int .i64 y.ch,.int .i64 y.high,.int .i64 y.wide,.int .i64 y.out,.int .i64 y.kh,.int .i64 y.kw,.int .i64 y.st,.int .i64 y.pad,.slice y.kA y.kn y.kc,.slice y.gA y.gn y.gc],.int .i64 n] w (TellsB w (convF y n)):=by
 obtain⟨W,hW,x0,hB⟩:=zY w y;have HX0:=zh x0;clear x0;have Bz:=zr W;obtain⟨-,-,-,pa3,pa4,pa5,pa6,pa7,pa8,pa9,-⟩:=(zx HX0 Bz).cz;go_enter Tryz.func101,Tryz.ntmps101
 go_upto_region 1 with(fail)
 rw[←hW];clear hW;go_upto_region 2 with(fail)
 obtain⟨V1,hW,x1,hN⟩:=zAb W #[.int .i64 y.ch,.int .i64 y.high,.int .i64 y.wide,.int .i64 y.out,.int .i64 y.kh,.int .i64 y.kw,.int .i64 y.st] 3;rw[←hW];clear hW;obtain⟨v1,hb1⟩:=ze W.heap.size;rw[←hb1] at x1 ⊢;have ow_1:w.heap.size≤v1:=zi (zw hB Bz);replace hB:=bT (bT hB Bz) hN;replace HX0:=zba HX0 Bz hN;have HX1:=zh x1;clear x1 hN Bz hb1;have Bz:=zr V1;clear pa3 pa4 pa5 pa6 pa7 pa8 pa9;go_wp2_with fail
 with_reducible refine(all_conv (ints_sl (sides y) (HX1.out.below (bT Bz)) 7 rfl) zo true HS).mono ?_
 rintro e w1 ⟨rfl,q⟩;replace q:=zq (a:=V1) q;replace Bz:=bT Bz q;clear q;obtain⟨-,pa1,pa2,pa3,pa4,pa5,pa6,pa7,pa8,-,paa,pab,pac,-⟩:=(zx HX0 Bz).cz;go_wp2_with fail
 (try simp only[vAa,vBa,vC])
 refine zl (zz [0,1,2,3,4,5,6,7,8,9,10,11,12,13,14,15,16,17,18,19] .done) [] (zsa pa4 (zsa pa5 (zsa pa7 (zsa pa8 (zIa paa))))) ?_;iterate 20 (refine zUa ?_;try simp only[Act.put,uX,uY,uZ])
 refine wpPlan_done ?_;go_wp2_with fail
 with_reducible refine(all_conv2 (h.kern.below (bT hB (bT (b:=w1) Bz))) (zh fun x hx=>(h.kok x hx).below (bT hB (bT (b:=w1) Bz))) zo (zt hT hB Bz) zo true HK).mono ?_
 rintro e w2 ⟨rfl,q⟩;replace q:=zq (a:=w1) q;replace Bz:=bT Bz q;clear q;clear pa1 pa2 pa3 pa4 pa5 pa6 pa7 pa8 paa pab pac;have pa2:=(zx HX0 Bz).cell 2 (.slice y.bA y.bn y.bc) rfl;go_wp2_with fail
 with_reducible refine(all_conv2 (h.bias.below (bT hB (bT (b:=w2) Bz))) (zh fun x hx=>(h.bok x hx).below (bT hB (bT (b:=w2) Bz))) zo (zt hT hB Bz) zo true HE).mono ?_
 rintro e w3 ⟨rfl,q⟩;replace q:=zq (a:=w2) q;replace Bz:=bT Bz q;clear q;clear pa2;obtain⟨-,-,-,-,-,-,pa6,-,-,pa9,-⟩:=(zx HX0 Bz).cz;go_wp2_with fail
 have z0:¬y.st=0:=zo;have z1:(y.high+2*y.pad-y.kh).tdiv y.st=(y.high+2*y.pad-y.kh) / y.st:=Int.tdiv_eq_ediv_of_nonneg zo;have z2:(y.wide+2*y.pad-y.kw).tdiv y.st=(y.wide+2*y.pad-y.kw) / y.st:=Int.tdiv_eq_ediv_of_nonneg zo;have z3':IntKind.i64.wrap ((y.high+2*y.pad-y.kh) / y.st)=(y.high+2*y.pad-y.kh) / y.st:=IntWalk.i64_in _ zo;have z4':IntKind.i64.wrap ((y.high+2*y.pad-y.kh) / y.st+1)=(y.high+2*y.pad-y.kh) / y.st+1:=IntWalk.i64_in _ zo;have z5':IntKind.i64.wrap (y.out*((y.high+2*y.pad-y.kh) / y.st+1))=y.out*((y.high+2*y.pad-y.kh) / y.st+1):=IntWalk.i64_in _ zo;have z6':IntKind.i64.wrap ((y.wide+2*y.pad-y.kw) / y.st)=(y.wide+2*y.pad-y.kw) / y.st:=IntWalk.i64_in _ zo;have z7':IntKind.i64.wrap ((y.wide+2*y.pad-y.kw) / y.st+1)=(y.wide+2*y.pad-y.kw) / y.st+1:=IntWalk.i64_in _ zo;have z8':IntKind.i64.wrap (y.out*((y.high+2*y.pad-y.kh) / y.st+1)*((y.wide+2*y.pad-y.kw) / y.st+1))=y.out*((y.high+2*y.pad-y.kh) / y.st+1)*((y.wide+2*y.pad-y.kw) / y.st+1):=IntWalk.i64_in _ zo;(try simp only[vAa,vBa,vC])
 refine zl (zz [0,1,2,3,4,5,6,7,8,9,10,11,12,13,14] .done) [] (zsa pa6 (zIa pa9)) ?_;iterate 15 (refine zUa ?_;try simp only[Act.put,uX,uY,uZ])
 refine wpPlan_done ?_;clear z0 z1 z2 z3' z4' z5' z6' z7' z8';go_wp2_with fail
 go_ret3
 have hF:=bT (c:=w3) hB Bz;exact⟨by rw[HA.out];rfl,bT hF⟩
end Go.Proofs.YtiondclbdgijbaaGreatDoor
