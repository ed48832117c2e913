/-
  tripwireref10.Pictures. Written by wip/gen/pic.py.
-/
import Derived.Test.YtidjjejgbahcgaaGreatDoorYRv5
import Derived.Test.YtidjjejgbahcgaaGreatDoorYSh7
set_option maxHeartbeats 8000000
set_option maxRecDepth 100000
namespace Go.Proofs.YtidjjejgbahcgaaGreatDoor
open Go.RowKit Tw
def picOk (y:Ly):Bool:=((sides y).all fun z=>decide (1≤z)&&decide (z≤256))&&(decide (0≤y.pad)&&(decide (y.pad<y.kh)&&decide (y.pad<y.kw)))
def cnt (h s:Int):Int:=if h<0 then 0 else h / s+1
theorem cnt_of {k at_ h s:Int} (h1:at_=k*s) (h2:k=0∨at_-s≤h) (h3:h<at_) (hs:1≤s) (hk:0≤k):k=cnt h s:=by
 unfold cnt
 split
 case isTrue hn =>
  rcases h2 with h2 | h2
  ·exact h2
  ·have h4:at_-s<0:=zo;rw[h1] at h4;have h5:(k-1)*s<0:=by rw[Int.sub_mul,Int.one_mul];exact h4
   rcases Int.lt_or_le (k-1) 0 with h6 | h6
   ·omega
   ·have:=Int.mul_nonneg h6 (show(0:Int)≤s by omega);omega
 case isFalse hn =>
  have h4:(k-1)*s≤h:=by
   rcases h2 with h2 | h2
   ·subst h2;rw[show((0:Int)-1)*s = -s by rw[Int.sub_mul,Int.zero_mul,Int.one_mul];omega];omega
   ·rw[Int.sub_mul,Int.one_mul,←h1];exact h2
  have h5:k-1≤h / s:=(Int.le_ediv_iff_mul_le zo).2 h4;have h6:h / s<k:=(Int.ediv_lt_iff_lt_mul zo).2 (by rw[←h1];exact h3);omega
theorem pic_0 {w:World} {y:Ly} (Hch:Hid ((decide (1≤y.ch)&&decide (y.ch≤256))=false)) :
  Calls Tryz.prog 43 #[.agg #[.int .u8 y.kind,.slice y.rA y.rn y.rc,.slice y.bA y.bn y.bc,.int .i64 y.ch,.int .i64 y.high,.int .i64 y.wide,.int .i64 y.out,.int .i64 y.kh,.int .i64 y.kw,.int .i64 y.st,.int .i64 y.pad,.slice y.kA y.kn y.kc,.slice y.gA y.gn y.gc]] w fun e w'=>e=.returned (.tuple #[.int .i64 0,.int .i64 0,.bool false])∧Below w.heap.size w w':=by
 obtain⟨W,hW,x0,hB⟩:=zY w y;have HX0:=zh x0;clear x0;have Bz:=zr W;have pa3:=(zxb HX0 Bz).cell 3 (.int .i64 y.ch) rfl;go_enter Tryz.func43,Tryz.ntmps43
 go_wp2_with fail
 rw[←hW];clear hW;go_wp2_with fail
 with_reducible refine(zAr y.ch false Hch).mono ?_
 rintro e w1 ⟨rfl,b1⟩;replace b1:=zq (a:=W) b1;replace Bz:=bT Bz b1;clear b1;clear pa3;go_wp2_with fail
 go_ret3
 have hF:=bT (c:=w1) hB Bz;exact⟨rfl,bT hF⟩
theorem pic_1 {w:World} {y:Ly} (Hch:Hid ((decide (1≤y.ch)&&decide (y.ch≤256))=true)) (Hhigh:Hid ((decide (1≤y.high)&&decide (y.high≤256))=false)) :
  Calls Tryz.prog 43 #[.agg #[.int .u8 y.kind,.slice y.rA y.rn y.rc,.slice y.bA y.bn y.bc,.int .i64 y.ch,.int .i64 y.high,.int .i64 y.wide,.int .i64 y.out,.int .i64 y.kh,.int .i64 y.kw,.int .i64 y.st,.int .i64 y.pad,.slice y.kA y.kn y.kc,.slice y.gA y.gn y.gc]] w fun e w'=>e=.returned (.tuple #[.int .i64 0,.int .i64 0,.bool false])∧Below w.heap.size w w':=by
 obtain⟨W,hW,x0,hB⟩:=zY w y;have HX0:=zh x0;clear x0;have Bz:=zr W;have pa3:=(zxb HX0 Bz).cell 3 (.int .i64 y.ch) rfl;go_enter Tryz.func43,Tryz.ntmps43
 go_wp2_with fail
 rw[←hW];clear hW;go_wp2_with fail
 with_reducible refine(zAr y.ch true Hch).mono ?_
 rintro e w1 ⟨rfl,b1⟩;replace b1:=zq (a:=W) b1;replace Bz:=bT Bz b1;clear b1;clear pa3;have pa4:=(zxb HX0 Bz).cell 4 (.int .i64 y.high) rfl;go_wp2_with fail
 with_reducible refine(zAr y.high false Hhigh).mono ?_
 rintro e w2 ⟨rfl,b2⟩;replace b2:=zq (a:=w1) b2;replace Bz:=bT Bz b2;clear b2;clear pa4;go_wp2_with fail
 go_ret3
 have hF:=bT (c:=w2) hB Bz;exact⟨rfl,bT hF⟩
theorem pic_2 {w:World} {y:Ly} (Hch:Hid ((decide (1≤y.ch)&&decide (y.ch≤256))=true)) (Hhigh:Hid ((decide (1≤y.high)&&decide (y.high≤256))=true)) (Hwide:Hid ((decide (1≤y.wide)&&decide (y.wide≤256))=false)) :
  Calls Tryz.prog 43 #[.agg #[.int .u8 y.kind,.slice y.rA y.rn y.rc,.slice y.bA y.bn y.bc,.int .i64 y.ch,.int .i64 y.high,.int .i64 y.wide,.int .i64 y.out,.int .i64 y.kh,.int .i64 y.kw,.int .i64 y.st,.int .i64 y.pad,.slice y.kA y.kn y.kc,.slice y.gA y.gn y.gc]] w fun e w'=>e=.returned (.tuple #[.int .i64 0,.int .i64 0,.bool false])∧Below w.heap.size w w':=by
 obtain⟨W,hW,x0,hB⟩:=zY w y;have HX0:=zh x0;clear x0;have Bz:=zr W;have pa3:=(zxb HX0 Bz).cell 3 (.int .i64 y.ch) rfl;go_enter Tryz.func43,Tryz.ntmps43
 go_wp2_with fail
 rw[←hW];clear hW;go_wp2_with fail
 with_reducible refine(zAr y.ch true Hch).mono ?_
 rintro e w1 ⟨rfl,b1⟩;replace b1:=zq (a:=W) b1;replace Bz:=bT Bz b1;clear b1;clear pa3;have pa4:=(zxb HX0 Bz).cell 4 (.int .i64 y.high) rfl;go_wp2_with fail
 with_reducible refine(zAr y.high true Hhigh).mono ?_
 rintro e w2 ⟨rfl,b2⟩;replace b2:=zq (a:=w1) b2;replace Bz:=bT Bz b2;clear b2;clear pa4;have pa5:=(zxb HX0 Bz).cell 5 (.int .i64 y.wide) rfl;go_wp2_with fail
 with_reducible refine(zAr y.wide false Hwide).mono ?_
 rintro e w3 ⟨rfl,b3⟩;replace b3:=zq (a:=w2) b3;replace Bz:=bT Bz b3;clear b3;clear pa5;go_wp2_with fail
 go_ret3
 have hF:=bT (c:=w3) hB Bz;exact⟨rfl,bT hF⟩
theorem pic_3 {w:World} {y:Ly} (Hch:Hid ((decide (1≤y.ch)&&decide (y.ch≤256))=true)) (Hhigh:Hid ((decide (1≤y.high)&&decide (y.high≤256))=true)) (Hwide:Hid ((decide (1≤y.wide)&&decide (y.wide≤256))=true)) (Hout:Hid ((decide (1≤y.out)&&decide (y.out≤256))=false)) :
  Calls Tryz.prog 43 #[.agg #[.int .u8 y.kind,.slice y.rA y.rn y.rc,.slice y.bA y.bn y.bc,.int .i64 y.ch,.int .i64 y.high,.int .i64 y.wide,.int .i64 y.out,.int .i64 y.kh,.int .i64 y.kw,.int .i64 y.st,.int .i64 y.pad,.slice y.kA y.kn y.kc,.slice y.gA y.gn y.gc]] w fun e w'=>e=.returned (.tuple #[.int .i64 0,.int .i64 0,.bool false])∧Below w.heap.size w w':=by
 obtain⟨W,hW,x0,hB⟩:=zY w y;have HX0:=zh x0;clear x0;have Bz:=zr W;have pa3:=(zxb HX0 Bz).cell 3 (.int .i64 y.ch) rfl;go_enter Tryz.func43,Tryz.ntmps43
 go_wp2_with fail
 rw[←hW];clear hW;go_wp2_with fail
 with_reducible refine(zAr y.ch true Hch).mono ?_
 rintro e w1 ⟨rfl,b1⟩;replace b1:=zq (a:=W) b1;replace Bz:=bT Bz b1;clear b1;clear pa3;have pa4:=(zxb HX0 Bz).cell 4 (.int .i64 y.high) rfl;go_wp2_with fail
 with_reducible refine(zAr y.high true Hhigh).mono ?_
 rintro e w2 ⟨rfl,b2⟩;replace b2:=zq (a:=w1) b2;replace Bz:=bT Bz b2;clear b2;clear pa4;have pa5:=(zxb HX0 Bz).cell 5 (.int .i64 y.wide) rfl;go_wp2_with fail
 with_reducible refine(zAr y.wide true Hwide).mono ?_
 rintro e w3 ⟨rfl,b3⟩;replace b3:=zq (a:=w2) b3;replace Bz:=bT Bz b3;clear b3;clear pa5;have pa6:=(zxb HX0 Bz).cell 6 (.int .i64 y.out) rfl;go_wp2_with fail
 with_reducible refine(zAr y.out false Hout).mono ?_
 rintro e w4 ⟨rfl,b4⟩;replace b4:=zq (a:=w3) b4;replace Bz:=bT Bz b4;clear b4;clear pa6;go_wp2_with fail
 go_ret3
 have hF:=bT (c:=w4) hB Bz;exact⟨rfl,bT hF⟩
theorem pic_4 {w:World} {y:Ly} (Hch:Hid ((decide (1≤y.ch)&&decide (y.ch≤256))=true)) (Hhigh:Hid ((decide (1≤y.high)&&decide (y.high≤256))=true)) (Hwide:Hid ((decide (1≤y.wide)&&decide (y.wide≤256))=true)) (Hout:Hid ((decide (1≤y.out)&&decide (y.out≤256))=true)) (Hkh:Hid ((decide (1≤y.kh)&&decide (y.kh≤256))=false)) :
  Calls Tryz.prog 43 #[.agg #[.int .u8 y.kind,.slice y.rA y.rn y.rc,.slice y.bA y.bn y.bc,.int .i64 y.ch,.int .i64 y.high,.int .i64 y.wide,.int .i64 y.out,.int .i64 y.kh,.int .i64 y.kw,.int .i64 y.st,.int .i64 y.pad,.slice y.kA y.kn y.kc,.slice y.gA y.gn y.gc]] w fun e w'=>e=.returned (.tuple #[.int .i64 0,.int .i64 0,.bool false])∧Below w.heap.size w w':=by
 obtain⟨W,hW,x0,hB⟩:=zY w y;have HX0:=zh x0;clear x0;have Bz:=zr W;have pa3:=(zxb HX0 Bz).cell 3 (.int .i64 y.ch) rfl;go_enter Tryz.func43,Tryz.ntmps43
 go_wp2_with fail
 rw[←hW];clear hW;go_wp2_with fail
 with_reducible refine(zAr y.ch true Hch).mono ?_
 rintro e w1 ⟨rfl,b1⟩;replace b1:=zq (a:=W) b1;replace Bz:=bT Bz b1;clear b1;clear pa3;have pa4:=(zxb HX0 Bz).cell 4 (.int .i64 y.high) rfl;go_wp2_with fail
 with_reducible refine(zAr y.high true Hhigh).mono ?_
 rintro e w2 ⟨rfl,b2⟩;replace b2:=zq (a:=w1) b2;replace Bz:=bT Bz b2;clear b2;clear pa4;have pa5:=(zxb HX0 Bz).cell 5 (.int .i64 y.wide) rfl;go_wp2_with fail
 with_reducible refine(zAr y.wide true Hwide).mono ?_
 rintro e w3 ⟨rfl,b3⟩;replace b3:=zq (a:=w2) b3;replace Bz:=bT Bz b3;clear b3;clear pa5;have pa6:=(zxb HX0 Bz).cell 6 (.int .i64 y.out) rfl;go_wp2_with fail
 with_reducible refine(zAr y.out true Hout).mono ?_
 rintro e w4 ⟨rfl,b4⟩;replace b4:=zq (a:=w3) b4;replace Bz:=bT Bz b4;clear b4;clear pa6;have pa7:=(zxb HX0 Bz).cell 7 (.int .i64 y.kh) rfl;go_wp2_with fail
 with_reducible refine(zAr y.kh false Hkh).mono ?_
 rintro e w5 ⟨rfl,b5⟩;replace b5:=zq (a:=w4) b5;replace Bz:=bT Bz b5;clear b5;clear pa7;go_wp2_with fail
 go_ret3
 have hF:=bT (c:=w5) hB Bz;exact⟨rfl,bT hF⟩
theorem pic_5 {w:World} {y:Ly} (Hch:Hid ((decide (1≤y.ch)&&decide (y.ch≤256))=true)) (Hhigh:Hid ((decide (1≤y.high)&&decide (y.high≤256))=true)) (Hwide:Hid ((decide (1≤y.wide)&&decide (y.wide≤256))=true)) (Hout:Hid ((decide (1≤y.out)&&decide (y.out≤256))=true)) (Hkh:Hid ((decide (1≤y.kh)&&decide (y.kh≤256))=true)) (Hkw:Hid ((decide (1≤y.kw)&&decide (y.kw≤256))=false)) :
  Calls Tryz.prog 43 #[.agg #[.int .u8 y.kind,.slice y.rA y.rn y.rc,.slice y.bA y.bn y.bc,.int .i64 y.ch,.int .i64 y.high,.int .i64 y.wide,.int .i64 y.out,.int .i64 y.kh,.int .i64 y.kw,.int .i64 y.st,.int .i64 y.pad,.slice y.kA y.kn y.kc,.slice y.gA y.gn y.gc]] w fun e w'=>e=.returned (.tuple #[.int .i64 0,.int .i64 0,.bool false])∧Below w.heap.size w w':=by
 obtain⟨W,hW,x0,hB⟩:=zY w y;have HX0:=zh x0;clear x0;have Bz:=zr W;have pa3:=(zxb HX0 Bz).cell 3 (.int .i64 y.ch) rfl;go_enter Tryz.func43,Tryz.ntmps43
 go_wp2_with fail
 rw[←hW];clear hW;go_wp2_with fail
 with_reducible refine(zAr y.ch true Hch).mono ?_
 rintro e w1 ⟨rfl,b1⟩;replace b1:=zq (a:=W) b1;replace Bz:=bT Bz b1;clear b1;clear pa3;have pa4:=(zxb HX0 Bz).cell 4 (.int .i64 y.high) rfl;go_wp2_with fail
 with_reducible refine(zAr y.high true Hhigh).mono ?_
 rintro e w2 ⟨rfl,b2⟩;replace b2:=zq (a:=w1) b2;replace Bz:=bT Bz b2;clear b2;clear pa4;have pa5:=(zxb HX0 Bz).cell 5 (.int .i64 y.wide) rfl;go_wp2_with fail
 with_reducible refine(zAr y.wide true Hwide).mono ?_
 rintro e w3 ⟨rfl,b3⟩;replace b3:=zq (a:=w2) b3;replace Bz:=bT Bz b3;clear b3;clear pa5;have pa6:=(zxb HX0 Bz).cell 6 (.int .i64 y.out) rfl;go_wp2_with fail
 with_reducible refine(zAr y.out true Hout).mono ?_
 rintro e w4 ⟨rfl,b4⟩;replace b4:=zq (a:=w3) b4;replace Bz:=bT Bz b4;clear b4;clear pa6;have pa7:=(zxb HX0 Bz).cell 7 (.int .i64 y.kh) rfl;go_wp2_with fail
 with_reducible refine(zAr y.kh true Hkh).mono ?_
 rintro e w5 ⟨rfl,b5⟩;replace b5:=zq (a:=w4) b5;replace Bz:=bT Bz b5;clear b5;clear pa7;have pa8:=(zxb HX0 Bz).cell 8 (.int .i64 y.kw) rfl;go_wp2_with fail
 with_reducible refine(zAr y.kw false Hkw).mono ?_
 rintro e w6 ⟨rfl,b6⟩;replace b6:=zq (a:=w5) b6;replace Bz:=bT Bz b6;clear b6;clear pa8;go_wp2_with fail
 go_ret3
 have hF:=bT (c:=w6) hB Bz;exact⟨rfl,bT hF⟩
theorem pic_6 {w:World} {y:Ly} (Hch:Hid ((decide (1≤y.ch)&&decide (y.ch≤256))=true)) (Hhigh:Hid ((decide (1≤y.high)&&decide (y.high≤256))=true)) (Hwide:Hid ((decide (1≤y.wide)&&decide (y.wide≤256))=true)) (Hout:Hid ((decide (1≤y.out)&&decide (y.out≤256))=true)) (Hkh:Hid ((decide (1≤y.kh)&&decide (y.kh≤256))=true)) (Hkw:Hid ((decide (1≤y.kw)&&decide (y.kw≤256))=true)) (Hst:Hid ((decide (1≤y.st)&&decide (y.st≤256))=false)) :
  Calls Tryz.prog 43 #[.agg #[.int .u8 y.kind,.slice y.rA y.rn y.rc,.slice y.bA y.bn y.bc,.int .i64 y.ch,.int .i64 y.high,.int .i64 y.wide,.int .i64 y.out,.int .i64 y.kh,.int .i64 y.kw,.int .i64 y.st,.int .i64 y.pad,.slice y.kA y.kn y.kc,.slice y.gA y.gn y.gc]] w fun e w'=>e=.returned (.tuple #[.int .i64 0,.int .i64 0,.bool false])∧Below w.heap.size w w':=by
 obtain⟨W,hW,x0,hB⟩:=zY w y;have HX0:=zh x0;clear x0;have Bz:=zr W;have pa3:=(zxb HX0 Bz).cell 3 (.int .i64 y.ch) rfl;go_enter Tryz.func43,Tryz.ntmps43
 go_wp2_with fail
 rw[←hW];clear hW;go_wp2_with fail
 with_reducible refine(zAr y.ch true Hch).mono ?_
 rintro e w1 ⟨rfl,b1⟩;replace b1:=zq (a:=W) b1;replace Bz:=bT Bz b1;clear b1;clear pa3;have pa4:=(zxb HX0 Bz).cell 4 (.int .i64 y.high) rfl;go_wp2_with fail
 with_reducible refine(zAr y.high true Hhigh).mono ?_
 rintro e w2 ⟨rfl,b2⟩;replace b2:=zq (a:=w1) b2;replace Bz:=bT Bz b2;clear b2;clear pa4;have pa5:=(zxb HX0 Bz).cell 5 (.int .i64 y.wide) rfl;go_wp2_with fail
 with_reducible refine(zAr y.wide true Hwide).mono ?_
 rintro e w3 ⟨rfl,b3⟩;replace b3:=zq (a:=w2) b3;replace Bz:=bT Bz b3;clear b3;clear pa5;have pa6:=(zxb HX0 Bz).cell 6 (.int .i64 y.out) rfl;go_wp2_with fail
 with_reducible refine(zAr y.out true Hout).mono ?_
 rintro e w4 ⟨rfl,b4⟩;replace b4:=zq (a:=w3) b4;replace Bz:=bT Bz b4;clear b4;clear pa6;have pa7:=(zxb HX0 Bz).cell 7 (.int .i64 y.kh) rfl;go_wp2_with fail
 with_reducible refine(zAr y.kh true Hkh).mono ?_
 rintro e w5 ⟨rfl,b5⟩;replace b5:=zq (a:=w4) b5;replace Bz:=bT Bz b5;clear b5;clear pa7;have pa8:=(zxb HX0 Bz).cell 8 (.int .i64 y.kw) rfl;go_wp2_with fail
 with_reducible refine(zAr y.kw true Hkw).mono ?_
 rintro e w6 ⟨rfl,b6⟩;replace b6:=zq (a:=w5) b6;replace Bz:=bT Bz b6;clear b6;clear pa8;have pa9:=(zxb HX0 Bz).cell 9 (.int .i64 y.st) rfl;go_wp2_with fail
 with_reducible refine(zAr y.st false Hst).mono ?_
 rintro e w7 ⟨rfl,b7⟩;replace b7:=zq (a:=w6) b7;replace Bz:=bT Bz b7;clear b7;clear pa9;go_wp2_with fail
 go_ret3
 have hF:=bT (c:=w7) hB Bz;exact⟨rfl,bT hF⟩
theorem pic_7 {w:World} {y:Ly} (Hch:Hid ((decide (1≤y.ch)&&decide (y.ch≤256))=true)) (Hhigh:Hid ((decide (1≤y.high)&&decide (y.high≤256))=true)) (Hwide:Hid ((decide (1≤y.wide)&&decide (y.wide≤256))=true)) (Hout:Hid ((decide (1≤y.out)&&decide (y.out≤256))=true)) (Hkh:Hid ((decide (1≤y.kh)&&decide (y.kh≤256))=true)) (Hkw:Hid ((decide (1≤y.kw)&&decide (y.kw≤256))=true)) (Hst:Hid ((decide (1≤y.st)&&decide (y.st≤256))=true)) (g1:decide (y.pad<0)=true) :
  Calls Tryz.prog 43 #[.agg #[.int .u8 y.kind,.slice y.rA y.rn y.rc,.slice y.bA y.bn y.bc,.int .i64 y.ch,.int .i64 y.high,.int .i64 y.wide,.int .i64 y.out,.int .i64 y.kh,.int .i64 y.kw,.int .i64 y.st,.int .i64 y.pad,.slice y.kA y.kn y.kc,.slice y.gA y.gn y.gc]] w fun e w'=>e=.returned (.tuple #[.int .i64 0,.int .i64 0,.bool false])∧Below w.heap.size w w':=by
 obtain⟨W,hW,x0,hB⟩:=zY w y;have HX0:=zh x0;clear x0;have Bz:=zr W;have pa3:=(zxb HX0 Bz).cell 3 (.int .i64 y.ch) rfl;go_enter Tryz.func43,Tryz.ntmps43
 go_wp2_with fail
 rw[←hW];clear hW;go_wp2_with fail
 with_reducible refine(zAr y.ch true Hch).mono ?_
 rintro e w1 ⟨rfl,b1⟩;replace b1:=zq (a:=W) b1;replace Bz:=bT Bz b1;clear b1;clear pa3;have pa4:=(zxb HX0 Bz).cell 4 (.int .i64 y.high) rfl;go_wp2_with fail
 with_reducible refine(zAr y.high true Hhigh).mono ?_
 rintro e w2 ⟨rfl,b2⟩;replace b2:=zq (a:=w1) b2;replace Bz:=bT Bz b2;clear b2;clear pa4;have pa5:=(zxb HX0 Bz).cell 5 (.int .i64 y.wide) rfl;go_wp2_with fail
 with_reducible refine(zAr y.wide true Hwide).mono ?_
 rintro e w3 ⟨rfl,b3⟩;replace b3:=zq (a:=w2) b3;replace Bz:=bT Bz b3;clear b3;clear pa5;have pa6:=(zxb HX0 Bz).cell 6 (.int .i64 y.out) rfl;go_wp2_with fail
 with_reducible refine(zAr y.out true Hout).mono ?_
 rintro e w4 ⟨rfl,b4⟩;replace b4:=zq (a:=w3) b4;replace Bz:=bT Bz b4;clear b4;clear pa6;have pa7:=(zxb HX0 Bz).cell 7 (.int .i64 y.kh) rfl;go_wp2_with fail
 with_reducible refine(zAr y.kh true Hkh).mono ?_
 rintro e w5 ⟨rfl,b5⟩;replace b5:=zq (a:=w4) b5;replace Bz:=bT Bz b5;clear b5;clear pa7;have pa8:=(zxb HX0 Bz).cell 8 (.int .i64 y.kw) rfl;go_wp2_with fail
 with_reducible refine(zAr y.kw true Hkw).mono ?_
 rintro e w6 ⟨rfl,b6⟩;replace b6:=zq (a:=w5) b6;replace Bz:=bT Bz b6;clear b6;clear pa8;have pa9:=(zxb HX0 Bz).cell 9 (.int .i64 y.st) rfl;go_wp2_with fail
 with_reducible refine(zAr y.st true Hst).mono ?_
 rintro e w7 ⟨rfl,b7⟩;replace b7:=zq (a:=w6) b7;replace Bz:=bT Bz b7;clear b7;clear pa9;have paa:=(zxb HX0 Bz).cell 10 (.int .i64 y.pad) rfl;go_wp2_with fail
 go_ret3
 have hF:=bT (c:=w7) hB Bz;exact⟨rfl,bT hF⟩
theorem pic_8 {w:World} {y:Ly} (Hch:Hid ((decide (1≤y.ch)&&decide (y.ch≤256))=true)) (Hhigh:Hid ((decide (1≤y.high)&&decide (y.high≤256))=true)) (Hwide:Hid ((decide (1≤y.wide)&&decide (y.wide≤256))=true)) (Hout:Hid ((decide (1≤y.out)&&decide (y.out≤256))=true)) (Hkh:Hid ((decide (1≤y.kh)&&decide (y.kh≤256))=true)) (Hkw:Hid ((decide (1≤y.kw)&&decide (y.kw≤256))=true)) (Hst:Hid ((decide (1≤y.st)&&decide (y.st≤256))=true)) (g1:decide (y.pad<0)=false) (g2:decide (y.kh≤y.pad)=true) :
  Calls Tryz.prog 43 #[.agg #[.int .u8 y.kind,.slice y.rA y.rn y.rc,.slice y.bA y.bn y.bc,.int .i64 y.ch,.int .i64 y.high,.int .i64 y.wide,.int .i64 y.out,.int .i64 y.kh,.int .i64 y.kw,.int .i64 y.st,.int .i64 y.pad,.slice y.kA y.kn y.kc,.slice y.gA y.gn y.gc]] w fun e w'=>e=.returned (.tuple #[.int .i64 0,.int .i64 0,.bool false])∧Below w.heap.size w w':=by
 obtain⟨W,hW,x0,hB⟩:=zY w y;have HX0:=zh x0;clear x0;have Bz:=zr W;have pa3:=(zxb HX0 Bz).cell 3 (.int .i64 y.ch) rfl;go_enter Tryz.func43,Tryz.ntmps43
 go_wp2_with fail
 rw[←hW];clear hW;go_wp2_with fail
 with_reducible refine(zAr y.ch true Hch).mono ?_
 rintro e w1 ⟨rfl,b1⟩;replace b1:=zq (a:=W) b1;replace Bz:=bT Bz b1;clear b1;clear pa3;have pa4:=(zxb HX0 Bz).cell 4 (.int .i64 y.high) rfl;go_wp2_with fail
 with_reducible refine(zAr y.high true Hhigh).mono ?_
 rintro e w2 ⟨rfl,b2⟩;replace b2:=zq (a:=w1) b2;replace Bz:=bT Bz b2;clear b2;clear pa4;have pa5:=(zxb HX0 Bz).cell 5 (.int .i64 y.wide) rfl;go_wp2_with fail
 with_reducible refine(zAr y.wide true Hwide).mono ?_
 rintro e w3 ⟨rfl,b3⟩;replace b3:=zq (a:=w2) b3;replace Bz:=bT Bz b3;clear b3;clear pa5;have pa6:=(zxb HX0 Bz).cell 6 (.int .i64 y.out) rfl;go_wp2_with fail
 with_reducible refine(zAr y.out true Hout).mono ?_
 rintro e w4 ⟨rfl,b4⟩;replace b4:=zq (a:=w3) b4;replace Bz:=bT Bz b4;clear b4;clear pa6;have pa7:=(zxb HX0 Bz).cell 7 (.int .i64 y.kh) rfl;go_wp2_with fail
 with_reducible refine(zAr y.kh true Hkh).mono ?_
 rintro e w5 ⟨rfl,b5⟩;replace b5:=zq (a:=w4) b5;replace Bz:=bT Bz b5;clear b5;clear pa7;have pa8:=(zxb HX0 Bz).cell 8 (.int .i64 y.kw) rfl;go_wp2_with fail
 with_reducible refine(zAr y.kw true Hkw).mono ?_
 rintro e w6 ⟨rfl,b6⟩;replace b6:=zq (a:=w5) b6;replace Bz:=bT Bz b6;clear b6;clear pa8;have pa9:=(zxb HX0 Bz).cell 9 (.int .i64 y.st) rfl;go_wp2_with fail
 with_reducible refine(zAr y.st true Hst).mono ?_
 rintro e w7 ⟨rfl,b7⟩;replace b7:=zq (a:=w6) b7;replace Bz:=bT Bz b7;clear b7;clear pa9;obtain⟨-,-,-,-,-,-,-,pa7,-,-,paa,-⟩:=(zxb HX0 Bz).cz;go_wp2_with fail
 go_ret3
 have hF:=bT (c:=w7) hB Bz;exact⟨rfl,bT hF⟩
theorem pic_9 {w:World} {y:Ly} (Hch:Hid ((decide (1≤y.ch)&&decide (y.ch≤256))=true)) (Hhigh:Hid ((decide (1≤y.high)&&decide (y.high≤256))=true)) (Hwide:Hid ((decide (1≤y.wide)&&decide (y.wide≤256))=true)) (Hout:Hid ((decide (1≤y.out)&&decide (y.out≤256))=true)) (Hkh:Hid ((decide (1≤y.kh)&&decide (y.kh≤256))=true)) (Hkw:Hid ((decide (1≤y.kw)&&decide (y.kw≤256))=true)) (Hst:Hid ((decide (1≤y.st)&&decide (y.st≤256))=true)) (g1:decide (y.pad<0)=false) (g2:decide (y.kh≤y.pad)=false) (g3:decide (y.kw≤y.pad)=true) :
  Calls Tryz.prog 43 #[.agg #[.int .u8 y.kind,.slice y.rA y.rn y.rc,.slice y.bA y.bn y.bc,.int .i64 y.ch,.int .i64 y.high,.int .i64 y.wide,.int .i64 y.out,.int .i64 y.kh,.int .i64 y.kw,.int .i64 y.st,.int .i64 y.pad,.slice y.kA y.kn y.kc,.slice y.gA y.gn y.gc]] w fun e w'=>e=.returned (.tuple #[.int .i64 0,.int .i64 0,.bool false])∧Below w.heap.size w w':=by
 obtain⟨W,hW,x0,hB⟩:=zY w y;have HX0:=zh x0;clear x0;have Bz:=zr W;have pa3:=(zxb HX0 Bz).cell 3 (.int .i64 y.ch) rfl;go_enter Tryz.func43,Tryz.ntmps43
 go_wp2_with fail
 rw[←hW];clear hW;go_wp2_with fail
 with_reducible refine(zAr y.ch true Hch).mono ?_
 rintro e w1 ⟨rfl,b1⟩;replace b1:=zq (a:=W) b1;replace Bz:=bT Bz b1;clear b1;clear pa3;have pa4:=(zxb HX0 Bz).cell 4 (.int .i64 y.high) rfl;go_wp2_with fail
 with_reducible refine(zAr y.high true Hhigh).mono ?_
 rintro e w2 ⟨rfl,b2⟩;replace b2:=zq (a:=w1) b2;replace Bz:=bT Bz b2;clear b2;clear pa4;have pa5:=(zxb HX0 Bz).cell 5 (.int .i64 y.wide) rfl;go_wp2_with fail
 with_reducible refine(zAr y.wide true Hwide).mono ?_
 rintro e w3 ⟨rfl,b3⟩;replace b3:=zq (a:=w2) b3;replace Bz:=bT Bz b3;clear b3;clear pa5;have pa6:=(zxb HX0 Bz).cell 6 (.int .i64 y.out) rfl;go_wp2_with fail
 with_reducible refine(zAr y.out true Hout).mono ?_
 rintro e w4 ⟨rfl,b4⟩;replace b4:=zq (a:=w3) b4;replace Bz:=bT Bz b4;clear b4;clear pa6;have pa7:=(zxb HX0 Bz).cell 7 (.int .i64 y.kh) rfl;go_wp2_with fail
 with_reducible refine(zAr y.kh true Hkh).mono ?_
 rintro e w5 ⟨rfl,b5⟩;replace b5:=zq (a:=w4) b5;replace Bz:=bT Bz b5;clear b5;clear pa7;have pa8:=(zxb HX0 Bz).cell 8 (.int .i64 y.kw) rfl;go_wp2_with fail
 with_reducible refine(zAr y.kw true Hkw).mono ?_
 rintro e w6 ⟨rfl,b6⟩;replace b6:=zq (a:=w5) b6;replace Bz:=bT Bz b6;clear b6;clear pa8;have pa9:=(zxb HX0 Bz).cell 9 (.int .i64 y.st) rfl;go_wp2_with fail
 with_reducible refine(zAr y.st true Hst).mono ?_
 rintro e w7 ⟨rfl,b7⟩;replace b7:=zq (a:=w6) b7;replace Bz:=bT Bz b7;clear b7;clear pa9;obtain⟨-,-,-,-,-,-,-,pa7,pa8,-,paa,-⟩:=(zxb HX0 Bz).cz;go_wp2_with fail
 go_ret3
 have hF:=bT (c:=w7) hB Bz;exact⟨rfl,bT hF⟩
theorem pic_no {w:World} {y:Ly} (h:picOk y=false) :
  Calls Tryz.prog 43 #[.agg #[.int .u8 y.kind,.slice y.rA y.rn y.rc,.slice y.bA y.bn y.bc,.int .i64 y.ch,.int .i64 y.high,.int .i64 y.wide,.int .i64 y.out,.int .i64 y.kh,.int .i64 y.kw,.int .i64 y.st,.int .i64 y.pad,.slice y.kA y.kn y.kc,.slice y.gA y.gn y.gc]] w fun e w'=>e=.returned (.tuple #[.int .i64 0,.int .i64 0,.bool false])∧Below w.heap.size w w':=by
 unfold picOk sides at h
 simp only[List.all_cons,List.all_nil,Bool.and_true] at h
 cases hch:(decide (1≤y.ch)&&decide (y.ch≤256))
 ·exact pic_0 (zh hch)
 cases hhigh:(decide (1≤y.high)&&decide (y.high≤256))
 ·exact pic_1 (zh hch) (zh hhigh)
 cases hwide:(decide (1≤y.wide)&&decide (y.wide≤256))
 ·exact pic_2 (zh hch) (zh hhigh) (zh hwide)
 cases hout:(decide (1≤y.out)&&decide (y.out≤256))
 ·exact pic_3 (zh hch) (zh hhigh) (zh hwide) (zh hout)
 cases hkh:(decide (1≤y.kh)&&decide (y.kh≤256))
 ·exact pic_4 (zh hch) (zh hhigh) (zh hwide) (zh hout) (zh hkh)
 cases hkw:(decide (1≤y.kw)&&decide (y.kw≤256))
 ·exact pic_5 (zh hch) (zh hhigh) (zh hwide) (zh hout) (zh hkh) (zh hkw)
 cases hst:(decide (1≤y.st)&&decide (y.st≤256))
 ·exact pic_6 (zh hch) (zh hhigh) (zh hwide) (zh hout) (zh hkh) (zh hkw) (zh hst)
 cases hg1:decide (y.pad<0);rotate_left
 ·exact pic_7 (zh hch) (zh hhigh) (zh hwide) (zh hout) (zh hkh) (zh hkw) (zh hst) hg1
 cases hg2:decide (y.kh≤y.pad);rotate_left
 ·exact pic_8 (zh hch) (zh hhigh) (zh hwide) (zh hout) (zh hkh) (zh hkw) (zh hst) hg1 hg2
 cases hg3:decide (y.kw≤y.pad);rotate_left
 ·exact pic_9 (zh hch) (zh hhigh) (zh hwide) (zh hout) (zh hkh) (zh hkw) (zh hst) hg1 hg2 hg3
 rw[hch,hhigh,hwide,hout,hkh,hkw,hst] at h;have e1:=of_decide_eq_false hg1;have e2:=of_decide_eq_false hg2;have e3:=of_decide_eq_false hg3;rw[decide_eq_true (show 0≤y.pad by omega),decide_eq_true (show y.pad<y.kh by omega),decide_eq_true (show y.pad<y.kw by omega)] at h;cases h
def PC1 (w:World) (cs:Array Value) (h st:Int) (gk:Nat) (s5 s6:Value) (wr:World):Prop :=
 ∃(k:Nat) (at_:Int),s5=.int .i64 (k:Int)∧s6=.int .i64 at_∧at_=(k:Int)*st∧((k:Int)=0∨at_-st≤h)∧0≤at_∧(k:Int)≤at_∧1000-k≤gk∧Bx wr w.heap.size cs 49∧Below w.heap.size w wr
theorem pic_yes {w:World} {y:Ly} (h:picOk y=true) :
  Calls Tryz.prog 43 #[.agg #[.int .u8 y.kind,.slice y.rA y.rn y.rc,.slice y.bA y.bn y.bc,.int .i64 y.ch,.int .i64 y.high,.int .i64 y.wide,.int .i64 y.out,.int .i64 y.kh,.int .i64 y.kw,.int .i64 y.st,.int .i64 y.pad,.slice y.kA y.kn y.kc,.slice y.gA y.gn y.gc]] w fun e w'=>e=.returned (.tuple #[.int .i64 (cnt (cHigh y) y.st),.int .i64 (cnt (cWide y) y.st),.bool (decide (0<cnt (cHigh y) y.st)&&decide (0<cnt (cWide y) y.st))])∧Below w.heap.size w w':=by
 unfold picOk at h
 rw[Bool.and_eq_true] at h;obtain⟨h1,h2⟩:=h;obtain⟨k1,k2,k3,k4,k5,k6,k7⟩:=sides_ok h1;have hs:=List.all_eq_true.1 h1;rw[Bool.and_eq_true,Bool.and_eq_true,decide_eq_true_eq,decide_eq_true_eq,decide_eq_true_eq] at h2;obtain⟨p1,p2,p3⟩:=h2;have Hch:Hid ((decide (1≤y.ch)&&decide (y.ch≤256))=true):=zh (hs _ (by unfold sides;simp));have Hhigh:Hid ((decide (1≤y.high)&&decide (y.high≤256))=true):=zh (hs _ (by unfold sides;simp));have Hwide:Hid ((decide (1≤y.wide)&&decide (y.wide≤256))=true):=zh (hs _ (by unfold sides;simp));have Hout:Hid ((decide (1≤y.out)&&decide (y.out≤256))=true):=zh (hs _ (by unfold sides;simp));have Hkh:Hid ((decide (1≤y.kh)&&decide (y.kh≤256))=true):=zh (hs _ (by unfold sides;simp));have Hkw:Hid ((decide (1≤y.kw)&&decide (y.kw≤256))=true):=zh (hs _ (by unfold sides;simp));have Hst:Hid ((decide (1≤y.st)&&decide (y.st≤256))=true):=zh (hs _ (by unfold sides;simp));have g1:decide (y.pad<0)=false:=decide_eq_false zo;have g2:decide (y.kh≤y.pad)=false:=decide_eq_false zo;have g3:decide (y.kw≤y.pad)=false:=decide_eq_false zo;clear hs h1;obtain⟨W,hW,x0,hB⟩:=zY w y;have HX0:=zh x0;clear x0;have Bz:=zr W;have pa3:=(zxb HX0 Bz).cell 3 (.int .i64 y.ch) rfl;go_enter Tryz.func43,Tryz.ntmps43
 go_wp2_with fail
 rw[←hW];clear hW;go_wp2_with fail
 with_reducible refine(zAr y.ch true Hch).mono ?_
 rintro e w1 ⟨rfl,b1⟩;replace b1:=zq (a:=W) b1;replace Bz:=bT Bz b1;clear b1;clear pa3;have pa4:=(zxb HX0 Bz).cell 4 (.int .i64 y.high) rfl;go_wp2_with fail
 with_reducible refine(zAr y.high true Hhigh).mono ?_
 rintro e w2 ⟨rfl,b2⟩;replace b2:=zq (a:=w1) b2;replace Bz:=bT Bz b2;clear b2;clear pa4;have pa5:=(zxb HX0 Bz).cell 5 (.int .i64 y.wide) rfl;go_wp2_with fail
 with_reducible refine(zAr y.wide true Hwide).mono ?_
 rintro e w3 ⟨rfl,b3⟩;replace b3:=zq (a:=w2) b3;replace Bz:=bT Bz b3;clear b3;clear pa5;have pa6:=(zxb HX0 Bz).cell 6 (.int .i64 y.out) rfl;go_wp2_with fail
 with_reducible refine(zAr y.out true Hout).mono ?_
 rintro e w4 ⟨rfl,b4⟩;replace b4:=zq (a:=w3) b4;replace Bz:=bT Bz b4;clear b4;clear pa6;have pa7:=(zxb HX0 Bz).cell 7 (.int .i64 y.kh) rfl;go_wp2_with fail
 with_reducible refine(zAr y.kh true Hkh).mono ?_
 rintro e w5 ⟨rfl,b5⟩;replace b5:=zq (a:=w4) b5;replace Bz:=bT Bz b5;clear b5;clear pa7;have pa8:=(zxb HX0 Bz).cell 8 (.int .i64 y.kw) rfl;go_wp2_with fail
 with_reducible refine(zAr y.kw true Hkw).mono ?_
 rintro e w6 ⟨rfl,b6⟩;replace b6:=zq (a:=w5) b6;replace Bz:=bT Bz b6;clear b6;clear pa8;have pa9:=(zxb HX0 Bz).cell 9 (.int .i64 y.st) rfl;go_wp2_with fail
 with_reducible refine(zAr y.st true Hst).mono ?_
 rintro e w7 ⟨rfl,b7⟩;replace b7:=zq (a:=w6) b7;replace Bz:=bT Bz b7;clear b7;clear pa9;obtain⟨-,-,-,-,-,-,-,pa7,pa8,-,paa,-⟩:=(zxb HX0 Bz).cz;go_wp2_with fail
 have HB1:=zh (bT hB Bz);have XX0:=zh (zxb HX0 Bz);clear hB Bz HX0;go_loopg [5,6] 1000 (fun gk s5 s6 wr=>PC1 w #[.int .u8 y.kind,.slice y.rA y.rn y.rc,.slice y.bA y.bn y.bc,.int .i64 y.ch,.int .i64 y.high,.int .i64 y.wide,.int .i64 y.out,.int .i64 y.kh,.int .i64 y.kw,.int .i64 y.st,.int .i64 y.pad,.slice y.kA y.kn y.kc,.slice y.gA y.gn y.gc] (cHigh y) y.st gk s5 s6 wr)
 case atStart=>exact⟨0,0,by go_num,by go_num,by simp,.inl rfl,zo,zo,zo,XX0.out.below (by go_grown),bT HB1.out⟩
 case round =>
  clear HB1 XX0;obtain⟨k,at_,rfl,rfl,ha,hpv,h0,hka,hgk,hx0,hB⟩:=hrel;have HX0:=zh hx0;clear hx0;have hab:at_≤1100:=by
   rcases hpv with e | e
   ·rw[e,Int.zero_mul] at ha;omega
   ·unfold cHigh at e;omega
  have w1:IntKind.i64.wrap (at_+y.kh)=at_+y.kh:=IntWalk.i64_in _ zo;have w2:IntKind.i64.wrap (2*y.pad)=2*y.pad:=IntWalk.i64_in _ zo;have w3:IntKind.i64.wrap (y.high+2*y.pad)=y.high+2*y.pad:=IntWalk.i64_in _ zo;have ws:IntKind.i64.wrap (at_+y.st)=at_+y.st:=IntWalk.i64_in _ zo;have HA2:Hid (at_+y.st=((k+1:Nat):Int)*y.st):=zh (by rw[show((k+1:Nat):Int)=(k:Int)+1 by omega,Int.add_mul,Int.one_mul,ha]);have HA:=zh ha;have HPV:=zh hpv;clear ha hpv;by_cases hc:at_+y.kh≤y.high+2*y.pad
  ·have hpc:at_≤cHigh y:=by unfold cHigh;omega
   clear HPV HA;have Bz:=zr wr;obtain⟨-,-,-,-,pa4,-,-,pa7,-,pa9,paa,-⟩:=(zxb HX0 Bz).cz;go_wp2_with fail
   go_roundg (1000-(k+1))
   case measure=>omega
   case rel=>exact⟨k+1,at_+y.st,by go_num,by go_num,HA2.out,.inr zo,zo,zo,zo,HX0.out.below (bT Bz),bT (bT hB Bz)⟩
  ·have HK0:Hid ((k:Int)=cnt (cHigh y) y.st):=zh (cnt_of HA.out HPV.out (by unfold cHigh;omega) zo zo);clear HPV HA HA2;have g8:¬at_+y.kh≤y.high+2*y.pad:=hc;have Bz:=zr wr;obtain⟨-,-,-,-,pa4,-,-,pa7,-,-,paa,-⟩:=(zxb HX0 Bz).cz;go_wp2_with fail
   obtain⟨k0,hk0⟩:∃k0,k0=k:=⟨_,rfl⟩;rw[←hk0] at HK0;rw[←hk0];have HB1:=zh (bT hB Bz);have XX0:=zh (zxb HX0 Bz);clear hB Bz HX0 hk0 hgk hka h0 hab w1 w2 w3 ws hc g8;go_loopg [7,8] 1000 (fun gk s5 s6 wr=>PC1 w #[.int .u8 y.kind,.slice y.rA y.rn y.rc,.slice y.bA y.bn y.bc,.int .i64 y.ch,.int .i64 y.high,.int .i64 y.wide,.int .i64 y.out,.int .i64 y.kh,.int .i64 y.kw,.int .i64 y.st,.int .i64 y.pad,.slice y.kA y.kn y.kc,.slice y.gA y.gn y.gc] (cWide y) y.st gk s5 s6 wr)
   case atStart=>exact⟨0,0,by go_num,by go_num,by simp,.inl rfl,zo,zo,zo,XX0.out.below (by go_grown),bT HB1.out⟩
   case round =>
    clear HB1 XX0;obtain⟨k,at_,rfl,rfl,ha,hpv,h0,hka,hgk,hx0,hB⟩:=hrel;have HX0:=zh hx0;clear hx0;have hab:at_≤1100:=by
     rcases hpv with e | e
     ·rw[e,Int.zero_mul] at ha;omega
     ·unfold cWide at e;omega
    have w1:IntKind.i64.wrap (at_+y.kw)=at_+y.kw:=IntWalk.i64_in _ zo;have w2:IntKind.i64.wrap (2*y.pad)=2*y.pad:=IntWalk.i64_in _ zo;have w3:IntKind.i64.wrap (y.wide+2*y.pad)=y.wide+2*y.pad:=IntWalk.i64_in _ zo;have ws:IntKind.i64.wrap (at_+y.st)=at_+y.st:=IntWalk.i64_in _ zo;have HA2:Hid (at_+y.st=((k+1:Nat):Int)*y.st):=zh (by rw[show((k+1:Nat):Int)=(k:Int)+1 by omega,Int.add_mul,Int.one_mul,ha]);have HA:=zh ha;have HPV:=zh hpv;clear ha hpv;by_cases hc:at_+y.kw≤y.wide+2*y.pad
    ·have hpc:at_≤cWide y:=by unfold cWide;omega
     clear HPV HA;have Bz:=zr wr;obtain⟨-,-,-,-,-,pa5,-,-,pa8,pa9,paa,-⟩:=(zxb HX0 Bz).cz;go_wp2_with fail
     go_roundg (1000-(k+1))
     case measure=>omega
     case rel=>exact⟨k+1,at_+y.st,by go_num,by go_num,HA2.out,.inr zo,zo,zo,zo,HX0.out.below (bT Bz),bT (bT hB Bz)⟩
    ·have HK1:Hid ((k:Int)=cnt (cWide y) y.st):=zh (cnt_of HA.out HPV.out (by unfold cWide;omega) zo zo);clear HPV HA HA2;have g9:¬at_+y.kw≤y.wide+2*y.pad:=hc;by_cases r0:(0:Int)<(k0:Int)
     ·have HRES:Hid ((.tuple #[.int .i64 (k0:Int),.int .i64 (k:Int),.bool (decide (0<k))]:Value)=.tuple #[.int .i64 (cnt (cHigh y) y.st),.int .i64 (cnt (cWide y) y.st),.bool (decide (0<cnt (cHigh y) y.st)&&decide (0<cnt (cWide y) y.st))]):=zh (by rw[←HK0.out,←HK1.out,decide_eq_true r0,Bool.true_and,show decide ((0:Int)<(k:Int))=decide (0<k) from decide_eq_decide.2 zo]);have Bz:=zr wr;obtain⟨-,-,-,-,-,pa5,-,-,pa8,-,paa,-⟩:=(zxb HX0 Bz).cz;go_wp2_with fail
      go_ret3
      have hF:=bT (c:=wr) hB Bz;exact⟨congrArg Ending.returned HRES.out,bT hF⟩
     ·have HRES:Hid ((.tuple #[.int .i64 (k0:Int),.int .i64 (k:Int),.bool false]:Value)=.tuple #[.int .i64 (cnt (cHigh y) y.st),.int .i64 (cnt (cWide y) y.st),.bool (decide (0<cnt (cHigh y) y.st)&&decide (0<cnt (cWide y) y.st))]):=zh (by rw[←HK0.out,←HK1.out,decide_eq_false r0,Bool.false_and]);have Bz:=zr wr;obtain⟨-,-,-,-,-,pa5,-,-,pa8,-,paa,-⟩:=(zxb HX0 Bz).cz;go_wp2_with fail
      go_ret3
      have hF:=bT (c:=wr) hB Bz;exact⟨congrArg Ending.returned HRES.out,bT hF⟩
end Go.Proofs.YtidjjejgbahcgaaGreatDoor
