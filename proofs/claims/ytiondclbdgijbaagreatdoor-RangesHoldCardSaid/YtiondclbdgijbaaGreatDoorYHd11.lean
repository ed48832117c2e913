import Derived.Test.YtiondclbdgijbaaGreatDoorYHd10
set_option maxHeartbeats 8000000
set_option maxRecDepth 100000
namespace Go.Proofs.YtiondclbdgijbaaGreatDoor
open Go.RowKit Tw
theorem AllRn.up {w:World} {K K':Nat} {L:List Fr} (h:AllRn w K L) (hK:K≤K'):AllRn w K' L:=fun x hx=>⟨(h x hx).1,(h x hx).2.1,wA (h x hx).2.2 hK⟩
theorem layT_relu {y:Ly} (hk:y.kind=3) (L:List Fr):layT (valL y) (L.map fun x=>x.q)=L.map fun x=>maxQ x.q 0:=by
 have e:valL y=⟨y.kind,y.rows.map fun v=>prs v.L,y.bias.map fun x=>x.q,y.groups.map fun g=>g.L⟩:=by unfold valL;rw[dA zo]
 rw[e];unfold layT;rw[dA (show ¬y.kind=1 by omega),bB hk,List.map_map];rfl
theorem says_q {w:World} {y z:Ly} {xA:Option Addr} {n xc u D:Nat} {t:Int} {L:List Fr} (hy:Hid (LwU w y z)) (hl:Hid (LvOk (valL y) n u)) (hab:y.kind=1→zAg y (n:Int)=some ((u:Int),t)) (hs:Hid (Sl Fr.cs 4 w xA n xc L)) (hf:Hid (AllRn w (D+1) L)) (hn:1≤n∧n≤60) (hD:20≤D∧dgs n D≤5000000000) (hT:Hid (Tab w)) :
  Calls Tryz.prog 30 #[.agg #[.int .u8 y.kind,.slice y.rA y.rn y.rc,.slice y.bA y.bn y.bc,.int .i64 y.ch,.int .i64 y.high,.int .i64 y.wide,.int .i64 y.out,.int .i64 y.kh,.int .i64 y.kw,.int .i64 y.st,.int .i64 y.pad,.slice y.kA y.kn y.kc,.slice y.gA y.gn y.gc],.slice xA n xc] w (OutR w u (dgs n D+1) (layT (valL y) (L.map fun x=>x.q))):=by
 have HKK:Hid (D+1≤dgs n D+1):=zh (zi (dgs_ge (D:=D) hn.1));have hkd:y.kind=1∨y.kind=3∨y.kind=4:=by
  have e:valL y=⟨y.kind,y.rows.map fun v=>prs v.L,y.bias.map fun x=>x.q,y.groups.map fun g=>g.L⟩:=by unfold valL;rw[dA hy.out.low.kind]
  have h1:=hl.out.kinds;rw[e] at h1;exact h1
 rcases hkd with hk | hk | hk
 ·have HAB:=zh (hab hk);have HKD:=zh hk;have g1:(y.kind==1)=true:=by rw[hk];rfl
  clear hk hab;obtain⟨W,hW,x0,hB⟩:=zY w y;have HX0:=zh x0;clear x0;have Bz:=zr W;obtain⟨pa0,pa1,pa2,pa3,pa4,pa5,pa6,pa7,pa8,pa9,paa,pab,pac,-⟩:=(zx HX0 Bz).cz;go_enter Tryz.func30,Tryz.ntmps30
  go_upto_region 1 with(fail)
  rw[←hW];clear hW;go_upto_region 2 with(fail)
  obtain⟨V1,hW,x1,hN⟩:=zAb W #[.int .u8 y.kind,.slice y.rA y.rn y.rc,.slice y.bA y.bn y.bc,.int .i64 y.ch,.int .i64 y.high,.int .i64 y.wide,.int .i64 y.out,.int .i64 y.kh,.int .i64 y.kw,.int .i64 y.st,.int .i64 y.pad,.slice y.kA y.kn y.kc,.slice y.gA y.gn y.gc,.slice xA n xc] 99;rw[←hW];clear hW;obtain⟨v1,hb1⟩:=ze W.heap.size;rw[←hb1] at x1 ⊢;have ow_1:w.heap.size≤v1:=zi (zw hB Bz);replace hB:=bT (bT hB Bz) hN;replace HX0:=zba HX0 Bz hN;have HX1:=zh x1;clear x1 hN Bz hb1;have Bz:=zr V1;clear pa0 pa1 pa2 pa3 pa4 pa5 pa6 pa7 pa8 pa9 paa pab pac;have pa0:=(zx HX0 Bz).cell 0 (.int .u8 y.kind) rfl;have pb0:=(zx HX1 Bz).cell 0 (.int .u8 y.kind) rfl;have pb1:=(zx HX1 Bz).cell 1 (.slice y.rA y.rn y.rc) rfl;have pb2:=(zx HX1 Bz).cell 2 (.slice y.bA y.bn y.bc) rfl;have pb3:=(zx HX1 Bz).cell 3 (.int .i64 y.ch) rfl;have pb4:=(zx HX1 Bz).cell 4 (.int .i64 y.high) rfl;have pb5:=(zx HX1 Bz).cell 5 (.int .i64 y.wide) rfl;have pb6:=(zx HX1 Bz).cell 6 (.int .i64 y.out) rfl;have pb7:=(zx HX1 Bz).cell 7 (.int .i64 y.kh) rfl;have pb8:=(zx HX1 Bz).cell 8 (.int .i64 y.kw) rfl;have pb9:=(zx HX1 Bz).cell 9 (.int .i64 y.st) rfl;have pba:=(zx HX1 Bz).cell 10 (.int .i64 y.pad) rfl;have pbb:=(zx HX1 Bz).cell 11 (.slice y.kA y.kn y.kc) rfl;have pbc:=(zx HX1 Bz).cell 12 (.slice y.gA y.gn y.gc) rfl;have pbd:=(zx HX1 Bz).cell 13 (.slice xA n xc) rfl;go_wp2_with fail
  have hs1:w.heap.size≤V1.heap.size:=zi (zw hB Bz);with_reducible refine(affineN_q (hy.out.ok.below (bT hB (bT (b:=V1) Bz))) HKD.out HAB (zh fun v h=>⟨((hy.out.vec v h).1).below (bT hB (bT (b:=V1) Bz)),(hy.out.vec v h).2⟩) (hs.out.below (bT hB (bT (b:=V1) Bz))) (zh (hf.out.below (bT hB (bT (b:=V1) Bz)))) hn hD (zt hT hB Bz)).mono ?_
  rintro e w1 ⟨H1,c1,O1,rfl,h1,q1,j⟩;replace j:=zq (a:=V1) j;replace Bz:=bT Bz j;clear j;replace h1:=h1.wide hs1 (aA _) (aA _);clear pa0 pb0 pb1 pb2 pb3 pb4 pb5 pb6 pb7 pb8 pb9 pba pbb pbc pbd;go_wp2_with fail
  go_ret
  have hF:=bT (c:=w1) hB Bz;refine⟨_,_,O1,rfl,?_,q1,hF⟩;exact(h1).wide (aA _) (h1).le (aA _)
 ·obtain⟨rfl⟩:u=n:=hl.out.relu (by
   have e:valL y=⟨y.kind,y.rows.map fun v=>prs v.L,y.bias.map fun x=>x.q,y.groups.map fun g=>g.L⟩:=by unfold valL;rw[dA hy.out.low.kind]
   rw[e];exact hk)
  have HRE:=zh (layT_relu hk L).symm;have g1:(y.kind==1)=false:=by rw[hk];rfl
  have g2:(y.kind==2)=false:=by rw[hk];rfl
  have g3:(y.kind==4)=false:=by rw[hk];rfl
  clear hk hab;obtain⟨W,hW,x0,hB⟩:=zY w y;have HX0:=zh x0;clear x0;have Bz:=zr W;obtain⟨pa0,pa1,pa2,pa3,pa4,pa5,pa6,pa7,pa8,pa9,paa,pab,pac,-⟩:=(zx HX0 Bz).cz;go_enter Tryz.func30,Tryz.ntmps30
  go_upto_region 1 with(fail)
  rw[←hW];clear hW;go_upto_region 2 with(fail)
  obtain⟨V1,hW,x1,hN⟩:=zAb W #[.int .u8 y.kind,.slice y.rA y.rn y.rc,.slice y.bA y.bn y.bc,.int .i64 y.ch,.int .i64 y.high,.int .i64 y.wide,.int .i64 y.out,.int .i64 y.kh,.int .i64 y.kw,.int .i64 y.st,.int .i64 y.pad,.slice y.kA y.kn y.kc,.slice y.gA y.gn y.gc,.slice xA n xc] 99;rw[←hW];clear hW;obtain⟨v1,hb1⟩:=ze W.heap.size;rw[←hb1] at x1 ⊢;have ow_1:w.heap.size≤v1:=zi (zw hB Bz);replace hB:=bT (bT hB Bz) hN;replace HX0:=zba HX0 Bz hN;have HX1:=zh x1;clear x1 hN Bz hb1;have Bz:=zr V1;clear pa0 pa1 pa2 pa3 pa4 pa5 pa6 pa7 pa8 pa9 paa pab pac;have pa0:=(zx HX0 Bz).cell 0 (.int .u8 y.kind) rfl;have pb0:=(zx HX1 Bz).cell 0 (.int .u8 y.kind) rfl;have pb1:=(zx HX1 Bz).cell 1 (.slice y.rA y.rn y.rc) rfl;have pb2:=(zx HX1 Bz).cell 2 (.slice y.bA y.bn y.bc) rfl;have pb3:=(zx HX1 Bz).cell 3 (.int .i64 y.ch) rfl;have pb4:=(zx HX1 Bz).cell 4 (.int .i64 y.high) rfl;have pb5:=(zx HX1 Bz).cell 5 (.int .i64 y.wide) rfl;have pb6:=(zx HX1 Bz).cell 6 (.int .i64 y.out) rfl;have pb7:=(zx HX1 Bz).cell 7 (.int .i64 y.kh) rfl;have pb8:=(zx HX1 Bz).cell 8 (.int .i64 y.kw) rfl;have pb9:=(zx HX1 Bz).cell 9 (.int .i64 y.st) rfl;have pba:=(zx HX1 Bz).cell 10 (.int .i64 y.pad) rfl;have pbb:=(zx HX1 Bz).cell 11 (.slice y.kA y.kn y.kc) rfl;have pbc:=(zx HX1 Bz).cell 12 (.slice y.gA y.gn y.gc) rfl;have pbd:=(zx HX1 Bz).cell 13 (.slice xA n xc) rfl;go_wp2_with fail
  have hs1:w.heap.size≤V1.heap.size:=zi (zw hB Bz);with_reducible refine(relu_q (y:=y) (K:=dgs n D+1) (hs.out.below (bT hB (bT (b:=V1) Bz))) (zh ((hf.out.up HKK.out).below (bT hB (bT (b:=V1) Bz)))) zo ⟨by have:=HKK.out;omega,zo⟩ (zt hT hB Bz)).mono ?_
  rintro e w1 ⟨H1,c1,O1,rfl,h1,q1,j⟩;replace j:=zq (a:=V1) j;replace Bz:=bT Bz j;clear j;replace h1:=h1.wide hs1 (aA _) (aA _);clear pa0 pb0 pb1 pb2 pb3 pb4 pb5 pb6 pb7 pb8 pb9 pba pbb pbc pbd;go_wp2_with fail
  go_ret
  have hF:=bT (c:=w1) hB Bz;refine⟨_,_,O1,rfl,?_,q1.trans HRE.out,hF⟩;exact(h1).wide (aA _) (h1).le (aA _)
 ·have HKD:=zh hk;have g1:(y.kind==1)=false:=by rw[hk];rfl
  have g2:(y.kind==2)=false:=by rw[hk];rfl
  have g3:(y.kind==4)=true:=by rw[hk];rfl
  clear hk hab;obtain⟨W,hW,x0,hB⟩:=zY w y;have HX0:=zh x0;clear x0;have Bz:=zr W;obtain⟨pa0,pa1,pa2,pa3,pa4,pa5,pa6,pa7,pa8,pa9,paa,pab,pac,-⟩:=(zx HX0 Bz).cz;go_enter Tryz.func30,Tryz.ntmps30
  go_upto_region 1 with(fail)
  rw[←hW];clear hW;go_upto_region 2 with(fail)
  obtain⟨V1,hW,x1,hN⟩:=zAb W #[.int .u8 y.kind,.slice y.rA y.rn y.rc,.slice y.bA y.bn y.bc,.int .i64 y.ch,.int .i64 y.high,.int .i64 y.wide,.int .i64 y.out,.int .i64 y.kh,.int .i64 y.kw,.int .i64 y.st,.int .i64 y.pad,.slice y.kA y.kn y.kc,.slice y.gA y.gn y.gc,.slice xA n xc] 99;rw[←hW];clear hW;obtain⟨v1,hb1⟩:=ze W.heap.size;rw[←hb1] at x1 ⊢;have ow_1:w.heap.size≤v1:=zi (zw hB Bz);replace hB:=bT (bT hB Bz) hN;replace HX0:=zba HX0 Bz hN;have HX1:=zh x1;clear x1 hN Bz hb1;have Bz:=zr V1;clear pa0 pa1 pa2 pa3 pa4 pa5 pa6 pa7 pa8 pa9 paa pab pac;have pa0:=(zx HX0 Bz).cell 0 (.int .u8 y.kind) rfl;have pb0:=(zx HX1 Bz).cell 0 (.int .u8 y.kind) rfl;have pb1:=(zx HX1 Bz).cell 1 (.slice y.rA y.rn y.rc) rfl;have pb2:=(zx HX1 Bz).cell 2 (.slice y.bA y.bn y.bc) rfl;have pb3:=(zx HX1 Bz).cell 3 (.int .i64 y.ch) rfl;have pb4:=(zx HX1 Bz).cell 4 (.int .i64 y.high) rfl;have pb5:=(zx HX1 Bz).cell 5 (.int .i64 y.wide) rfl;have pb6:=(zx HX1 Bz).cell 6 (.int .i64 y.out) rfl;have pb7:=(zx HX1 Bz).cell 7 (.int .i64 y.kh) rfl;have pb8:=(zx HX1 Bz).cell 8 (.int .i64 y.kw) rfl;have pb9:=(zx HX1 Bz).cell 9 (.int .i64 y.st) rfl;have pba:=(zx HX1 Bz).cell 10 (.int .i64 y.pad) rfl;have pbb:=(zx HX1 Bz).cell 11 (.slice y.kA y.kn y.kc) rfl;have pbc:=(zx HX1 Bz).cell 12 (.slice y.gA y.gn y.gc) rfl;have pbd:=(zx HX1 Bz).cell 13 (.slice xA n xc) rfl;go_wp2_with fail
  have hs1:w.heap.size≤V1.heap.size:=zi (zw hB Bz);with_reducible refine(poolN_q (K:=dgs n D+1) (hy.out.ok.below (bT hB (bT (b:=V1) Bz))) hl.out HKD.out (hs.out.below (bT hB (bT (b:=V1) Bz))) (zh ((hf.out.up HKK.out).below (bT hB (bT (b:=V1) Bz)))) (zh hy.out.grp) zo ⟨by have:=HKK.out;omega,zo⟩ (zt hT hB Bz)).mono ?_
  rintro e w1 ⟨H1,c1,O1,rfl,h1,q1,j⟩;replace j:=zq (a:=V1) j;replace Bz:=bT Bz j;clear j;replace h1:=h1.wide hs1 (aA _) (aA _);clear pa0 pb0 pb1 pb2 pb3 pb4 pb5 pb6 pb7 pb8 pb9 pba pbb pbc pbd;go_wp2_with fail
  go_ret
  have hF:=bT (c:=w1) hB Bz;refine⟨_,_,O1,rfl,?_,q1,hF⟩;exact(h1).wide (aA _) (h1).le (aA _)
end Go.Proofs.YtiondclbdgijbaaGreatDoor
