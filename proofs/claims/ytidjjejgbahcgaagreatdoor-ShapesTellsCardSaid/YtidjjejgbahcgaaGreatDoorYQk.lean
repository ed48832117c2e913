/-
  tripwireref10.Query. Written by wip/gen/qk.py.
-/
import Derived.Test.YtidjjejgbahcgaaGreatDoorYCk
import Derived.Test.YtidjjejgbahcgaaGreatDoorYSh10
set_option maxHeartbeats 16000000
set_option maxRecDepth 100000
namespace Go.Proofs.YtidjjejgbahcgaaGreatDoor
open Go.RowKit Tw
def QR1 (w:World) (nc qc:Array Value) (Z:List (Fr×Fr)) (n gk:Nat) (s:Value) (wr:World):Prop:=∃i:Nat,i≤n∧n-i=gk∧s=.int .i64 (i:Int)∧Below w.heap.size w wr∧Bx wr w.heap.size nc 24∧Bx wr (w.heap.size+1) qc 28∧(Z.take i).all boxP=true
theorem okQ_no {inp:Int} {q:Qy} (h:(q.xn:Int)≠inp∨(q.on:Int)≠inp∨(q.hn:Int)≠inp∨(q.X.all fun x=>x.ex)=false∨(q.O.all fun x=>x.ex)=false∨(q.H.all fun x=>x.ex)=false):okQ inp q=false:=by
 unfold okQ okV Qy.x Qy.o Qy.h
 rcases h with h | h | h | h | h | h<;>simp[h]
theorem okQ_yes {inp:Int} {q:Qy} (h1:(q.xn:Int)=inp) (h2:(q.on:Int)=inp) (h3:(q.hn:Int)=inp) (h4:(q.X.all fun x=>x.ex)=true) (h5:(q.O.all fun x=>x.ex)=true) (h6:(q.H.all fun x=>x.ex)=true):okQ inp q=true:=by
 unfold okQ okV Qy.x Qy.o Qy.h
 simp only
 rw[h1,h2,h3,h4,h5,h6,decide_eq_true rfl];rfl
theorem queryR_er {w:World} {m:Nat} {inp:Int} {lA:Option Addr} {ln lc:Nat} {L:List Ly} {q:Qy} (h:Sl Ly.cs 13 w lA ln lc L) (hok:Hid (∀y∈L,LyOk w m y)) (hg:Hid (GVs w L)) (hm:m≤400) (hln:ln≤9223372036854775807) (_hq:QyOk w m q) {z:Int} (HZ:Hid (zAg inp L=.error z)) (g1:(z != 0)=true) (HA:Hid (zAq inp L q=z)) (hT:Hid (Tab w)) :
  Calls Tryz.prog 14 #[.agg #[.int .i64 inp,.slice lA ln lc],.agg #[.slice q.xA q.xn q.xc,.int .i64 q.label,.slice q.oA q.on q.oc,.slice q.hA q.hn q.hc,.int .u8 q.norm]] w fun e w'=>e=.returned (.int .i64 (zAq inp L q))∧Below w.heap.size w w':=by
 obtain⟨W,hW,x0,x1,hB⟩:=zAh w #[.int .i64 inp,.slice lA ln lc] 24 #[.slice q.xA q.xn q.xc,.int .i64 q.label,.slice q.oA q.on q.oc,.slice q.hA q.hn q.hc,.int .u8 q.norm] 28;have HX0:=zh x0;have HX1:=zh x1;clear x0 x1;have Bz:=zr W;obtain⟨pa0,pa1,-⟩:=(zxb HX0 Bz).cz;go_enter Tryz.func14,Tryz.ntmps14
 go_wp2_with fail
 rw[←hW];clear hW;go_wp2_with fail
 with_reducible refine((checkR_q (h.below (bT hB (bT (b:=W) Bz))) (zh fun y hy=>(hok.out y hy).below (bT hB (bT (b:=W) Bz))) (zh (GVs.below hg.out (bT hB (bT (b:=W) Bz)))) zo hln (zt hT hB Bz)).mono fun _ _ hx=>TellsZs.er hx HZ.out).mono ?_
 rintro e w1 ⟨rfl,b1⟩;replace b1:=zq (a:=W) b1;replace Bz:=bT Bz b1;clear b1;clear pa0 pa1;go_wp2_with fail
 go_ret
 have hF:=bT (c:=w1) hB Bz;exact⟨by rw[HA.out];rfl,bT hF⟩
theorem queryR_0 {w:World} {m:Nat} {inp:Int} {lA:Option Addr} {ln lc:Nat} {L:List Ly} {q:Qy} (h:Sl Ly.cs 13 w lA ln lc L) (hok:Hid (∀y∈L,LyOk w m y)) (hg:Hid (GVs w L)) (hm:m≤400) (hln:ln≤9223372036854775807) (hq:QyOk w m q) {l:List Int} (HZ:Hid (zAg inp L=.ok l)) (g0:((q.xn:Int) != inp)=true) (HA:Hid (zAq inp L q=22)) (hT:Hid (Tab w)) :
  Calls Tryz.prog 14 #[.agg #[.int .i64 inp,.slice lA ln lc],.agg #[.slice q.xA q.xn q.xc,.int .i64 q.label,.slice q.oA q.on q.oc,.slice q.hA q.hn q.hc,.int .u8 q.norm]] w fun e w'=>e=.returned (.int .i64 (zAq inp L q))∧Below w.heap.size w w':=by
 have hqx:Sl Fr.cs 4 w q.xA q.xn q.xc q.X:=hq.x.sl;have hfx:∀y∈q.X,FrOk w m y:=hq.x.fr;have hqo:Sl Fr.cs 4 w q.oA q.on q.oc q.O:=hq.o.sl;have hfo:∀y∈q.O,FrOk w m y:=hq.o.fr;have hqh:Sl Fr.cs 4 w q.hA q.hn q.hc q.H:=hq.h.sl;have hfh:∀y∈q.H,FrOk w m y:=hq.h.fr;have hql:q.xn≤100000∧q.on≤100000∧q.hn≤100000:=⟨hq.x.2.2,hq.o.2.2,hq.h.2.2⟩;obtain⟨W,hW,x0,x1,hB⟩:=zAh w #[.int .i64 inp,.slice lA ln lc] 24 #[.slice q.xA q.xn q.xc,.int .i64 q.label,.slice q.oA q.on q.oc,.slice q.hA q.hn q.hc,.int .u8 q.norm] 28;have HX0:=zh x0;have HX1:=zh x1;clear x0 x1;have Bz:=zr W;obtain⟨pa0,pa1,-⟩:=(zxb HX0 Bz).cz;go_enter Tryz.func14,Tryz.ntmps14
 go_wp2_with fail
 rw[←hW];clear hW;go_wp2_with fail
 with_reducible refine((checkR_q (h.below (bT hB (bT (b:=W) Bz))) (zh fun y hy=>(hok.out y hy).below (bT hB (bT (b:=W) Bz))) (zh (GVs.below hg.out (bT hB (bT (b:=W) Bz)))) zo hln (zt hT hB Bz)).mono fun _ _ hx=>TellsZs.ok hx HZ.out).mono ?_
 rintro e w1 ⟨A1,n1,c1,rfl,h1,hc1,b1⟩;replace b1:=zq (a:=W) b1;replace Bz:=bT Bz b1;clear h1;clear b1;clear pa0 pa1;have pa0:=(zxb HX0 Bz).cell 0 (.int .i64 inp) rfl;have pb0:=(zxb HX1 Bz).cell 0 (.slice q.xA q.xn q.xc) rfl;go_wp2_with fail
 go_ret
 have hF:=bT (c:=w1) hB Bz;exact⟨by rw[HA.out];rfl,bT hF⟩
theorem queryR_1 {w:World} {m:Nat} {inp:Int} {lA:Option Addr} {ln lc:Nat} {L:List Ly} {q:Qy} (h:Sl Ly.cs 13 w lA ln lc L) (hok:Hid (∀y∈L,LyOk w m y)) (hg:Hid (GVs w L)) (hm:m≤400) (hln:ln≤9223372036854775807) (hq:QyOk w m q) {l:List Int} (HZ:Hid (zAg inp L=.ok l)) (g0:((q.xn:Int) != inp)=false) (g1:((q.on:Int) != inp)=true) (HA:Hid (zAq inp L q=22)) (hT:Hid (Tab w)) :
  Calls Tryz.prog 14 #[.agg #[.int .i64 inp,.slice lA ln lc],.agg #[.slice q.xA q.xn q.xc,.int .i64 q.label,.slice q.oA q.on q.oc,.slice q.hA q.hn q.hc,.int .u8 q.norm]] w fun e w'=>e=.returned (.int .i64 (zAq inp L q))∧Below w.heap.size w w':=by
 have hqx:Sl Fr.cs 4 w q.xA q.xn q.xc q.X:=hq.x.sl;have hfx:∀y∈q.X,FrOk w m y:=hq.x.fr;have hqo:Sl Fr.cs 4 w q.oA q.on q.oc q.O:=hq.o.sl;have hfo:∀y∈q.O,FrOk w m y:=hq.o.fr;have hqh:Sl Fr.cs 4 w q.hA q.hn q.hc q.H:=hq.h.sl;have hfh:∀y∈q.H,FrOk w m y:=hq.h.fr;have hql:q.xn≤100000∧q.on≤100000∧q.hn≤100000:=⟨hq.x.2.2,hq.o.2.2,hq.h.2.2⟩;obtain⟨W,hW,x0,x1,hB⟩:=zAh w #[.int .i64 inp,.slice lA ln lc] 24 #[.slice q.xA q.xn q.xc,.int .i64 q.label,.slice q.oA q.on q.oc,.slice q.hA q.hn q.hc,.int .u8 q.norm] 28;have HX0:=zh x0;have HX1:=zh x1;clear x0 x1;have Bz:=zr W;obtain⟨pa0,pa1,-⟩:=(zxb HX0 Bz).cz;go_enter Tryz.func14,Tryz.ntmps14
 go_wp2_with fail
 rw[←hW];clear hW;go_wp2_with fail
 with_reducible refine((checkR_q (h.below (bT hB (bT (b:=W) Bz))) (zh fun y hy=>(hok.out y hy).below (bT hB (bT (b:=W) Bz))) (zh (GVs.below hg.out (bT hB (bT (b:=W) Bz)))) zo hln (zt hT hB Bz)).mono fun _ _ hx=>TellsZs.ok hx HZ.out).mono ?_
 rintro e w1 ⟨A1,n1,c1,rfl,h1,hc1,b1⟩;replace b1:=zq (a:=W) b1;replace Bz:=bT Bz b1;clear h1;clear b1;clear pa0 pa1;have pa0:=(zxb HX0 Bz).cell 0 (.int .i64 inp) rfl;obtain⟨pb0,-,pb2,-⟩:=(zxb HX1 Bz).cz;go_wp2_with fail
 go_ret
 have hF:=bT (c:=w1) hB Bz;exact⟨by rw[HA.out];rfl,bT hF⟩
theorem queryR_2 {w:World} {m:Nat} {inp:Int} {lA:Option Addr} {ln lc:Nat} {L:List Ly} {q:Qy} (h:Sl Ly.cs 13 w lA ln lc L) (hok:Hid (∀y∈L,LyOk w m y)) (hg:Hid (GVs w L)) (hm:m≤400) (hln:ln≤9223372036854775807) (hq:QyOk w m q) {l:List Int} (HZ:Hid (zAg inp L=.ok l)) (g0:((q.xn:Int) != inp)=false) (g1:((q.on:Int) != inp)=false) (g2:((q.hn:Int) != inp)=true) (HA:Hid (zAq inp L q=22)) (hT:Hid (Tab w)) :
  Calls Tryz.prog 14 #[.agg #[.int .i64 inp,.slice lA ln lc],.agg #[.slice q.xA q.xn q.xc,.int .i64 q.label,.slice q.oA q.on q.oc,.slice q.hA q.hn q.hc,.int .u8 q.norm]] w fun e w'=>e=.returned (.int .i64 (zAq inp L q))∧Below w.heap.size w w':=by
 have hqx:Sl Fr.cs 4 w q.xA q.xn q.xc q.X:=hq.x.sl;have hfx:∀y∈q.X,FrOk w m y:=hq.x.fr;have hqo:Sl Fr.cs 4 w q.oA q.on q.oc q.O:=hq.o.sl;have hfo:∀y∈q.O,FrOk w m y:=hq.o.fr;have hqh:Sl Fr.cs 4 w q.hA q.hn q.hc q.H:=hq.h.sl;have hfh:∀y∈q.H,FrOk w m y:=hq.h.fr;have hql:q.xn≤100000∧q.on≤100000∧q.hn≤100000:=⟨hq.x.2.2,hq.o.2.2,hq.h.2.2⟩;obtain⟨W,hW,x0,x1,hB⟩:=zAh w #[.int .i64 inp,.slice lA ln lc] 24 #[.slice q.xA q.xn q.xc,.int .i64 q.label,.slice q.oA q.on q.oc,.slice q.hA q.hn q.hc,.int .u8 q.norm] 28;have HX0:=zh x0;have HX1:=zh x1;clear x0 x1;have Bz:=zr W;obtain⟨pa0,pa1,-⟩:=(zxb HX0 Bz).cz;go_enter Tryz.func14,Tryz.ntmps14
 go_wp2_with fail
 rw[←hW];clear hW;go_wp2_with fail
 with_reducible refine((checkR_q (h.below (bT hB (bT (b:=W) Bz))) (zh fun y hy=>(hok.out y hy).below (bT hB (bT (b:=W) Bz))) (zh (GVs.below hg.out (bT hB (bT (b:=W) Bz)))) zo hln (zt hT hB Bz)).mono fun _ _ hx=>TellsZs.ok hx HZ.out).mono ?_
 rintro e w1 ⟨A1,n1,c1,rfl,h1,hc1,b1⟩;replace b1:=zq (a:=W) b1;replace Bz:=bT Bz b1;clear h1;clear b1;clear pa0 pa1;have pa0:=(zxb HX0 Bz).cell 0 (.int .i64 inp) rfl;obtain⟨pb0,-,pb2,pb3,-⟩:=(zxb HX1 Bz).cz;go_wp2_with fail
 go_ret
 have hF:=bT (c:=w1) hB Bz;exact⟨by rw[HA.out];rfl,bT hF⟩
theorem queryR_3 {w:World} {m:Nat} {inp:Int} {lA:Option Addr} {ln lc:Nat} {L:List Ly} {q:Qy} (h:Sl Ly.cs 13 w lA ln lc L) (hok:Hid (∀y∈L,LyOk w m y)) (hg:Hid (GVs w L)) (hm:m≤400) (hln:ln≤9223372036854775807) (hq:QyOk w m q) {l:List Int} (HZ:Hid (zAg inp L=.ok l)) (g0:((q.xn:Int) != inp)=false) (g1:((q.on:Int) != inp)=false) (g2:((q.hn:Int) != inp)=false) (HFx:Hid ((q.X.all fun x=>x.ex)=false)) (HA:Hid (zAq inp L q=22)) (hT:Hid (Tab w)) :
  Calls Tryz.prog 14 #[.agg #[.int .i64 inp,.slice lA ln lc],.agg #[.slice q.xA q.xn q.xc,.int .i64 q.label,.slice q.oA q.on q.oc,.slice q.hA q.hn q.hc,.int .u8 q.norm]] w fun e w'=>e=.returned (.int .i64 (zAq inp L q))∧Below w.heap.size w w':=by
 have hqx:Sl Fr.cs 4 w q.xA q.xn q.xc q.X:=hq.x.sl;have hfx:∀y∈q.X,FrOk w m y:=hq.x.fr;have hqo:Sl Fr.cs 4 w q.oA q.on q.oc q.O:=hq.o.sl;have hfo:∀y∈q.O,FrOk w m y:=hq.o.fr;have hqh:Sl Fr.cs 4 w q.hA q.hn q.hc q.H:=hq.h.sl;have hfh:∀y∈q.H,FrOk w m y:=hq.h.fr;have hql:q.xn≤100000∧q.on≤100000∧q.hn≤100000:=⟨hq.x.2.2,hq.o.2.2,hq.h.2.2⟩;obtain⟨W,hW,x0,x1,hB⟩:=zAh w #[.int .i64 inp,.slice lA ln lc] 24 #[.slice q.xA q.xn q.xc,.int .i64 q.label,.slice q.oA q.on q.oc,.slice q.hA q.hn q.hc,.int .u8 q.norm] 28;have HX0:=zh x0;have HX1:=zh x1;clear x0 x1;have Bz:=zr W;obtain⟨pa0,pa1,-⟩:=(zxb HX0 Bz).cz;go_enter Tryz.func14,Tryz.ntmps14
 go_wp2_with fail
 rw[←hW];clear hW;go_wp2_with fail
 with_reducible refine((checkR_q (h.below (bT hB (bT (b:=W) Bz))) (zh fun y hy=>(hok.out y hy).below (bT hB (bT (b:=W) Bz))) (zh (GVs.below hg.out (bT hB (bT (b:=W) Bz)))) zo hln (zt hT hB Bz)).mono fun _ _ hx=>TellsZs.ok hx HZ.out).mono ?_
 rintro e w1 ⟨A1,n1,c1,rfl,h1,hc1,b1⟩;replace b1:=zq (a:=W) b1;replace Bz:=bT Bz b1;clear h1;clear b1;clear pa0 pa1;have pa0:=(zxb HX0 Bz).cell 0 (.int .i64 inp) rfl;obtain⟨pb0,-,pb2,pb3,-⟩:=(zxb HX1 Bz).cz;go_wp2_with fail
 with_reducible refine(zAi (hqx.below (bT hB (bT (b:=w1) Bz))) (zh fun x hx=>(hfx x hx).below (bT hB (bT (b:=w1) Bz))) zo (by have:=hql;show q.xn≤_;omega) false HFx).mono ?_
 rintro e w2 ⟨rfl,b2⟩;replace b2:=zq (a:=w1) b2;replace Bz:=bT Bz b2;clear b2;clear pa0 pb0 pb2 pb3;go_wp2_with fail
 go_ret
 have hF:=bT (c:=w2) hB Bz;exact⟨by rw[HA.out];rfl,bT hF⟩
theorem queryR_4 {w:World} {m:Nat} {inp:Int} {lA:Option Addr} {ln lc:Nat} {L:List Ly} {q:Qy} (h:Sl Ly.cs 13 w lA ln lc L) (hok:Hid (∀y∈L,LyOk w m y)) (hg:Hid (GVs w L)) (hm:m≤400) (hln:ln≤9223372036854775807) (hq:QyOk w m q) {l:List Int} (HZ:Hid (zAg inp L=.ok l)) (g0:((q.xn:Int) != inp)=false) (g1:((q.on:Int) != inp)=false) (g2:((q.hn:Int) != inp)=false) (HFx:Hid ((q.X.all fun x=>x.ex)=true)) (HFo:Hid ((q.O.all fun x=>x.ex)=false)) (HA:Hid (zAq inp L q=22)) (hT:Hid (Tab w)) :
  Calls Tryz.prog 14 #[.agg #[.int .i64 inp,.slice lA ln lc],.agg #[.slice q.xA q.xn q.xc,.int .i64 q.label,.slice q.oA q.on q.oc,.slice q.hA q.hn q.hc,.int .u8 q.norm]] w fun e w'=>e=.returned (.int .i64 (zAq inp L q))∧Below w.heap.size w w':=by
 have hqx:Sl Fr.cs 4 w q.xA q.xn q.xc q.X:=hq.x.sl;have hfx:∀y∈q.X,FrOk w m y:=hq.x.fr;have hqo:Sl Fr.cs 4 w q.oA q.on q.oc q.O:=hq.o.sl;have hfo:∀y∈q.O,FrOk w m y:=hq.o.fr;have hqh:Sl Fr.cs 4 w q.hA q.hn q.hc q.H:=hq.h.sl;have hfh:∀y∈q.H,FrOk w m y:=hq.h.fr;have hql:q.xn≤100000∧q.on≤100000∧q.hn≤100000:=⟨hq.x.2.2,hq.o.2.2,hq.h.2.2⟩;obtain⟨W,hW,x0,x1,hB⟩:=zAh w #[.int .i64 inp,.slice lA ln lc] 24 #[.slice q.xA q.xn q.xc,.int .i64 q.label,.slice q.oA q.on q.oc,.slice q.hA q.hn q.hc,.int .u8 q.norm] 28;have HX0:=zh x0;have HX1:=zh x1;clear x0 x1;have Bz:=zr W;obtain⟨pa0,pa1,-⟩:=(zxb HX0 Bz).cz;go_enter Tryz.func14,Tryz.ntmps14
 go_wp2_with fail
 rw[←hW];clear hW;go_wp2_with fail
 with_reducible refine((checkR_q (h.below (bT hB (bT (b:=W) Bz))) (zh fun y hy=>(hok.out y hy).below (bT hB (bT (b:=W) Bz))) (zh (GVs.below hg.out (bT hB (bT (b:=W) Bz)))) zo hln (zt hT hB Bz)).mono fun _ _ hx=>TellsZs.ok hx HZ.out).mono ?_
 rintro e w1 ⟨A1,n1,c1,rfl,h1,hc1,b1⟩;replace b1:=zq (a:=W) b1;replace Bz:=bT Bz b1;clear h1;clear b1;clear pa0 pa1;have pa0:=(zxb HX0 Bz).cell 0 (.int .i64 inp) rfl;obtain⟨pb0,-,pb2,pb3,-⟩:=(zxb HX1 Bz).cz;go_wp2_with fail
 with_reducible refine(zAi (hqx.below (bT hB (bT (b:=w1) Bz))) (zh fun x hx=>(hfx x hx).below (bT hB (bT (b:=w1) Bz))) zo (by have:=hql;show q.xn≤_;omega) true HFx).mono ?_
 rintro e w2 ⟨rfl,b2⟩;replace b2:=zq (a:=w1) b2;replace Bz:=bT Bz b2;clear b2;clear pa0 pb0 pb2 pb3;have pb2:=(zxb HX1 Bz).cell 2 (.slice q.oA q.on q.oc) rfl;go_wp2_with fail
 with_reducible refine(zAi (hqo.below (bT hB (bT (b:=w2) Bz))) (zh fun x hx=>(hfo x hx).below (bT hB (bT (b:=w2) Bz))) zo (by have:=hql;show q.on≤_;omega) false HFo).mono ?_
 rintro e w3 ⟨rfl,b3⟩;replace b3:=zq (a:=w2) b3;replace Bz:=bT Bz b3;clear b3;clear pb2;go_wp2_with fail
 go_ret
 have hF:=bT (c:=w3) hB Bz;exact⟨by rw[HA.out];rfl,bT hF⟩
theorem queryR_5 {w:World} {m:Nat} {inp:Int} {lA:Option Addr} {ln lc:Nat} {L:List Ly} {q:Qy} (h:Sl Ly.cs 13 w lA ln lc L) (hok:Hid (∀y∈L,LyOk w m y)) (hg:Hid (GVs w L)) (hm:m≤400) (hln:ln≤9223372036854775807) (hq:QyOk w m q) {l:List Int} (HZ:Hid (zAg inp L=.ok l)) (g0:((q.xn:Int) != inp)=false) (g1:((q.on:Int) != inp)=false) (g2:((q.hn:Int) != inp)=false) (HFx:Hid ((q.X.all fun x=>x.ex)=true)) (HFo:Hid ((q.O.all fun x=>x.ex)=true)) (HFh:Hid ((q.H.all fun x=>x.ex)=false)) (HA:Hid (zAq inp L q=22)) (hT:Hid (Tab w)) :
  Calls Tryz.prog 14 #[.agg #[.int .i64 inp,.slice lA ln lc],.agg #[.slice q.xA q.xn q.xc,.int .i64 q.label,.slice q.oA q.on q.oc,.slice q.hA q.hn q.hc,.int .u8 q.norm]] w fun e w'=>e=.returned (.int .i64 (zAq inp L q))∧Below w.heap.size w w':=by
 have hqx:Sl Fr.cs 4 w q.xA q.xn q.xc q.X:=hq.x.sl;have hfx:∀y∈q.X,FrOk w m y:=hq.x.fr;have hqo:Sl Fr.cs 4 w q.oA q.on q.oc q.O:=hq.o.sl;have hfo:∀y∈q.O,FrOk w m y:=hq.o.fr;have hqh:Sl Fr.cs 4 w q.hA q.hn q.hc q.H:=hq.h.sl;have hfh:∀y∈q.H,FrOk w m y:=hq.h.fr;have hql:q.xn≤100000∧q.on≤100000∧q.hn≤100000:=⟨hq.x.2.2,hq.o.2.2,hq.h.2.2⟩;obtain⟨W,hW,x0,x1,hB⟩:=zAh w #[.int .i64 inp,.slice lA ln lc] 24 #[.slice q.xA q.xn q.xc,.int .i64 q.label,.slice q.oA q.on q.oc,.slice q.hA q.hn q.hc,.int .u8 q.norm] 28;have HX0:=zh x0;have HX1:=zh x1;clear x0 x1;have Bz:=zr W;obtain⟨pa0,pa1,-⟩:=(zxb HX0 Bz).cz;go_enter Tryz.func14,Tryz.ntmps14
 go_wp2_with fail
 rw[←hW];clear hW;go_wp2_with fail
 with_reducible refine((checkR_q (h.below (bT hB (bT (b:=W) Bz))) (zh fun y hy=>(hok.out y hy).below (bT hB (bT (b:=W) Bz))) (zh (GVs.below hg.out (bT hB (bT (b:=W) Bz)))) zo hln (zt hT hB Bz)).mono fun _ _ hx=>TellsZs.ok hx HZ.out).mono ?_
 rintro e w1 ⟨A1,n1,c1,rfl,h1,hc1,b1⟩;replace b1:=zq (a:=W) b1;replace Bz:=bT Bz b1;clear h1;clear b1;clear pa0 pa1;have pa0:=(zxb HX0 Bz).cell 0 (.int .i64 inp) rfl;obtain⟨pb0,-,pb2,pb3,-⟩:=(zxb HX1 Bz).cz;go_wp2_with fail
 with_reducible refine(zAi (hqx.below (bT hB (bT (b:=w1) Bz))) (zh fun x hx=>(hfx x hx).below (bT hB (bT (b:=w1) Bz))) zo (by have:=hql;show q.xn≤_;omega) true HFx).mono ?_
 rintro e w2 ⟨rfl,b2⟩;replace b2:=zq (a:=w1) b2;replace Bz:=bT Bz b2;clear b2;clear pa0 pb0 pb2 pb3;have pb2:=(zxb HX1 Bz).cell 2 (.slice q.oA q.on q.oc) rfl;go_wp2_with fail
 with_reducible refine(zAi (hqo.below (bT hB (bT (b:=w2) Bz))) (zh fun x hx=>(hfo x hx).below (bT hB (bT (b:=w2) Bz))) zo (by have:=hql;show q.on≤_;omega) true HFo).mono ?_
 rintro e w3 ⟨rfl,b3⟩;replace b3:=zq (a:=w2) b3;replace Bz:=bT Bz b3;clear b3;clear pb2;have pb3:=(zxb HX1 Bz).cell 3 (.slice q.hA q.hn q.hc) rfl;go_wp2_with fail
 with_reducible refine(zAi (hqh.below (bT hB (bT (b:=w3) Bz))) (zh fun x hx=>(hfh x hx).below (bT hB (bT (b:=w3) Bz))) zo (by have:=hql;show q.hn≤_;omega) false HFh).mono ?_
 rintro e w4 ⟨rfl,b4⟩;replace b4:=zq (a:=w3) b4;replace Bz:=bT Bz b4;clear b4;clear pb3;go_wp2_with fail
 go_ret
 have hF:=bT (c:=w4) hB Bz;exact⟨by rw[HA.out];rfl,bT hF⟩
theorem queryR_6 {w:World} {m:Nat} {inp:Int} {lA:Option Addr} {ln lc:Nat} {L:List Ly} {q:Qy} (h:Sl Ly.cs 13 w lA ln lc L) (hok:Hid (∀y∈L,LyOk w m y)) (hg:Hid (GVs w L)) (hm:m≤400) (hln:ln≤9223372036854775807) (hq:QyOk w m q) {l:List Int} (HZ:Hid (zAg inp L=.ok l)) (g0:((q.xn:Int) != inp)=false) (g1:((q.on:Int) != inp)=false) (g2:((q.hn:Int) != inp)=false) (HFx:Hid ((q.X.all fun x=>x.ex)=true)) (HFo:Hid ((q.O.all fun x=>x.ex)=true)) (HFh:Hid ((q.H.all fun x=>x.ex)=true)) (n1:(q.norm != 1)=true) (n2:(q.norm != 2)=true) (HA:Hid (zAq inp L q=22)) (hT:Hid (Tab w)) :
  Calls Tryz.prog 14 #[.agg #[.int .i64 inp,.slice lA ln lc],.agg #[.slice q.xA q.xn q.xc,.int .i64 q.label,.slice q.oA q.on q.oc,.slice q.hA q.hn q.hc,.int .u8 q.norm]] w fun e w'=>e=.returned (.int .i64 (zAq inp L q))∧Below w.heap.size w w':=by
 have hqx:Sl Fr.cs 4 w q.xA q.xn q.xc q.X:=hq.x.sl;have hfx:∀y∈q.X,FrOk w m y:=hq.x.fr;have hqo:Sl Fr.cs 4 w q.oA q.on q.oc q.O:=hq.o.sl;have hfo:∀y∈q.O,FrOk w m y:=hq.o.fr;have hqh:Sl Fr.cs 4 w q.hA q.hn q.hc q.H:=hq.h.sl;have hfh:∀y∈q.H,FrOk w m y:=hq.h.fr;have hql:q.xn≤100000∧q.on≤100000∧q.hn≤100000:=⟨hq.x.2.2,hq.o.2.2,hq.h.2.2⟩;obtain⟨W,hW,x0,x1,hB⟩:=zAh w #[.int .i64 inp,.slice lA ln lc] 24 #[.slice q.xA q.xn q.xc,.int .i64 q.label,.slice q.oA q.on q.oc,.slice q.hA q.hn q.hc,.int .u8 q.norm] 28;have HX0:=zh x0;have HX1:=zh x1;clear x0 x1;have Bz:=zr W;obtain⟨pa0,pa1,-⟩:=(zxb HX0 Bz).cz;go_enter Tryz.func14,Tryz.ntmps14
 go_wp2_with fail
 rw[←hW];clear hW;go_wp2_with fail
 with_reducible refine((checkR_q (h.below (bT hB (bT (b:=W) Bz))) (zh fun y hy=>(hok.out y hy).below (bT hB (bT (b:=W) Bz))) (zh (GVs.below hg.out (bT hB (bT (b:=W) Bz)))) zo hln (zt hT hB Bz)).mono fun _ _ hx=>TellsZs.ok hx HZ.out).mono ?_
 rintro e w1 ⟨A1,n1,c1,rfl,h1,hc1,b1⟩;replace b1:=zq (a:=W) b1;replace Bz:=bT Bz b1;clear h1;clear b1;clear pa0 pa1;have pa0:=(zxb HX0 Bz).cell 0 (.int .i64 inp) rfl;obtain⟨pb0,-,pb2,pb3,-⟩:=(zxb HX1 Bz).cz;go_wp2_with fail
 with_reducible refine(zAi (hqx.below (bT hB (bT (b:=w1) Bz))) (zh fun x hx=>(hfx x hx).below (bT hB (bT (b:=w1) Bz))) zo (by have:=hql;show q.xn≤_;omega) true HFx).mono ?_
 rintro e w2 ⟨rfl,b2⟩;replace b2:=zq (a:=w1) b2;replace Bz:=bT Bz b2;clear b2;clear pa0 pb0 pb2 pb3;have pb2:=(zxb HX1 Bz).cell 2 (.slice q.oA q.on q.oc) rfl;go_wp2_with fail
 with_reducible refine(zAi (hqo.below (bT hB (bT (b:=w2) Bz))) (zh fun x hx=>(hfo x hx).below (bT hB (bT (b:=w2) Bz))) zo (by have:=hql;show q.on≤_;omega) true HFo).mono ?_
 rintro e w3 ⟨rfl,b3⟩;replace b3:=zq (a:=w2) b3;replace Bz:=bT Bz b3;clear b3;clear pb2;have pb3:=(zxb HX1 Bz).cell 3 (.slice q.hA q.hn q.hc) rfl;go_wp2_with fail
 with_reducible refine(zAi (hqh.below (bT hB (bT (b:=w3) Bz))) (zh fun x hx=>(hfh x hx).below (bT hB (bT (b:=w3) Bz))) zo (by have:=hql;show q.hn≤_;omega) true HFh).mono ?_
 rintro e w4 ⟨rfl,b4⟩;replace b4:=zq (a:=w3) b4;replace Bz:=bT Bz b4;clear b4;clear pb3;have pb4:=(zxb HX1 Bz).cell 4 (.int .u8 q.norm) rfl;go_wp2_with fail
 go_ret
 have hF:=bT (c:=w4) hB Bz;exact⟨by rw[HA.out];rfl,bT hF⟩
theorem queryR_m1 {w:World} {m:Nat} {ni:Nat} {lA:Option Addr} {ln lc:Nat} {L:List Ly} {q:Qy} (h:Sl Ly.cs 13 w lA ln lc L) (hok:Hid (∀y∈L,LyOk w m y)) (hg:Hid (GVs w L)) (hm:m≤400) (hln:ln≤9223372036854775807) (hq:QyOk w m q) {l:List Int} (HZ:Hid (zAg (ni:Int) L=.ok l)) (g0:((q.xn:Int) !=(ni:Int))=false) (g1:((q.on:Int) !=(ni:Int))=false) (g2:((q.hn:Int) !=(ni:Int))=false) (HFx:Hid ((q.X.all fun x=>x.ex)=true)) (HFo:Hid ((q.O.all fun x=>x.ex)=true)) (HFh:Hid ((q.H.all fun x=>x.ex)=true)) (n1:(q.norm != 1)=false∨(q.norm != 1)=true∧(q.norm != 2)=false) (HOQ:Hid (okQ (ni:Int) q=true)) (HNM:Hid (¬(q.norm≠1∧q.norm≠2))) (hT:Hid (Tab w)) :
  Calls Tryz.prog 14 #[.agg #[.int .i64 (ni:Int),.slice lA ln lc],.agg #[.slice q.xA q.xn q.xc,.int .i64 q.label,.slice q.oA q.on q.oc,.slice q.hA q.hn q.hc,.int .u8 q.norm]] w fun e w'=>e=.returned (.int .i64 (zAq (ni:Int) L q))∧Below w.heap.size w w':=by
 rcases n1 with n1|⟨n1,n2⟩
 all_goals
  have hqx:Sl Fr.cs 4 w q.xA q.xn q.xc q.X:=hq.x.sl;have hfx:∀y∈q.X,FrOk w m y:=hq.x.fr;have hqo:Sl Fr.cs 4 w q.oA q.on q.oc q.O:=hq.o.sl;have hfo:∀y∈q.O,FrOk w m y:=hq.o.fr;have hqh:Sl Fr.cs 4 w q.hA q.hn q.hc q.H:=hq.h.sl;have hfh:∀y∈q.H,FrOk w m y:=hq.h.fr;have hql:q.xn≤100000∧q.on≤100000∧q.hn≤100000:=⟨hq.x.2.2,hq.o.2.2,hq.h.2.2⟩;obtain⟨W,hW,x0,x1,hB⟩:=zAh w #[.int .i64 (ni:Int),.slice lA ln lc] 24 #[.slice q.xA q.xn q.xc,.int .i64 q.label,.slice q.oA q.on q.oc,.slice q.hA q.hn q.hc,.int .u8 q.norm] 28;have HX0:=zh x0;have HX1:=zh x1;clear x0 x1;have Bz:=zr W;obtain⟨pa0,pa1,-⟩:=(zxb HX0 Bz).cz;go_enter Tryz.func14,Tryz.ntmps14
  go_wp2_with fail
  rw[←hW];clear hW;go_wp2_with fail
  with_reducible refine((checkR_q (h.below (bT hB (bT (b:=W) Bz))) (zh fun y hy=>(hok.out y hy).below (bT hB (bT (b:=W) Bz))) (zh (GVs.below hg.out (bT hB (bT (b:=W) Bz)))) zo hln (zt hT hB Bz)).mono fun _ _ hx=>TellsZs.ok hx HZ.out).mono ?_
  rintro e w1 ⟨A1,n1,c1,rfl,h1,hc1,b1⟩;replace b1:=zq (a:=W) b1;replace Bz:=bT Bz b1;clear b1;clear pa0 pa1;have pa0:=(zxb HX0 Bz).cell 0 (.int .i64 (ni:Int)) rfl;obtain⟨pb0,-,pb2,pb3,-⟩:=(zxb HX1 Bz).cz;go_wp2_with fail
  with_reducible refine(zAi (hqx.below (bT hB (bT (b:=w1) Bz))) (zh fun x hx=>(hfx x hx).below (bT hB (bT (b:=w1) Bz))) zo (by have:=hql;show q.xn≤_;omega) true HFx).mono ?_
  rintro e w2 ⟨rfl,b2⟩;replace b2:=zq (a:=w1) b2;replace h1:=h1.below b2;replace Bz:=bT Bz b2;clear b2;clear pa0 pb0 pb2 pb3;have pb2:=(zxb HX1 Bz).cell 2 (.slice q.oA q.on q.oc) rfl;go_wp2_with fail
  with_reducible refine(zAi (hqo.below (bT hB (bT (b:=w2) Bz))) (zh fun x hx=>(hfo x hx).below (bT hB (bT (b:=w2) Bz))) zo (by have:=hql;show q.on≤_;omega) true HFo).mono ?_
  rintro e w3 ⟨rfl,b3⟩;replace b3:=zq (a:=w2) b3;replace h1:=h1.below b3;replace Bz:=bT Bz b3;clear b3;clear pb2;have pb3:=(zxb HX1 Bz).cell 3 (.slice q.hA q.hn q.hc) rfl;go_wp2_with fail
  with_reducible refine(zAi (hqh.below (bT hB (bT (b:=w3) Bz))) (zh fun x hx=>(hfh x hx).below (bT hB (bT (b:=w3) Bz))) zo (by have:=hql;show q.hn≤_;omega) true HFh).mono ?_
  rintro e w4 ⟨rfl,b4⟩;replace b4:=zq (a:=w3) b4;replace h1:=h1.below b4;replace Bz:=bT Bz b4;clear b4;clear pb3;have pb4:=(zxb HX1 Bz).cell 4 (.int .u8 q.norm) rfl;go_wp2_with fail
  have hin:=sizes_steps HZ.out;have hst:=steps_ok hin.2.2.2;have hon:q.on=ni∧q.hn=ni:=by
   have:=HOQ.out;simp only[okQ,okV,Bool.and_eq_true,decide_eq_true_eq] at this
   obtain⟨_,⟨h1,_⟩,h2,_⟩:=this;simp only[Qy.o] at h1
   simp only[Qy.h] at h2
   omega
  have HOL:Hid (q.O.length=ni):=zh (hq.o.1.1.trans hon.1);have HHL:Hid (q.H.length=ni):=zh (hq.h.1.1.trans hon.2);have hon2:q.on≤ni∧ni≤q.on∧q.hn≤ni∧ni≤q.hn:=zo;clear hon;have HZL:Hid ((q.O.zip q.H).length=ni):=zh (by rw[List.length_zip,HOL.out,HHL.out];exact Nat.min_self _);have HQO:Hid (Sl Fr.cs 4 w q.oA q.on q.oc q.O):=zh hq.o.1;have HQH:Hid (Sl Fr.cs 4 w q.hA q.hn q.hc q.H):=zh hq.h.1;have HB1:=zh (bT hB Bz);have XX0:=zh (zxb HX0 Bz);have XX1:=zh (zxb HX1 Bz);have HU:=zh h1;obtain⟨nl,rfl⟩:∃nl,n1=nl+1:=⟨L.length,h1.1.symm.trans hst.1⟩;have HLL:Hid (l.length=nl+1):=zh h1.1;have hnl:nl≤16:=by have h1:=hst.1;have h2:=HLL.out;have h3:=hin.2.2.1;omega
  have hnm:ni≤64:=zi hin.2.1;clear hB Bz HX0 HX1 h1 hst hin;go_loopg [7] ni (fun gk s wr=>QR1 w #[.int .i64 (ni:Int),.slice lA ln lc] #[.slice q.xA q.xn q.xc,.int .i64 q.label,.slice q.oA q.on q.oc,.slice q.hA q.hn q.hc,.int .u8 q.norm] (q.O.zip q.H) ni gk s wr∧Below w4.heap.size w4 wr)
  case atStart=>exact⟨⟨0,Nat.zero_le _,rfl,rfl,HB1.out,XX0.out,XX1.out,by simp⟩,Below.refl _ _⟩
  case round =>
   clear HB1 XX0 XX1;obtain⟨⟨i,hi,hgk,rfl,hB,hx0,hx1,hd⟩,hBW⟩:=hrel;have HGK:=zh hgk;have HD:=zh hd;have HX0:=zh hx0;have HX1:=zh hx1;clear hgk hd hx0 hx1;by_cases hlt:i<ni
   ·obtain⟨b,off,hoA,hel⟩:=HQO.out.at Fr.cs_len zo zo;obtain⟨b',off',hhA,hel'⟩:=HQH.out.at Fr.cs_len zo zo;rw[hoA,hhA] at HX1;obtain⟨x,hx⟩:∃x,q.O[i]?=some x:=⟨q.O[i]'(by rw[HOL.out];exact hlt),List.getElem?_eq_getElem _⟩;obtain⟨y,hy⟩:∃y,q.H[i]?=some y:=⟨q.H[i]'(by rw[HHL.out];exact hlt),List.getElem?_eq_getElem _⟩;have hnd:=hel i x hx;have hnd':=hel' i y hy;have HZI:Hid ((q.O.zip q.H)[i]?=some (x,y)):=zh (by rw[List.getElem?_zip_eq_some];exact⟨hx,hy⟩);have HXI:=zh hx;have HYI:=zh hy;have HOA:=zh hoA;have HHA:=zh hhA;have i1:(i:Int)<(ni:Int):=zo;have i2:(0:Int)≤(i:Int):=zo;have i3:(i:Int)<(q.on:Int):=zo;have i4:(i:Int)<(q.hn:Int):=zo;obtain⟨z,HZZ⟩:∃z,Hid (cmpQ x.q y.q=z):=⟨_,zh rfl⟩;clear hx hel hy hel' hoA hhA;by_cases hz:0<z
    ·have HP:Hid (boxP (x,y)=false):=zh (by unfold boxP;simp only;rw[HZZ.out];simpa using hz);have Bz:=zr wr;have pa0:=(zxb HX0 Bz).cell 0 (.int .i64 (ni:Int)) rfl;obtain⟨-,-,pb2,pb3,-⟩:=(zxb HX1 Bz).cz;obtain⟨pA0,pA1,pA2,pA3,-⟩:=(hnd.below (bT hB Bz)).ez;obtain⟨pB0,pB1,pB2,pB3,-⟩:=(hnd'.below (bT hB Bz)).ez;go_wp2_with fail
     (try simp only[vAa,vB,vC])
     refine zl (zz [0,1,2,3,4,5,6,7,8,9] (.only 10 (.take 11 .done))) [] (zsa pb2 (zsa pb3 (zsa pA0 (zsa pA1 (zsa pA2 (zsa pA3 (zsa pB0 (zsa pB1 (zsa pB2 (zI pB3)))))))))) ?_;iterate 10 (refine zU ?_;try simp only[uW,uX,uY,uZ])
     refine zC 82 rfl rfl (fun K hK=>?_);go_simp
     with_reducible refine(cmp_r4 ((hq.o.fr x (List.mem_of_getElem? HXI.out)).below (bT hB (bT (b:=wr) Bz))).r ((hq.h.fr y (List.mem_of_getElem? HYI.out)).below (bT hB (bT (b:=wr) Bz))).r zo z HZZ).mono ?_
     rintro e w11 ⟨rfl,b11⟩;replace b11:=zq (a:=wr) b11;replace Bz:=bT Bz b11;clear b11;clear pa0 pb2 pb3 pA0 pA1 pA2 pA3 pB0 pB1 pB2 pB3;obtain⟨-,-,pb2,pb3,-⟩:=(zxb HX1 Bz).cz;obtain⟨pA0,pA1,pA2,pA3,-⟩:=(hnd.below (bT hB Bz)).ez;obtain⟨pB0,pB1,pB2,pB3,-⟩:=(hnd'.below (bT hB Bz)).ez;refine hK.out _ _ ⟨pb2,pb3,pA0,pA1,pA2,pA3,pB0,pB1,pB2,pB3⟩ (fun _=>?_);try simp only[uW,uX,uY,uZ]
     clear hK K;refine zU ?_;try simp only[uW,uX,uY,uZ]
     refine wpPlan_done ?_;go_wp2_with fail
     go_ret
     have hF:=bT (c:=w11) hB Bz;have HA:Hid (zAq (ni:Int) L q=23):=zh (by unfold zAq;rw[HZ.out];simp only;rw[if_neg (by rw[HOQ.out];simp),if_neg HNM.out,if_pos (show boxB q=false from all_no HZI.out HP.out)]);exact⟨by rw[HA.out];rfl,bT (bT hB Bz)⟩
    ·have HP:Hid (boxP (x,y)=true):=zh (by unfold boxP;simp only;rw[HZZ.out];simpa using hz);have Bz:=zr wr;have pa0:=(zxb HX0 Bz).cell 0 (.int .i64 (ni:Int)) rfl;obtain⟨-,-,pb2,pb3,-⟩:=(zxb HX1 Bz).cz;obtain⟨pA0,pA1,pA2,pA3,-⟩:=(hnd.below (bT hB Bz)).ez;obtain⟨pB0,pB1,pB2,pB3,-⟩:=(hnd'.below (bT hB Bz)).ez;go_wp2_with fail
     (try simp only[vAa,vB,vC])
     refine zl (zz [0,1,2,3,4,5,6,7,8,9] (.only 10 (.take 11 .done))) [] (zsa pb2 (zsa pb3 (zsa pA0 (zsa pA1 (zsa pA2 (zsa pA3 (zsa pB0 (zsa pB1 (zsa pB2 (zI pB3)))))))))) ?_;iterate 10 (refine zU ?_;try simp only[uW,uX,uY,uZ])
     refine zC 82 rfl rfl (fun K hK=>?_);go_simp
     with_reducible refine(cmp_r4 ((hq.o.fr x (List.mem_of_getElem? HXI.out)).below (bT hB (bT (b:=wr) Bz))).r ((hq.h.fr y (List.mem_of_getElem? HYI.out)).below (bT hB (bT (b:=wr) Bz))).r zo z HZZ).mono ?_
     rintro e w11 ⟨rfl,b11⟩;replace b11:=zq (a:=wr) b11;replace Bz:=bT Bz b11;clear b11;clear pa0 pb2 pb3 pA0 pA1 pA2 pA3 pB0 pB1 pB2 pB3;obtain⟨-,-,pb2,pb3,-⟩:=(zxb HX1 Bz).cz;obtain⟨pA0,pA1,pA2,pA3,-⟩:=(hnd.below (bT hB Bz)).ez;obtain⟨pB0,pB1,pB2,pB3,-⟩:=(hnd'.below (bT hB Bz)).ez;refine hK.out _ _ ⟨pb2,pb3,pA0,pA1,pA2,pA3,pB0,pB1,pB2,pB3⟩ (fun _=>?_);try simp only[uW,uX,uY,uZ]
     clear hK K;refine zU ?_;try simp only[uW,uX,uY,uZ]
     refine wpPlan_done ?_;go_wp2_with fail
     go_roundg (ni-(i+1))
     case measure=>have:=HGK.out;omega
     case rel=>exact⟨⟨i+1,zo,rfl,by go_num,bT (bT hB Bz),HX0.out.below (bT Bz),(by have:=HX1.out.below (bT Bz);rwa [←HOA.out,←HHA.out] at this),take_all HD.out HZI.out HP.out⟩,bT (bT hBW Bz)⟩
   ·obtain rfl:i=ni:=zo;have i1:¬(i:Int)<(i:Int):=zo;have HBX:Hid (boxB q=true):=zh (by have:=all_yes HZL.out HD.out;exact this);obtain⟨ub,uo,rfl,uel⟩:=HU.out.at ics_len zo zo;obtain⟨last,hla⟩:∃x,l[nl]?=some x:=⟨l[nl]'(by rw[HLL.out];omega),List.getElem?_eq_getElem _⟩;have und:ElA w4 ub (uo+nl) (ics last):=by have:=uel nl last hla;rwa [Nat.mul_one] at this
    have HLA:Hid (l.getLastD 0=last):=zh (by rw[List.getLastD_eq_getLast?,List.getLast?_eq_getElem?,HLL.out,Nat.add_sub_cancel,hla];rfl);clear uel hla;by_cases hneg:q.label<0
    ·have hnd:decide (q.label<0)=true:=decide_eq_true hneg;have HA:Hid (zAq (i:Int) L q=24):=zh (by unfold zAq;rw[HZ.out];simp only;rw[if_neg (by rw[HOQ.out];simp),if_neg HNM.out,if_neg (by rw[HBX.out];simp),if_pos hneg]);have Bz:=zr wr;have pa0:=(zxb HX0 Bz).cell 0 (.int .i64 (i:Int)) rfl;have pb1:=(zxb HX1 Bz).cell 1 (.int .i64 q.label) rfl;go_wp2_with fail
     have w0:IntKind.i64.wrap (nl:Int)=(nl:Int):=IntWalk.i64_in _ zo;have w1':(0:Int)≤(nl:Int):=zo;have w2':(nl:Int)<(nl:Int)+1:=zo;(try simp only[vAa,vB,vC])
     refine zl (zz [0,1,2,3,4,5,6,7,8,9,10,11,12,13] .done) [] (zI pb1) ?_;iterate 4 (refine zU ?_;try simp only[uW,uX,uY,uZ])
     iterate 9 (refine zN rfl rfl ?_;try simp only[uW,uX,uY,uZ])
     refine zU ?_;try simp only[uW,uX,uY,uZ]
     refine wpPlan_done ?_;clear w0 w1' w2';go_wp2_with fail
     go_ret
     have hF:=bT (c:=wr) hB Bz;exact⟨by rw[HA.out];rfl,bT (bT hB Bz)⟩
    ·have hnd:decide (q.label<0)=false:=decide_eq_false hneg;by_cases hhi:last≤q.label
     ·have HA:Hid (zAq (i:Int) L q=24):=zh (by unfold zAq;rw[HZ.out];simp only;rw[if_neg (by rw[HOQ.out];simp),if_neg HNM.out,if_neg (by rw[HBX.out];simp),if_neg hneg,if_pos (by rw[HLA.out];exact hhi)]);have Bz:=zr wr;have pa0:=(zxb HX0 Bz).cell 0 (.int .i64 (i:Int)) rfl;have pb1:=(zxb HX1 Bz).cell 1 (.int .i64 q.label) rfl;have pA0:=(und.below (bT hBW Bz)).c0 (u:=.int .i64 last) rfl;go_wp2_with fail
      have w0:IntKind.i64.wrap (nl:Int)=(nl:Int):=IntWalk.i64_in _ zo;have w1':(0:Int)≤(nl:Int):=zo;have w2':(nl:Int)<(nl:Int)+1:=zo;(try simp only[vAa,vB,vC])
      refine zl (zz [0,1,2,3,4,5,6,7,8,9,10,11,12,13] .done) [] (zsa pb1 (zI pA0)) ?_;iterate 14 (refine zU ?_;try simp only[uW,uX,uY,uZ])
      refine wpPlan_done ?_;clear w0 w1' w2';go_wp2_with fail
      go_ret
      have hF:=bT (c:=wr) hB Bz;exact⟨by rw[HA.out];rfl,bT (bT hB Bz)⟩
     ·have HA:Hid (zAq (i:Int) L q=0):=zh (by unfold zAq;rw[HZ.out];simp only;rw[if_neg (by rw[HOQ.out];simp),if_neg HNM.out,if_neg (by rw[HBX.out];simp),if_neg hneg,if_neg (by rw[HLA.out];exact hhi)]);have Bz:=zr wr;have pa0:=(zxb HX0 Bz).cell 0 (.int .i64 (i:Int)) rfl;have pb1:=(zxb HX1 Bz).cell 1 (.int .i64 q.label) rfl;have pA0:=(und.below (bT hBW Bz)).c0 (u:=.int .i64 last) rfl;go_wp2_with fail
      have w0:IntKind.i64.wrap (nl:Int)=(nl:Int):=IntWalk.i64_in _ zo;have w1':(0:Int)≤(nl:Int):=zo;have w2':(nl:Int)<(nl:Int)+1:=zo;(try simp only[vAa,vB,vC])
      refine zl (zz [0,1,2,3,4,5,6,7,8,9,10,11,12,13] .done) [] (zsa pb1 (zI pA0)) ?_;iterate 14 (refine zU ?_;try simp only[uW,uX,uY,uZ])
      refine wpPlan_done ?_;clear w0 w1' w2';go_wp2_with fail
      go_ret
      have hF:=bT (c:=wr) hB Bz;exact⟨by rw[HA.out];rfl,bT (bT hB Bz)⟩
theorem queryR_q {w:World} {m:Nat} {inp:Int} {lA:Option Addr} {ln lc:Nat} {L:List Ly} {q:Qy} (h:Sl Ly.cs 13 w lA ln lc L) (hok:Hid (∀y∈L,LyOk w m y)) (hg:Hid (GVs w L)) (hm:m≤400) (hln:ln≤9223372036854775807) (hq:QyOk w m q) (hT:Hid (Tab w)) :
  Calls Tryz.prog 14 #[.agg #[.int .i64 inp,.slice lA ln lc],.agg #[.slice q.xA q.xn q.xc,.int .i64 q.label,.slice q.oA q.on q.oc,.slice q.hA q.hn q.hc,.int .u8 q.norm]] w fun e w'=>e=.returned (.int .i64 (zAq inp L q))∧Below w.heap.size w w':=by
 cases hz:zAg inp L with
 | error z =>
  have hz2:=sizes_err hz;exact queryR_er h hok hg hm hln hq (zh hz) (by rcases hz2 with rfl | rfl<;>rfl) (zh (by unfold zAq;rw[hz])) hT
 | ok l =>
  by_cases e0:(q.xn:Int)=inp
  rotate_left
  ·exact queryR_0 h hok hg hm hln hq (zh hz) (by simp[e0]) (zh (by unfold zAq;rw[hz];simp only;rw[if_pos (okQ_no (.inl e0))])) hT
  by_cases e1:(q.on:Int)=inp
  rotate_left
  ·exact queryR_1 h hok hg hm hln hq (zh hz) (by simp[e0]) (by simp[e1]) (zh (by unfold zAq;rw[hz];simp only;rw[if_pos (okQ_no (.inr (.inl e1)))])) hT
  by_cases e2:(q.hn:Int)=inp
  rotate_left
  ·exact queryR_2 h hok hg hm hln hq (zh hz) (by simp[e0]) (by simp[e1]) (by simp[e2]) (zh (by unfold zAq;rw[hz];simp only;rw[if_pos (okQ_no (.inr (.inr (.inl e2))))])) hT
  cases f0:q.X.all fun x=>x.ex
  ·exact queryR_3 h hok hg hm hln hq (zh hz) (by simp[e0]) (by simp[e1]) (by simp[e2]) (zh f0) (zh (by unfold zAq;rw[hz];simp only;rw[if_pos (okQ_no (.inr (.inr (.inr (.inl f0)))))])) hT
  cases f1:q.O.all fun x=>x.ex
  ·exact queryR_4 h hok hg hm hln hq (zh hz) (by simp[e0]) (by simp[e1]) (by simp[e2]) (zh f0) (zh f1) (zh (by unfold zAq;rw[hz];simp only;rw[if_pos (okQ_no (.inr (.inr (.inr (.inr (.inl f1))))))])) hT
  cases f2:q.H.all fun x=>x.ex
  ·exact queryR_5 h hok hg hm hln hq (zh hz) (by simp[e0]) (by simp[e1]) (by simp[e2]) (zh f0) (zh f1) (zh f2) (zh (by unfold zAq;rw[hz];simp only;rw[if_pos (okQ_no (.inr (.inr (.inr (.inr (.inr (f2)))))))])) hT
  have ho:=okQ_yes e0 e1 e2 f0 f1 f2;by_cases n1:q.norm=1
  ·obtain⟨ni,rfl⟩:∃ni:Nat,inp=(ni:Int):=⟨inp.toNat,by have:=(sizes_steps hz).1;omega⟩;exact queryR_m1 h hok hg hm hln hq (zh hz) (by simp[e0]) (by simp[e1]) (by simp[e2]) (zh f0) (zh f1) (zh f2) (.inl (by simp[n1])) (zh ho) (zh fun hx=>hx.1 n1) hT
  ·by_cases n2:q.norm=2
   ·obtain⟨ni,rfl⟩:∃ni:Nat,inp=(ni:Int):=⟨inp.toNat,by have:=(sizes_steps hz).1;omega⟩;exact queryR_m1 h hok hg hm hln hq (zh hz) (by simp[e0]) (by simp[e1]) (by simp[e2]) (zh f0) (zh f1) (zh f2) (.inr ⟨by simp[n1],by simp[n2]⟩) (zh ho) (zh fun hx=>hx.2 n2) hT
   ·exact queryR_6 h hok hg hm hln hq (zh hz) (by simp[e0]) (by simp[e1]) (by simp[e2]) (zh f0) (zh f1) (zh f2) (by simp[n1]) (by simp[n2]) (zh (by unfold zAq;rw[hz];simp only;rw[if_neg (by rw[ho];simp),if_pos ⟨n1,n2⟩])) hT
open Go.RowKit Tw
def CW2 (w:World) (E:List (List (Int×Dg))) (n gk:Nat) (s3 s4:Value) (wr:World):Prop :=
 ∃(i:Nat) (H:Option Addr) (hc:Nat) (O:List Vc),s3=.slice H i hc∧s4=.int .i64 (i:Int)∧i≤n∧n-i=gk∧OwnR wr w.heap.size 75 1 (.slice H i hc) i (flat Vc.cs O)∧LR VcU wr (.slice H i hc) w.heap.size O (E.take i)∧Below w.heap.size w wr
theorem copyVecsR_q {w:World} {A:Option Addr} {n c:Nat} {E:List (List (Int×Dg))} (h:RowsD w A n c E) (hn:n≤1000000) :
  Calls Tryz.prog 22 #[.slice A n c] w fun e w'=>∃H hc,e=.returned (.slice H n hc)∧Rob w' w.heap.size w'.heap.size (fun u=>RowsD u H n hc E)∧Below w.heap.size w w':=by
 have HLE:=zh h.len;obtain⟨⟨CL,h1,h2⟩,h3⟩:=h;have HS:=zh h1;have HLN:=zh h1.1;have HVS:=zh h2;have HEL:=zh h3;clear h1 h2 h3;go_enter Tryz.func22,Tryz.ntmps22
 go_wp2_with fail
 go_loopg [3,4] n (fun gk s3 s4 wr=>CW2 w E n gk s3 s4 wr)
 case atStart=>exact⟨0,none,0,[],rfl,rfl,Nat.zero_le _,rfl,OwnR.nil _ _ _ _,LR.nil,Below.refl _ _⟩
 case round =>
  obtain⟨i,H,hc,O,rfl,rfl,hi,hgk,ho,hvs,hB⟩:=hrel;have HGK:=zh hgk;clear hgk;by_cases hlt:i<n
  ·obtain⟨b,off,rfl,hel⟩:=HS.out.at Vc.cs_len zo zo;obtain⟨v,d,hv,hd,hvd0⟩:=HVS.out.has (i:=i) (by rw[HLN.out];exact hlt);have hnd:ElA w b (off+i) (Vc.cs v):=by have:=hel i v hv;rwa [Nat.mul_one] at this
   have hvd:=VcD.below hvd0 hB;have HD:=zh hd;have hvn:v.n≤1000000:=by have h1:=VcD.len hvd0;have h2:=HEL.out d (List.mem_of_getElem? hd);omega
   have i1:(i:Int)<(n:Int):=zo;have i2:(0:Int)≤(i:Int):=zo;clear hel hv hd hvd0;have Bz:=zr wr;have pA0:=(hnd.below (bT hB Bz)).c0 (u:=.slice v.A v.n v.c) rfl;go_wp2_with fail
   have hoff:=OwnR.lt ho;have hsz:w.heap.size≤wr.heap.size:=zi (zw hB Bz);with_reducible refine(copyVecR_q (VcD.below hvd) hvn).mono ?_
   rintro e w11 ⟨A11,c11,rfl,h11,b11⟩;replace b11:=zq (a:=wr) b11;replace hvs:=hvs.below b11;replace ho:=ho.below b11;replace Bz:=bT Bz b11;clear b11;have hx11:LR1 VcU w11 (.slice H i hc) w.heap.size ⟨A11,v.n,c11,v.L⟩ d:=⟨_,_,hsz,fun g hg=>.inl (hoff g hg),h11⟩;clear hoff hsz h11;clear pA0;go_wp2_with (at_builtin;refine And.left (b:=True) ?_)
   refine⟨?_,trivial⟩;obtain⟨V11,hW,x0,hN⟩:=zAc w11 #[.slice A11 v.n c11] 75;rw[←hW];clear hW;obtain⟨v0,hb0⟩:=ze w11.heap.size;rw[←hb0] at x0 ⊢;have ow_0:w.heap.size≤v0:=zi (zw hB Bz);have nv0_own:=OwnR.off' (b:=v0) ho zo;replace hvs:=hvs.below hN;replace hx11:=hx11.below hN;replace ho:=ho.below hN;replace hB:=bT (bT hB Bz) hN;have HX0:=zh x0;clear x0 hN Bz hb0;have Bz:=zr V11;have hdr:V11.drew.heap.size=V11.heap.size:=rfl;have hdr2:V11.drew.drew.heap.size=V11.heap.size:=rfl;refine Elt.app elt_vcs rfl _ _ rfl (w.heap.size) (.slice H i hc) (i) (O) rfl ho (.slice (some ⟨v0,0,none⟩) 1 1) (1) ([⟨A11,v.n,c11,v.L⟩]) rfl (From.one (HX0.out.below (bT Bz)) (⟨A11,v.n,c11,v.L⟩) rfl (elt_vcs.len _)) zo (zi (zw hB Bz)) ?_;intro H12 c12 w12 ho12 hg12;replace hB:=(bT (bT hB Bz)).trans (hg12.below (zi (zw hB Bz)) (fun g hg=>by have:=ho.base g hg;omega));clear HX0;clear hdr hdr2;replace hvs:=hvs.grow hg12;replace hx11:=hx11.grow hg12;clear hg12 Bz;have Bz:=zr w12;go_wp2_with fail
   go_roundg (n-(i+1))
   case measure=>have:=HGK.out;omega
   case rel=>exact⟨i+1,_,_,_,rfl,by go_num,zo,rfl,OwnR.below ho12,All2.take (LR.below hvs) HD.out (LR1.below hx11),bT (bT hB Bz)⟩
  ·obtain rfl:i=n:=zo;have i1:¬(i:Int)<(i:Int):=zo;have HR:Hid (Rob wr w.heap.size wr.heap.size (fun u=>RowsD u H i hc E)):=zh (by
    have h9:=hvs;rw[List.take_of_length_le (by rw[HLE.out];exact Nat.le_refl _)] at h9;exact rows_rob (ho.rob elt_vcs (ho.eltn elt_vcs zo)) h9 HEL.out)
   clear ho hvs;go_wp2_with fail
   go_ret
   exact⟨H,hc,rfl,HR.out,hB⟩
theorem copyInts_rob {w w':World} {n c:Nat} {H:Option Addr} {L:List Int} (h:OwnR w' w.heap.size 3 1 (.slice H (0+n) c) (0+n) (flat ics ([]++L))) (hl:L.length=n):Rob w' w.heap.size w'.heap.size (fun u=>Sl ics 1 u H n c L):=by
 rw[Nat.zero_add,List.nil_append] at h;exact h.rob elt_int hl
theorem copyIntsR_q {w:World} {A:Option Addr} {n c:Nat} {L:List Int} (h:Sl ics 1 w A n c L) (hn:n≤1000000) :
  Calls Tryz.prog 24 #[.slice A n c] w fun e w'=>∃H hc,e=.returned (.slice H n hc)∧Rob w' w.heap.size w'.heap.size (fun u=>Sl ics 1 u H n hc L)∧Below w.heap.size w w':=by
 have hl0:=h.1;have hs:=h;have ho:OwnR w w.heap.size 3 1 (.slice none 0 0) 0 (flat ics ([]:List Int)):=OwnR.nil _ _ _ _;clear h;have hB:=Below.refl w.heap.size w;have Bz:=zr w;go_enter Tryz.func24,Tryz.ntmps24
 go_wp2_with (at_builtin;refine And.left (b:=True) ?_)
 refine⟨?_,trivial⟩;have hdr:w.drew.heap.size=w.heap.size:=rfl;have hdr2:w.drew.drew.heap.size=w.heap.size:=rfl;refine Elt.app elt_int rfl _ _ rfl (w.heap.size) ((Value.slice none 0 0)) (0) (([]:List Int)) rfl ho (.slice A n c) (n) (L) rfl (Sl.below hs).2 zo (zi (zw hB Bz)) ?_;intro H1 c1 w1 ho1 hg1;replace hB:=(bT (bT hB Bz)).trans (hg1.below (zi (zw hB Bz)) (fun g hg=>by have:=ho.base g hg;omega));clear hdr hdr2;clear hg1 Bz;have Bz:=zr w1;go_wp2_with fail
 go_ret
 have hF:=bT (c:=w1) hB Bz;exact⟨_,_,rfl,copyInts_rob (OwnR.below ho1) hl0,bT hF⟩
theorem sameLayer_q {w:World} {y z:Ly} {d:LyG} (h:LyD w y d) (k:LyD w z d) (hn:y.rn≤1000000∧y.bn≤1000000∧y.kn≤1000000∧y.gn≤1000000) :
  Calls Tryz.prog 35 #[.agg #[.int .u8 y.kind,.slice y.rA y.rn y.rc,.slice y.bA y.bn y.bc,.int .i64 y.ch,.int .i64 y.high,.int .i64 y.wide,.int .i64 y.out,.int .i64 y.kh,.int .i64 y.kw,.int .i64 y.st,.int .i64 y.pad,.slice y.kA y.kn y.kc,.slice y.gA y.gn y.gc],.agg #[.int .u8 z.kind,.slice z.rA z.rn z.rc,.slice z.bA z.bn z.bc,.int .i64 z.ch,.int .i64 z.high,.int .i64 z.wide,.int .i64 z.out,.int .i64 z.kh,.int .i64 z.kw,.int .i64 z.st,.int .i64 z.pad,.slice z.kA z.kn z.kc,.slice z.gA z.gn z.gc]] w fun e w'=>e=.returned (.bool true)∧Below w.heap.size w w':=by
 have e0:z.kind=y.kind:=k.kind.trans h.kind.symm;have e1:nums z=nums y:=k.ns.trans h.ns.symm;unfold nums at e1
 simp only[List.cons.injEq,and_true] at e1
 obtain⟨a1,a2,a3,a4,a5,a6,a7,a8⟩:=e1;rw[e0,a1,a2,a3,a4,a5,a6,a7,a8];obtain⟨-,h1,h2,-,h3,h4⟩:=h;obtain⟨-,k1,k2,-,k3,k4⟩:=k;clear e0 a1 a2 a3 a4 a5 a6 a7 a8;have b0:(y.kind==y.kind)=true:=by simp
 have b1:(y.ch==y.ch)=true:=by simp
 have b2:(y.high==y.high)=true:=by simp
 have b3:(y.wide==y.wide)=true:=by simp
 have b4:(y.out==y.out)=true:=by simp
 have b5:(y.kh==y.kh)=true:=by simp
 have b6:(y.kw==y.kw)=true:=by simp
 have b7:(y.st==y.st)=true:=by simp
 have b8:(y.pad==y.pad)=true:=by simp
 obtain⟨W,hW,x0,x1,hB⟩:=zAh w #[.int .u8 y.kind,.slice y.rA y.rn y.rc,.slice y.bA y.bn y.bc,.int .i64 y.ch,.int .i64 y.high,.int .i64 y.wide,.int .i64 y.out,.int .i64 y.kh,.int .i64 y.kw,.int .i64 y.st,.int .i64 y.pad,.slice y.kA y.kn y.kc,.slice y.gA y.gn y.gc] 49 #[.int .u8 y.kind,.slice z.rA z.rn z.rc,.slice z.bA z.bn z.bc,.int .i64 y.ch,.int .i64 y.high,.int .i64 y.wide,.int .i64 y.out,.int .i64 y.kh,.int .i64 y.kw,.int .i64 y.st,.int .i64 y.pad,.slice z.kA z.kn z.kc,.slice z.gA z.gn z.gc] 49;replace h2:=h2.below hB;replace h4:=h4.below hB;replace h3:=h3.below hB;replace h1:=h1.below hB;replace k2:=k2.below hB;replace k4:=k4.below hB;replace k3:=k3.below hB;replace k1:=k1.below hB;have HX0:=zh x0;have HX1:=zh x1;clear x0 x1;have Bz:=zr W;obtain⟨pa0,pa1,-⟩:=(zxb HX0 Bz).cz;obtain⟨pb0,pb1,-⟩:=(zxb HX1 Bz).cz;go_enter Tryz.func35,Tryz.ntmps35
 go_wp2_with fail
 rw[←hW];clear hW;go_wp2_with fail
 with_reducible refine(sameVecs_d (RowsD.below h1) (RowsD.below k1) zo).mono ?_
 rintro e w1 ⟨rfl,b1⟩;replace b1:=zq (a:=W) b1;replace h2:=h2.below b1;replace h4:=h4.below b1;replace h3:=h3.below b1;replace k2:=k2.below b1;replace k4:=k4.below b1;replace k3:=k3.below b1;replace Bz:=bT Bz b1;clear b1;clear pa0 pa1 pb0 pb1;have pa2:=(zxb HX0 Bz).cell 2 (.slice y.bA y.bn y.bc) rfl;have pb2:=(zxb HX1 Bz).cell 2 (.slice z.bA z.bn z.bc) rfl;go_wp2_with fail
 with_reducible refine(sameRats_d (FsD.below h2) (FsD.below k2) zo).mono ?_
 rintro e w2 ⟨rfl,b2⟩;replace b2:=zq (a:=w1) b2;replace h4:=h4.below b2;replace h3:=h3.below b2;replace k4:=k4.below b2;replace k3:=k3.below b2;replace Bz:=bT Bz b2;clear b2;clear pa2 pb2;obtain⟨-,-,-,pa3,pa4,pa5,pa6,pa7,pa8,pa9,paa,pab,-⟩:=(zxb HX0 Bz).cz;obtain⟨-,-,-,pb3,pb4,pb5,pb6,pb7,pb8,pb9,pba,pbb,-⟩:=(zxb HX1 Bz).cz;go_wp2_with fail
 with_reducible refine(sameRats_d (FsD.below h3) (FsD.below k3) zo).mono ?_
 rintro e w3 ⟨rfl,b3⟩;replace b3:=zq (a:=w2) b3;replace h4:=h4.below b3;replace k4:=k4.below b3;replace Bz:=bT Bz b3;clear b3;clear pa3 pa4 pa5 pa6 pa7 pa8 pa9 paa pab pb3 pb4 pb5 pb6 pb7 pb8 pb9 pba pbb;have pac:=(zxb HX0 Bz).cell 12 (.slice y.gA y.gn y.gc) rfl;have pbc:=(zxb HX1 Bz).cell 12 (.slice z.gA z.gn z.gc) rfl;go_wp2_with fail
 with_reducible refine(sameGroups_d (GsD.below h4) (GsD.below k4) zo).mono ?_
 rintro e w4 ⟨rfl,b4⟩;replace b4:=zq (a:=w3) b4;replace Bz:=bT Bz b4;clear b4;clear pac pbc;go_wp2_with fail
 go_ret
 have hF:=bT (c:=w4) hB Bz;exact⟨rfl,bT hF⟩
def NetD (w:World) (A:Option Addr) (n c:Nat) (E:List LyG):Prop:=∃L,Sl Ly.cs 13 w A n c L∧All2 (LyD w) L E∧∀y∈L,y.rn≤1000000∧y.bn≤1000000∧y.kn≤1000000∧y.gn≤1000000
theorem NetD.below {w w':World} {A:Option Addr} {n c:Nat} {E:List LyG} (h:NetD w A n c E) (hb:Below w.heap.size w w':=by go_grown):NetD w' A n c E:=by
 obtain⟨L,h1,h2,h3⟩:=h;exact⟨L,h1.below hb,All2.mono h2 fun _ _ hx=>hx.below hb,h3⟩
theorem NetD.len {w:World} {A:Option Addr} {n c:Nat} {E:List LyG} (h:NetD w A n c E):E.length=n:=by
 obtain⟨L,h1,h2,_⟩:=h;rw[←h2.1,h1.1]
def RbN1 (w:World) (c1 c2:Array Value) (n gk:Nat) (s:Value) (wr:World):Prop:=∃i:Nat,i≤n∧n-i=gk∧s=.int .i64 (i:Int)∧Bx wr w.heap.size c1 24∧Bx wr (w.heap.size+1) c2 24∧Below w.heap.size w wr
theorem sameNet_q {w:World} {A A':Option Addr} {n c n' c':Nat} {inp:Int} {E:List LyG} (h:NetD w A n c E) (h':NetD w A' n' c' E) (hn:n≤1000000) :
  Calls Tryz.prog 15 #[.agg #[.int .i64 inp,.slice A n c],.agg #[.int .i64 inp,.slice A' n' c']] w fun e w'=>e=.returned (.bool true)∧Below w.heap.size w w':=by
 obtain rfl:n=n':=by have h1:=h.len;have h2:=h'.len;omega
 obtain⟨L,h1,h2,h3⟩:=h;obtain⟨L',h1',h2',h3'⟩:=h';have HS:=zh h1;have HS':=zh h1';have HLN:=zh h1.1;have HLN':=zh h1'.1;have HVS:=zh h2;have HVS':=zh h2';have HEL:=zh h3;have g0:(inp != inp)=false:=by simp
 have g1:((n:Int) !=(n:Int))=false:=by simp
 clear h1 h2 h3 h1' h2' h3';obtain⟨W,hW,x0,x1,hB⟩:=zAh w #[.int .i64 inp,.slice A n c] 24 #[.int .i64 inp,.slice A' n c'] 24;have HX0:=zh x0;have HX1:=zh x1;clear x0 x1;have Bz:=zr W;obtain⟨pa0,pa1,-⟩:=(zxb HX0 Bz).cz;obtain⟨pb0,pb1,-⟩:=(zxb HX1 Bz).cz;go_enter Tryz.func15,Tryz.ntmps15
 go_wp2_with fail
 rw[←hW];clear hW;go_wp2_with fail
 have HB1:=zh (bT hB Bz);have XX0:=zh (zxb HX0 Bz);have XX1:=zh (zxb HX1 Bz);clear hB Bz HX0 HX1;go_loopg [5] n (fun gk s wr=>RbN1 w #[.int .i64 inp,.slice A n c] #[.int .i64 inp,.slice A' n c'] n gk s wr)
 case atStart=>exact⟨0,Nat.zero_le _,rfl,rfl,XX0.out.below (by go_grown),XX1.out.below (by go_grown),bT HB1.out⟩
 case round =>
  clear XX0 XX1 HB1;obtain⟨i,hi,hgk,rfl,hx0,hx1,hB⟩:=hrel;have HGK:=zh hgk;have HX0:=zh hx0;have HX1:=zh hx1;clear hgk hx0 hx1;by_cases hlt:i<n
  ·obtain⟨b,off,rfl,hel⟩:=HS.out.at Ly.cs_len zo zo;obtain⟨b',off',rfl,hel'⟩:=HS'.out.at Ly.cs_len zo zo;obtain⟨y,d,hy,hd,hyd⟩:=HVS.out.has (i:=i) (by rw[HLN.out];exact hlt);obtain⟨z,hz⟩:∃z,L'[i]?=some z:=⟨L'[i]'(by rw[HLN'.out];exact hlt),List.getElem?_eq_getElem _⟩;have HYD:=zh hyd;have HZD:=zh (HVS'.out.2 i z d hz hd);have hnd:=hel i y hy;have hnd':=hel' i z hz;have hyn:=HEL.out y (List.mem_of_getElem? hy);have i1:(i:Int)<(n:Int):=zo;have i2:(0:Int)≤(i:Int):=zo;clear hel hel' hy hz hd hyd;have Bz:=zr wr;have pa1:=(zxb HX0 Bz).cell 1 (.slice (some ⟨b,off,none⟩) n c) rfl;have pb1:=(zxb HX1 Bz).cell 1 (.slice (some ⟨b',off',none⟩) n c') rfl;obtain⟨pA0,pA1,pA2,pA3,pA4,pA5,pA6,pA7,pA8,pA9,pAa,pAb,pAc,-⟩:=(hnd.below (bT hB Bz)).ez;obtain⟨pB0,pB1,pB2,pB3,pB4,pB5,pB6,pB7,pB8,pB9,pBa,pBb,pBc,-⟩:=(hnd'.below (bT hB Bz)).ez;go_wp2_with fail
   (try simp only[vAa,vB,vC])
   refine zl (zz [0,1,2,3,4,5,6,7,8,9] (.only 10 (.take 11 .done))) [] (zsa pa1 (zsa pb1 (zsa pA0 (zsa pA1 (zsa pA2 (zsa pA3 (zsa pA4 (zsa pA5 (zsa pA6 (zsa pA7 (zsa pA8 (zsa pA9 (zsa pAa (zsa pAb (zsa pAc (zsa pB0 (zsa pB1 (zsa pB2 (zsa pB3 (zsa pB4 (zsa pB5 (zsa pB6 (zsa pB7 (zsa pB8 (zsa pB9 (zsa pBa (zsa pBb (zI pBc)))))))))))))))))))))))))))) ?_;iterate 10 (refine zU ?_;try simp only[uW,uX,uY,uZ])
   refine zC 37 rfl rfl (fun K hK=>?_);go_simp
   with_reducible refine(sameLayer_q (LyD.below HYD.out (bT hB (bT (b:=wr) Bz))) (LyD.below HZD.out (bT hB (bT (b:=wr) Bz))) hyn).mono ?_
   rintro e w11 ⟨rfl,b11⟩;replace b11:=zq (a:=wr) b11;replace Bz:=bT Bz b11;clear b11;clear pa1 pb1 pA0 pA1 pA2 pA3 pA4 pA5 pA6 pA7 pA8 pA9 pAa pAb pAc pB0 pB1 pB2 pB3 pB4 pB5 pB6 pB7 pB8 pB9 pBa pBb pBc;have pa1:=(zxb HX0 Bz).cell 1 (.slice (some ⟨b,off,none⟩) n c) rfl;have pb1:=(zxb HX1 Bz).cell 1 (.slice (some ⟨b',off',none⟩) n c') rfl;obtain⟨pA0,pA1,pA2,pA3,pA4,pA5,pA6,pA7,pA8,pA9,pAa,pAb,pAc,-⟩:=(hnd.below (bT hB Bz)).ez;obtain⟨pB0,pB1,pB2,pB3,pB4,pB5,pB6,pB7,pB8,pB9,pBa,pBb,pBc,-⟩:=(hnd'.below (bT hB Bz)).ez;refine hK.out _ _ ⟨pa1,pb1,pA0,pA1,pA2,pA3,pA4,pA5,pA6,pA7,pA8,pA9,pAa,pAb,pAc,pB0,pB1,pB2,pB3,pB4,pB5,pB6,pB7,pB8,pB9,pBa,pBb,pBc⟩ (fun _=>?_);try simp only[uW,uX,uY,uZ]
   clear hK K;refine zU ?_;try simp only[uW,uX,uY,uZ]
   refine wpPlan_done ?_;go_wp2_with fail
   go_roundg (n-(i+1))
   case measure=>have:=HGK.out;omega
   case rel=>exact⟨i+1,zo,rfl,by go_num,HX0.out.below (bT Bz),HX1.out.below (bT Bz),bT (bT hB Bz)⟩
  ·obtain rfl:i=n:=zo;have i1:¬(i:Int)<(i:Int):=zo;have Bz:=zr wr;have Bz:=zr wr;have pa1:=(zxb HX0 Bz).cell 1 (.slice A i c) rfl;go_wp2_with fail
   go_ret
   have hF:=bT (c:=wr) hB Bz;exact⟨rfl,bT hF⟩
structure QyG where
 x:List Dg
 o:List Dg
 h:List Dg
structure QyD (u:World) (q:Qy) (d:QyG):Prop where
 x:FsD u q.xA q.xn q.xc d.x
 o:FsD u q.oA q.on q.oc d.o
 h:FsD u q.hA q.hn q.hc d.h
theorem QyD.below {w w':World} {q:Qy} {d:QyG} (h:QyD w q d) (hb:Below w.heap.size w w':=by go_grown):QyD w' q d:=⟨h.x.below hb,h.o.below hb,h.h.below hb⟩
theorem sameQuery_q {w:World} {p q:Qy} {d:QyG} (h:QyD w q d) (k:QyD w p d) (hn:q.xn≤1000000∧q.on≤1000000∧q.hn≤1000000) :
  Calls Tryz.prog 16 #[.agg #[.slice q.xA q.xn q.xc,.int .i64 q.label,.slice q.oA q.on q.oc,.slice q.hA q.hn q.hc,.int .u8 q.norm],.agg #[.slice p.xA p.xn p.xc,.int .i64 q.label,.slice p.oA p.on p.oc,.slice p.hA p.hn p.hc,.int .u8 q.norm]] w fun e w'=>e=.returned (.bool true)∧Below w.heap.size w w':=by
 obtain⟨hx,ho,hh⟩:=h;obtain⟨kx,ko,kh⟩:=k;have b0:(q.label==q.label)=true:=by simp
 have b1:(q.norm==q.norm)=true:=by simp
 obtain⟨W,hW,x0,x1,hB⟩:=zAh w #[.slice q.xA q.xn q.xc,.int .i64 q.label,.slice q.oA q.on q.oc,.slice q.hA q.hn q.hc,.int .u8 q.norm] 28 #[.slice p.xA p.xn p.xc,.int .i64 q.label,.slice p.oA p.on p.oc,.slice p.hA p.hn p.hc,.int .u8 q.norm] 28;replace hh:=hh.below hB;replace ho:=ho.below hB;replace hx:=hx.below hB;replace kh:=kh.below hB;replace ko:=ko.below hB;replace kx:=kx.below hB;have HX0:=zh x0;have HX1:=zh x1;clear x0 x1;have Bz:=zr W;have pa0:=(zxb HX0 Bz).cell 0 (.slice q.xA q.xn q.xc) rfl;have pb0:=(zxb HX1 Bz).cell 0 (.slice p.xA p.xn p.xc) rfl;go_enter Tryz.func16,Tryz.ntmps16
 go_wp2_with fail
 rw[←hW];clear hW;go_wp2_with fail
 with_reducible refine(sameRats_d (FsD.below hx) (FsD.below kx) zo).mono ?_
 rintro e w1 ⟨rfl,b1⟩;replace b1:=zq (a:=W) b1;replace hh:=hh.below b1;replace ho:=ho.below b1;replace kh:=kh.below b1;replace ko:=ko.below b1;replace Bz:=bT Bz b1;clear b1;clear pa0 pb0;obtain⟨-,pa1,pa2,-⟩:=(zxb HX0 Bz).cz;obtain⟨-,pb1,pb2,-⟩:=(zxb HX1 Bz).cz;go_wp2_with fail
 with_reducible refine(sameRats_d (FsD.below ho) (FsD.below ko) zo).mono ?_
 rintro e w2 ⟨rfl,b2⟩;replace b2:=zq (a:=w1) b2;replace hh:=hh.below b2;replace kh:=kh.below b2;replace Bz:=bT Bz b2;clear b2;clear pa1 pa2 pb1 pb2;have pa3:=(zxb HX0 Bz).cell 3 (.slice q.hA q.hn q.hc) rfl;have pb3:=(zxb HX1 Bz).cell 3 (.slice p.hA p.hn p.hc) rfl;go_wp2_with fail
 with_reducible refine(sameRats_d (FsD.below hh) (FsD.below kh) zo).mono ?_
 rintro e w3 ⟨rfl,b3⟩;replace b3:=zq (a:=w2) b3;replace Bz:=bT Bz b3;clear b3;clear pa3 pb3;have pa4:=(zxb HX0 Bz).cell 4 (.int .u8 q.norm) rfl;have pb4:=(zxb HX1 Bz).cell 4 (.int .u8 q.norm) rfl;go_wp2_with fail
 go_ret
 have hF:=bT (c:=w3) hB Bz;exact⟨rfl,bT hF⟩
theorem copyQuery_q {w:World} {q:Qy} {d:QyG} (h:QyD w q d) (hn:q.xn≤1000000∧q.on≤1000000∧q.hn≤1000000) :
  Calls Tryz.prog 8 #[.agg #[.slice q.xA q.xn q.xc,.int .i64 q.label,.slice q.oA q.on q.oc,.slice q.hA q.hn q.hc,.int .u8 q.norm]] w fun e w'=>∃p:Qy,e=.returned (.agg #[.slice p.xA p.xn p.xc,.int .i64 p.label,.slice p.oA p.on p.oc,.slice p.hA p.hn p.hc,.int .u8 p.norm])∧Rob w' w.heap.size w'.heap.size (fun u=>QyD u p d)∧p.label=q.label∧p.norm=q.norm∧Below w.heap.size w w':=by
 obtain⟨hx,ho,hh⟩:=h;obtain⟨W,hW,x0,x1,hB⟩:=zAh w #[.slice q.xA q.xn q.xc,.int .i64 q.label,.slice q.oA q.on q.oc,.slice q.hA q.hn q.hc,.int .u8 q.norm] 28 #[.slice none 0 0,.int .i64 0,.slice none 0 0,.slice none 0 0,.int .u8 0] 28;replace hh:=hh.below hB;replace ho:=ho.below hB;replace hx:=hx.below hB;have HX0:=zh x0;have HX1:=zh x1;clear x0 x1;have Bz:=zr W;obtain⟨pa0,pa1,pa2,pa3,pa4,-⟩:=(zxb HX0 Bz).cz;obtain⟨pb0,pb1,pb2,pb3,pb4,-⟩:=(zxb HX1 Bz).cz;have fb0:=(zxb HX1 Bz).frozen 0;have fb1:=(zxb HX1 Bz).frozen 1;have fb2:=(zxb HX1 Bz).frozen 2;have fb3:=(zxb HX1 Bz).frozen 3;have fb4:=(zxb HX1 Bz).frozen 4;have y1:=(zxb HX1 Bz).lt;go_enter Tryz.func8,Tryz.ntmps8
 go_wp2_with fail
 rw[←hW];clear hW;go_wp2_with fail
 (try simp only[vAa,vB,vC])
 refine zl (.pure 0 (.take 1 (.pure 3 (.take 4 (.pure 5 (.take 6 (.pure 8 (.take 9 (.pure 11 (.take 12 (.only 2 (.only 7 (.only 10 (.pure 13 (.only 14 .done))))))))))))))) [14] (zsa pa0 (zsa pa1 (zsa pa2 (zsa pa3 (zI pa4))))) ?_;refine zV ?_;try simp only[uW,uX,uY,uZ]
 refine zU ?_;try simp only[uW,uX,uY,uZ]
 refine zV ?_;try simp only[uW,uX,uY,uZ]
 refine zU ?_;try simp only[uW,uX,uY,uZ]
 refine zV ?_;try simp only[uW,uX,uY,uZ]
 refine zU ?_;try simp only[uW,uX,uY,uZ]
 refine zV ?_;try simp only[uW,uX,uY,uZ]
 refine zU ?_;try simp only[uW,uX,uY,uZ]
 refine zV ?_;try simp only[uW,uX,uY,uZ]
 refine zU ?_;try simp only[uW,uX,uY,uZ]
 refine zC 5 rfl rfl (fun K hK=>?_);go_simp
 with_reducible refine(copyRatsR_q (FsD.below hx) zo).mono ?_
 rintro e w1 ⟨A1,c1,rfl,r1,b1⟩;replace b1:=zq (a:=W) b1;replace hh:=hh.below b1;replace ho:=ho.below b1;replace Bz:=bT Bz b1;clear b1;replace r1:=Rob.wide r1 (s':=w.heap.size+2) (show w.heap.size+2≤W.heap.size from by have:=Bz.size;have:=HX1.out.lt;omega) (Nat.le_refl _) (Nat.le_refl _);clear pa0 pa1 pa2 pa3 pa4 pb0 pb1 pb2 pb3 pb4 fb0 fb1 fb2 fb3 fb4 y1;obtain⟨pa0,pa1,pa2,pa3,pa4,-⟩:=(zxb HX0 Bz).cz;obtain⟨pb0,pb1,pb2,pb3,pb4,-⟩:=(zxb HX1 Bz).cz;have fb0:=(zxb HX1 Bz).frozen 0;have fb1:=(zxb HX1 Bz).frozen 1;have fb2:=(zxb HX1 Bz).frozen 2;have fb3:=(zxb HX1 Bz).frozen 3;have fb4:=(zxb HX1 Bz).frozen 4;have y1:=(zxb HX1 Bz).lt;refine hK.out _ _ ⟨pa0,pa1,pa2,pa3,pa4⟩ (fun _=>?_);try simp only[uW,uX,uY,uZ]
 clear hK K;refine zC 10 rfl rfl (fun K hK=>?_);go_simp
 with_reducible refine(copyRatsR_q (FsD.below ho) zo).mono ?_
 rintro e w2 ⟨A2,c2,rfl,r2,b2⟩;replace b2:=zq (a:=w1) b2;replace r1:=r1.below b2;replace hh:=hh.below b2;replace Bz:=bT Bz b2;clear b2;replace r2:=Rob.wide r2 (s':=w.heap.size+2) (show w.heap.size+2≤w1.heap.size from by have:=Bz.size;have:=HX1.out.lt;omega) (Nat.le_refl _) (Nat.le_refl _);clear pa0 pa1 pa2 pa3 pa4 pb0 pb1 pb2 pb3 pb4 fb0 fb1 fb2 fb3 fb4 y1;obtain⟨pa0,pa1,pa2,pa3,pa4,-⟩:=(zxb HX0 Bz).cz;obtain⟨pb0,pb1,pb2,pb3,pb4,-⟩:=(zxb HX1 Bz).cz;have fb0:=(zxb HX1 Bz).frozen 0;have fb1:=(zxb HX1 Bz).frozen 1;have fb2:=(zxb HX1 Bz).frozen 2;have fb3:=(zxb HX1 Bz).frozen 3;have fb4:=(zxb HX1 Bz).frozen 4;have y1:=(zxb HX1 Bz).lt;refine hK.out _ _ ⟨pa0,pa1,pa2,pa3,pa4⟩ (fun _=>?_);try simp only[uW,uX,uY,uZ]
 clear hK K;refine zC 13 rfl rfl (fun K hK=>?_);go_simp
 with_reducible refine(copyRatsR_q (FsD.below hh) zo).mono ?_
 rintro e w3 ⟨A3,c3,rfl,r3,b3⟩;replace b3:=zq (a:=w2) b3;replace r1:=r1.below b3;replace r2:=r2.below b3;replace Bz:=bT Bz b3;clear b3;replace r3:=Rob.wide r3 (s':=w.heap.size+2) (show w.heap.size+2≤w2.heap.size from by have:=Bz.size;have:=HX1.out.lt;omega) (Nat.le_refl _) (Nat.le_refl _);clear pa0 pa1 pa2 pa3 pa4 pb0 pb1 pb2 pb3 pb4 fb0 fb1 fb2 fb3 fb4 y1;obtain⟨pa0,pa1,pa2,pa3,pa4,-⟩:=(zxb HX0 Bz).cz;obtain⟨pb0,pb1,pb2,pb3,pb4,-⟩:=(zxb HX1 Bz).cz;have fb0:=(zxb HX1 Bz).frozen 0;have fb1:=(zxb HX1 Bz).frozen 1;have fb2:=(zxb HX1 Bz).frozen 2;have fb3:=(zxb HX1 Bz).frozen 3;have fb4:=(zxb HX1 Bz).frozen 4;have y1:=(zxb HX1 Bz).lt;refine hK.out _ _ ⟨pa0,pa1,pa2,pa3,pa4⟩ (fun _=>?_);try simp only[uW,uX,uY,uZ]
 clear hK K;refine zV ?_;try simp only[uW,uX,uY,uZ]
 refine wpPlan_late (o:=⟨none,_,_,_,_,_⟩) rfl rfl zd (fun K hK=>?_);go_simp
 refine hK.out _ _ ?_;try simp only[Act.put,uX,uY,uZ]
 clear hK K;refine wpPlan_done ?_;go_wp2_with fail
 (try simp only[Exit.inBlock,Exit.then])
 refine bodyPost_ret (by simp[results,Tryz.results8,go_sem,pb0,pb1,pb2,pb3,pb4];try rfl) rfl ?_;obtain⟨V1,hW,x,kk,far,bel⟩:=store5 (.slice A1 q.xn c1) (.int .i64 q.label) (.slice A2 q.on c2) (.slice A3 q.hn c3) (.int .u8 q.norm) (zxb HX1 Bz) nofun nofun nofun nofun nofun;have hoff:∀(k j:Nat),k≠w.heap.size+1→V1.cell? ⟨k,j,none⟩=w3.cell? ⟨k,j,none⟩:=fun k j hk=>by rw[hW];exact cell_off5 (Ne.symm hk)
 rw[←hW];clear hW;replace r1:=r1.off hoff kk (bel 0 _ (Nat.zero_le _) (Below.refl 0 _)).size (.inl zo);replace r2:=r2.off hoff kk (bel 0 _ (Nat.zero_le _) (Below.refl 0 _)).size (.inl zo);replace r3:=r3.off hoff kk (bel 0 _ (Nat.zero_le _) (Below.refl 0 _)).size (.inl zo);replace hB:=bel w.heap.size w zo (bT hB Bz);replace HX0:=zf far HX0 Bz;replace HX1:=zh x;clear x kk far bel Bz hoff;have Bz:=zr V1;have hF:=bT (c:=V1) hB Bz;exact⟨⟨_,_,_,q.X,q.label,_,_,_,q.O,_,_,_,q.H,q.norm⟩,rfl,(((r1).wide zo (r1).le (Nat.le_refl _)).and (((r2).wide zo (r2).le (Nat.le_refl _)).and ((r3).wide zo (r3).le (Nat.le_refl _)))).imp fun _ k=>⟨k.1,k.2.1,k.2.2⟩,rfl,rfl,hF⟩
open Go.RowKit Tw
theorem elt_gps:Elt Gp.cs 1 47 34:=Elt.of (.slice none 0 0) 24 Tryz.underlying47 (by kernel_rfl) zo (by kernel_rfl) (nou_list (by kernel_rfl)) Gp.cs_len
 (fun x u hu=>by simp[Gp.cs] at hu;subst hu;rfl) (fun x u hu n=>by simp[Gp.cs] at hu;subst hu;simp)
theorem elt_lys:Elt Ly.cs 13 22 49:=Elt.of (.agg #[.int .u8 0,.slice none 0 0,.slice none 0 0,.int .i64 0,.int .i64 0,.int .i64 0,.int .i64 0,.int .i64 0,.int .i64 0,.int .i64 0,.int .i64 0,.slice none 0 0,.slice none 0 0]) 168 Tryz.underlying22 (by kernel_rfl) zo (by kernel_rfl) (nou_list (by kernel_rfl)) Ly.cs_len
 (fun x u hu=>List.all_eq_true.1 (show(Ly.cs x).all (fun u=>u.oneCell')=true from rfl) u hu)
 (fun x u hu n e=>by have h:=List.all_eq_true.1 (show(Ly.cs x).all (fun u=>match u with | .int .u64 _=>false | _=>true)=true from rfl) u hu;rw[e] at h;cases h)
def LyU (u:World) (y:Ly) (d:LyG):Prop:=LyD u y d
def LyB (y:Ly):Prop:=y.rn≤1000000∧y.bn≤1000000∧y.kn≤1000000∧y.gn≤1000000
theorem ly_rob {w v:World} {s e:Nat} {y:Ly} {d:LyG} {A1 A2 A3 H2:Option Addr} {c1 c2 c3 hc2:Nat} (h:LyD v y d) (r1:Rob w s e (fun u=>RowsD u A1 y.rn c1 d.rows)) (r2:Rob w s e (fun u=>FsD u A2 y.bn c2 d.bias)) (r3:Rob w s e (fun u=>FsD u A3 y.kn c3 d.kern)) (r4:Rob w s e (fun u=>GsD u H2 y.gn hc2 d.groups)) :
  Rob w s e (fun u=>LyU u ⟨y.kind,A1,y.rn,c1,y.rows,A2,y.bn,c2,y.bias,y.ch,y.high,y.wide,y.out,y.kh,y.kw,y.st,y.pad,A3,y.kn,c3,y.kern,H2,y.gn,hc2,y.groups⟩ d) :=
 (((r1.and r2).and r3).and r4).imp fun _ k=>⟨h.kind,k.1.1.1,k.1.1.2,h.ns,k.1.2,k.2⟩
theorem net_rob {w:World} {B n:Nat} {H:Option Addr} {cap:Nat} {X:Value} {O:List Ly} {E:List LyG} (h:Rob w B w.heap.size (fun u=>Sl Ly.cs 13 u H n cap O)) (hl:LR LyU w X B O E) (hb:∀y∈O,LyB y):Rob w B w.heap.size (fun u=>NetD u H n cap E) :=
 (h.and hl.rob).imp fun _ k=>⟨O,k.1,k.2,hb⟩
def CN1 (w:World) (cs0 cs1:Array Value) (inp:Int) (bo:Nat) (E:List LyG) (n gk:Nat) (s:Value) (wr:World):Prop :=
 ∃(i:Nat) (H:Option Addr) (hc:Nat) (O:List Ly),i≤n∧n-i=gk∧s=.int .i64 (i:Int)∧Below w.heap.size w wr∧Bx wr w.heap.size cs0 24∧Bx wr (w.heap.size+1) cs1 24∧Bx wr bo #[.int .i64 inp,.slice H i hc] 24∧
  OwnR wr (bo+1) 49 13 (.slice H i hc) i (flat Ly.cs O)∧LR LyU wr (.slice H i hc) (bo+1) O (E.take i)∧∀y∈O,LyB y
def CN2 (p:World) (E:List (List Int)) (n gk:Nat) (s6 s7:Value) (wr:World):Prop :=
 ∃(k:Nat) (H2:Option Addr) (hc2:Nat) (O2:List Gp),s6=.slice H2 k hc2∧s7=.int .i64 (k:Int)∧k≤n∧n-k=gk∧OwnR wr p.heap.size 34 1 (.slice H2 k hc2) k (flat Gp.cs O2)∧LR GpU wr (.slice H2 k hc2) p.heap.size O2 (E.take k)∧Below p.heap.size p wr
theorem st2_1_1 {w:World} {b:Nat} {t:TypeId} {u0 u1:Value} (v1:Value) (h0:Bx w b #[u0,u1] t) (n1:∀n,u1≠.int .u64 n) :
  ∃W,W=w.setCell ⟨b,1,none⟩ v1∧Bx W b #[u0,v1] t∧K64 w W∧(∀b' cs t',b'≠b→Bx w b' cs t'→Bx W b' cs t')∧(∀B w0,B≤b→Below B w0 w→Below B w0 W):=by
 have h2:Bx (w.setCell ⟨b,1,none⟩ v1) b #[u0,v1] t:=h0.set 1 v1;have k1:K64 (w) (w.setCell ⟨b,1,none⟩ v1):=K64.box h0 (i:=1) rfl n1 v1;exact⟨_,rfl,h2,k1,fun b' cs t' hb hx=>(hx.far hb v1),fun B w0 hB hb=>(hb.setCell hB v1)⟩
theorem st13_1_1 {w:World} {b:Nat} {t:TypeId} {u0 u1 u2 u3 u4 u5 u6 u7 u8 u9 u10 u11 u12:Value} (v1:Value) (h0:Bx w b #[u0,u1,u2,u3,u4,u5,u6,u7,u8,u9,u10,u11,u12] t) (n1:∀n,u1≠.int .u64 n) :
  ∃W,W=w.setCell ⟨b,1,none⟩ v1∧Bx W b #[u0,v1,u2,u3,u4,u5,u6,u7,u8,u9,u10,u11,u12] t∧K64 w W∧(∀b' cs t',b'≠b→Bx w b' cs t'→Bx W b' cs t')∧(∀B w0,B≤b→Below B w0 w→Below B w0 W):=by
 have h2:Bx (w.setCell ⟨b,1,none⟩ v1) b #[u0,v1,u2,u3,u4,u5,u6,u7,u8,u9,u10,u11,u12] t:=h0.set 1 v1;have k1:K64 (w) (w.setCell ⟨b,1,none⟩ v1):=K64.box h0 (i:=1) rfl n1 v1;exact⟨_,rfl,h2,k1,fun b' cs t' hb hx=>(hx.far hb v1),fun B w0 hB hb=>(hb.setCell hB v1)⟩
theorem st13_2_1 {w:World} {b:Nat} {t:TypeId} {u0 u1 u2 u3 u4 u5 u6 u7 u8 u9 u10 u11 u12:Value} (v2:Value) (h0:Bx w b #[u0,u1,u2,u3,u4,u5,u6,u7,u8,u9,u10,u11,u12] t) (n2:∀n,u2≠.int .u64 n) :
  ∃W,W=w.setCell ⟨b,2,none⟩ v2∧Bx W b #[u0,u1,v2,u3,u4,u5,u6,u7,u8,u9,u10,u11,u12] t∧K64 w W∧(∀b' cs t',b'≠b→Bx w b' cs t'→Bx W b' cs t')∧(∀B w0,B≤b→Below B w0 w→Below B w0 W):=by
 have h3:Bx (w.setCell ⟨b,2,none⟩ v2) b #[u0,u1,v2,u3,u4,u5,u6,u7,u8,u9,u10,u11,u12] t:=h0.set 2 v2;have k2:K64 (w) (w.setCell ⟨b,2,none⟩ v2):=K64.box h0 (i:=2) rfl n2 v2;exact⟨_,rfl,h3,k2,fun b' cs t' hb hx=>(hx.far hb v2),fun B w0 hB hb=>(hb.setCell hB v2)⟩
theorem st13_11_1 {w:World} {b:Nat} {t:TypeId} {u0 u1 u2 u3 u4 u5 u6 u7 u8 u9 u10 u11 u12:Value} (v11:Value) (h0:Bx w b #[u0,u1,u2,u3,u4,u5,u6,u7,u8,u9,u10,u11,u12] t) (n11:∀n,u11≠.int .u64 n) :
  ∃W,W=w.setCell ⟨b,11,none⟩ v11∧Bx W b #[u0,u1,u2,u3,u4,u5,u6,u7,u8,u9,u10,v11,u12] t∧K64 w W∧(∀b' cs t',b'≠b→Bx w b' cs t'→Bx W b' cs t')∧(∀B w0,B≤b→Below B w0 w→Below B w0 W):=by
 have h12:Bx (w.setCell ⟨b,11,none⟩ v11) b #[u0,u1,u2,u3,u4,u5,u6,u7,u8,u9,u10,v11,u12] t:=h0.set 11 v11;have k11:K64 (w) (w.setCell ⟨b,11,none⟩ v11):=K64.box h0 (i:=11) rfl n11 v11;exact⟨_,rfl,h12,k11,fun b' cs t' hb hx=>(hx.far hb v11),fun B w0 hB hb=>(hb.setCell hB v11)⟩
theorem st13_12_1 {w:World} {b:Nat} {t:TypeId} {u0 u1 u2 u3 u4 u5 u6 u7 u8 u9 u10 u11 u12:Value} (v12:Value) (h0:Bx w b #[u0,u1,u2,u3,u4,u5,u6,u7,u8,u9,u10,u11,u12] t) (n12:∀n,u12≠.int .u64 n) :
  ∃W,W=w.setCell ⟨b,12,none⟩ v12∧Bx W b #[u0,u1,u2,u3,u4,u5,u6,u7,u8,u9,u10,u11,v12] t∧K64 w W∧(∀b' cs t',b'≠b→Bx w b' cs t'→Bx W b' cs t')∧(∀B w0,B≤b→Below B w0 w→Below B w0 W):=by
 have h13:Bx (w.setCell ⟨b,12,none⟩ v12) b #[u0,u1,u2,u3,u4,u5,u6,u7,u8,u9,u10,u11,v12] t:=h0.set 12 v12;have k12:K64 (w) (w.setCell ⟨b,12,none⟩ v12):=K64.box h0 (i:=12) rfl n12 v12;exact⟨_,rfl,h13,k12,fun b' cs t' hb hx=>(hx.far hb v12),fun B w0 hB hb=>(hb.setCell hB v12)⟩
theorem copyNet_q {w:World} {A:Option Addr} {n c:Nat} {inp:Int} {E:List LyG} (h:NetD w A n c E) (hn:n≤1000000) :
  Calls Tryz.prog 7 #[.agg #[.int .i64 inp,.slice A n c]] w fun e w'=>∃H hc,e=.returned (.agg #[.int .i64 inp,.slice H n hc])∧Rob w' w.heap.size w'.heap.size (fun u=>NetD u H n hc E)∧Below w.heap.size w w':=by
 have HLE:=zh h.len;obtain⟨L,h1,h2,h3⟩:=h;have HS:=zh h1;have HLN:=zh h1.1;have HVS:=zh h2;have HEL:=zh h3;clear h1 h2 h3;obtain⟨W,hW,x0,x1,hB⟩:=zAh w #[.int .i64 inp,.slice A n c] 24 #[.int .i64 0,.slice none 0 0] 24;have HX0:=zh x0;have HX1:=zh x1;clear x0 x1;have Bz:=zr W;have pa0:=(zxb HX0 Bz).cell 0 (.int .i64 inp) rfl;go_enter Tryz.func7,Tryz.ntmps7
 go_upto_region 1 with(fail)
 rw[←hW];clear hW;go_upto_region 2 with(fail)
 obtain⟨V1,hW,x2,hN⟩:=zAc W #[.int .i64 inp,.slice none 0 0] 24;rw[←hW];clear hW;obtain⟨v2,hb2⟩:=ze W.heap.size;rw[←hb2] at x2 ⊢;have o0_2:w.heap.size<v2:=zi (zxb HX0 Bz).lt;have o1_2:w.heap.size+1<v2:=zi (zxb HX1 Bz).lt;have ow_2:w.heap.size≤v2:=zi (zw hB Bz);replace hB:=bT (bT hB Bz) hN;replace HX0:=zba HX0 Bz hN;replace HX1:=zba HX1 Bz hN;have HX2:=zh x2;clear x2 hN Bz hb2;have Bz:=zr V1;clear pa0;go_wp2_with fail
 have HB1:=zh (bT hB Bz);have XX0:=zh (zxb HX0 Bz);have XX1:=zh (zxb HX1 Bz);have XX2:=zh (zxb HX2 Bz);have hbw:w.heap.size+1<v2:=zo;clear hB Bz HX0 HX1 HX2;go_loopg [4] n (fun gk s wr=>CN1 w #[.int .i64 inp,.slice A n c] #[.int .i64 0,.slice none 0 0] inp v2 E n gk s wr)
 case atStart=>exact⟨0,none,0,[],Nat.zero_le _,rfl,rfl,bT HB1.out,XX0.out.below (by go_grown),XX1.out.below (by go_grown),XX2.out.below (by go_grown),OwnR.nil _ _ _ _,LR.nil,(fun _ h=>(by cases h))⟩
 case round =>
  clear HB1 XX0 XX1 XX2;obtain⟨i,H,hc,O,hi,hgk,rfl,hB,hx0,hx1,hx2,ho,hlr,hbd⟩:=hrel;have HGK:=zh hgk;have HX0:=zh hx0;have HX1:=zh hx1;have HX2:=zh hx2;have HOW:=zh ho;have HLR:=zh hlr;have HBD:=zh hbd;have hbl:=hx2.lt;clear hgk hx0 hx1 hx2 ho hlr hbd;by_cases hlt:i<n
  ·obtain⟨b,off,rfl,hel⟩:=HS.out.at Ly.cs_len zo zo;obtain⟨y,d,hy,hd,hyd⟩:=HVS.out.has (i:=i) (by rw[HLN.out];exact hlt);have hnd:=hel i y hy;have HYD:=zh hyd;have HD:=zh hd;have hyn:=HEL.out y (List.mem_of_getElem? hy);obtain⟨⟨CL,hgs,hga⟩,hgb⟩:=hyd.groups;have HGS:=zh hgs;have HGA:=zh hga;have HGB:=zh hgb;have HGL:=zh hyd.groups.len;have i1:(i:Int)<(n:Int):=zo;have i2:(0:Int)≤(i:Int):=zo;have hBR:=Below.refl wr.heap.size wr;clear hel hy hd hyd hgs hga hgb;have Bz:=zr wr;have pa1:=(zxb HX0 Bz).cell 1 (.slice (some ⟨b,off,none⟩) n c) rfl;obtain⟨pA0,pA1,pA2,pA3,pA4,pA5,pA6,pA7,pA8,pA9,pAa,pAb,pAc,-⟩:=(hnd.below (bT hB Bz)).ez;go_upto_region 6 with(fail)
   obtain⟨V1,hW,x3,hN⟩:=zY wr y;rw[←hW];clear hW;obtain⟨v3,hb3⟩:=ze wr.heap.size;rw[←hb3] at x3 ⊢;have o0_3:w.heap.size<v3:=zi (zxb HX0 Bz).lt;have o1_3:w.heap.size+1<v3:=zi (zxb HX1 Bz).lt;have o2_3:v2<v3:=zi (zxb HX2 Bz).lt;have ow_3:w.heap.size≤v3:=zi (zw hB Bz);have ow_3_hBR:wr.heap.size≤v3:=zj hBR.size Bz.size;replace hB:=bT (bT hB Bz) hN;replace hBR:=bT (bT hBR Bz) hN;replace HX0:=zba HX0 Bz hN;replace HX1:=zba HX1 Bz hN;replace HX2:=zba HX2 Bz hN;have HX3:=zh x3;clear x3 hN Bz hb3;have Bz:=zr V1;clear pa1 pA0 pA1 pA2 pA3 pA4 pA5 pA6 pA7 pA8 pA9 pAa pAb pAc;have pd1:=(zxb HX3 Bz).cell 1 (.slice y.rA y.rn y.rc) rfl;go_wp2_with fail
   with_reducible refine(copyVecsR_q (LyD.below HYD.out (bT hB (bT (b:=V1) Bz))).rows zo).mono ?_
   rintro e w1 ⟨A1,c1,rfl,r1,b1⟩;replace b1:=zq (a:=V1) b1;replace Bz:=bT Bz b1;clear b1;replace r1:=Rob.wide r1 (s':=v3+1) (show v3+1≤V1.heap.size from HX3.out.lt) (Nat.le_refl _) (Nat.le_refl _);clear pd1;have pd1:=(zxb HX3 Bz).cell 1 (.slice y.rA y.rn y.rc) rfl;have fd1:=(zxb HX3 Bz).frozen 1;have y3:=(zxb HX3 Bz).lt;go_upto_region 7 with(fail)
   obtain⟨V2,hW,x,kk,far,bel⟩:=st13_1_1 (.slice A1 y.rn c1) (zxb HX3 Bz) nofun;have hoff:∀(k j:Nat),k≠v3→V2.cell? ⟨k,j,none⟩=w1.cell? ⟨k,j,none⟩:=fun k j hk=>by rw[hW];exact cell_off1 (Ne.symm hk)
   rw[←hW];clear hW;replace r1:=r1.off hoff kk (bel 0 _ (Nat.zero_le _) (Below.refl 0 _)).size (.inl zo);replace hB:=bel w.heap.size w zo (bT hB Bz);replace hBR:=bel wr.heap.size wr zo (bT hBR Bz);replace HX0:=zf far HX0 Bz;replace HX1:=zf far HX1 Bz;replace HX2:=zf far HX2 Bz;replace HX3:=zh x;clear x kk far bel Bz hoff;have Bz:=zr V2;clear pd1 fd1 y3;have pd2:=(zxb HX3 Bz).cell 2 (.slice y.bA y.bn y.bc) rfl;go_wp2_with fail
   with_reducible refine(copyRatsR_q (LyD.below HYD.out (bT hB (bT (b:=V2) Bz))).bias zo).mono ?_
   rintro e w2 ⟨A2,c2,rfl,r2,b2⟩;replace b2:=zq (a:=V2) b2;replace r1:=r1.below b2;replace Bz:=bT Bz b2;clear b2;replace r2:=Rob.wide r2 (s':=v3+1) (show v3+1≤V2.heap.size from HX3.out.lt) (Nat.le_refl _) (Nat.le_refl _);clear pd2;have pd2:=(zxb HX3 Bz).cell 2 (.slice y.bA y.bn y.bc) rfl;have fd2:=(zxb HX3 Bz).frozen 2;have y3:=(zxb HX3 Bz).lt;go_upto_region 8 with(fail)
   obtain⟨V3,hW,x,kk,far,bel⟩:=st13_2_1 (.slice A2 y.bn c2) (zxb HX3 Bz) nofun;have hoff:∀(k j:Nat),k≠v3→V3.cell? ⟨k,j,none⟩=w2.cell? ⟨k,j,none⟩:=fun k j hk=>by rw[hW];exact cell_off1 (Ne.symm hk)
   rw[←hW];clear hW;replace r1:=r1.off hoff kk (bel 0 _ (Nat.zero_le _) (Below.refl 0 _)).size (.inl zo);replace r2:=r2.off hoff kk (bel 0 _ (Nat.zero_le _) (Below.refl 0 _)).size (.inl zo);replace hB:=bel w.heap.size w zo (bT hB Bz);replace hBR:=bel wr.heap.size wr zo (bT hBR Bz);replace HX0:=zf far HX0 Bz;replace HX1:=zf far HX1 Bz;replace HX2:=zf far HX2 Bz;replace HX3:=zh x;clear x kk far bel Bz hoff;have Bz:=zr V3;clear pd2 fd2 y3;have pdb:=(zxb HX3 Bz).cell 11 (.slice y.kA y.kn y.kc) rfl;go_wp2_with fail
   with_reducible refine(copyRatsR_q (LyD.below HYD.out (bT hB (bT (b:=V3) Bz))).kern zo).mono ?_
   rintro e w3 ⟨A3,c3,rfl,r3,b3⟩;replace b3:=zq (a:=V3) b3;replace r1:=r1.below b3;replace r2:=r2.below b3;replace Bz:=bT Bz b3;clear b3;replace r3:=Rob.wide r3 (s':=v3+1) (show v3+1≤V3.heap.size from HX3.out.lt) (Nat.le_refl _) (Nat.le_refl _);clear pdb;have pdb:=(zxb HX3 Bz).cell 11 (.slice y.kA y.kn y.kc) rfl;have fdb:=(zxb HX3 Bz).frozen 11;have y3:=(zxb HX3 Bz).lt;go_upto_region 9 with(fail)
   obtain⟨V4,hW,x,kk,far,bel⟩:=st13_11_1 (.slice A3 y.kn c3) (zxb HX3 Bz) nofun;have hoff:∀(k j:Nat),k≠v3→V4.cell? ⟨k,j,none⟩=w3.cell? ⟨k,j,none⟩:=fun k j hk=>by rw[hW];exact cell_off1 (Ne.symm hk)
   rw[←hW];clear hW;replace r1:=r1.off hoff kk (bel 0 _ (Nat.zero_le _) (Below.refl 0 _)).size (.inl zo);replace r2:=r2.off hoff kk (bel 0 _ (Nat.zero_le _) (Below.refl 0 _)).size (.inl zo);replace r3:=r3.off hoff kk (bel 0 _ (Nat.zero_le _) (Below.refl 0 _)).size (.inl zo);replace hB:=bel w.heap.size w zo (bT hB Bz);replace hBR:=bel wr.heap.size wr zo (bT hBR Bz);replace HX0:=zf far HX0 Bz;replace HX1:=zf far HX1 Bz;replace HX2:=zf far HX2 Bz;replace HX3:=zh x;clear x kk far bel Bz hoff;have Bz:=zr V4;clear pdb fdb y3;go_upto_block 2 with(fail)
   have HBA:=zh (bT hB Bz);have HBRA:=zh (bT hBR Bz);have XX0:=zh (zxb HX0 Bz);have XX1:=zh (zxb HX1 Bz);have XX2:=zh (zxb HX2 Bz);have XX3:=zh (zxb HX3 Bz);have HPA:Hid (v3+1≤V4.heap.size):=zh (zxb HX3 Bz).lt;have HQ1:=zh (r1.below Bz);have HQ2:=zh (r2.below Bz);have HQ3:=zh (r3.below Bz);have hv5:wr.heap.size≤v3:=zo;clear hB hBR Bz r1 r2 r3 HX0 HX1 HX2 HX3 i1 i2;go_cut [6,7] (fun s6 s7 wx=>CN2 V4 d.groups y.gn 0 s6 s7 wx)
   case first =>
    obtain⟨wo,hwo⟩:∃x:World,x=wr:=⟨wr,rfl⟩;subst hwo;go_wp2_with fail
    go_loopg [6,7] y.gn (fun gk s6 s7 wr=>CN2 V4 d.groups y.gn gk s6 s7 wr)
    case atStart=>exact⟨0,none,0,[],rfl,rfl,Nat.zero_le _,rfl,OwnR.nil _ _ _ _,LR.nil,by go_grown⟩
    case round =>
     obtain⟨k,H2,hc2,O2,rfl,rfl,hk,hgk2,ho2,hl2,hB2⟩:=hrel;have HGJ:=zh hgk2;have hB:=bT HBA.out hB2;have hwv:=HBA.out.size;have HX0:=zh (XX0.out.below hB2);have HX1:=zh (XX1.out.below hB2);have HX2:=zh (XX2.out.below hB2);have HX3:=zh (XX3.out.below hB2);clear hgk2;by_cases hlk:k<y.gn
     ·obtain⟨gb,go,hgA,gel⟩:=HGS.out.at Gp.cs_len zo zo;rw[hgA] at HX3;obtain⟨v,dd,hv,hdd,hvd⟩:=HGA.out.has (i:=k) (by rw[HGS.out.1];exact hlk);have hnv:ElA w gb (go+k) (Gp.cs v):=by have:=gel k v hv;rwa [Nat.mul_one] at this
      have HVS:=zh hvd;have HDD:=zh hdd;have hvn:v.n≤1000000:=by have h1:=hvd.1;have h2:=HGB.out dd (List.mem_of_getElem? hdd);omega
      have k1:(k:Int)<(y.gn:Int):=zo;have k2:(0:Int)≤(k:Int):=zo;clear gel hv hdd hvd hgA;have Bz:=zr wr;have pdc:=(zxb HX3 Bz).cell 12 (.slice (some ⟨gb,go,none⟩) y.gn y.gc) rfl;have pA0:=(hnv.below (bT hB Bz)).c0 (u:=.slice v.A v.n v.c) rfl;go_wp2_with fail
      have hoff:=OwnR.lt ho2;have hsz:V4.heap.size≤wr.heap.size:=zj hB2.size Bz.size;with_reducible refine(copyIntsR_q (Sl.below HVS.out (bT hB (bT (b:=wr) Bz))) hvn).mono ?_
      rintro e w31 ⟨A31,c31,rfl,h31,b31⟩;replace b31:=zq (a:=wr) b31;replace hl2:=hl2.below b31;replace ho2:=ho2.below b31;replace Bz:=bT Bz b31;clear b31;have hx31:LR1 GpU w31 (.slice H2 k hc2) V4.heap.size ⟨A31,v.n,c31,v.L⟩ dd:=⟨_,_,hsz,fun g hg=>.inl (hoff g hg),h31⟩;clear hoff hsz h31;clear pdc pA0;go_wp2_with (at_builtin;refine And.left (b:=True) ?_)
      refine⟨?_,trivial⟩;obtain⟨V31,hW,x4,hN⟩:=zAc w31 #[.slice A31 v.n c31] 34;rw[←hW];clear hW;obtain⟨v4,hb4⟩:=ze w31.heap.size;rw[←hb4] at x4 ⊢;have o0_4:w.heap.size<v4:=zi (zxb HX0 Bz).lt;have o1_4:w.heap.size+1<v4:=zi (zxb HX1 Bz).lt;have o2_4:v2<v4:=zi (zxb HX2 Bz).lt;have o3_4:v3<v4:=zi (zxb HX3 Bz).lt;have ow_4:w.heap.size≤v4:=zi (zw hB Bz);have nv4_own:=OwnR.off' (b:=v4) ho2 zo;replace hl2:=hl2.below hN;replace hx31:=hx31.below hN;replace ho2:=ho2.below hN;replace hB:=bT (bT hB Bz) hN;replace hB2:=bT (bT hB2 Bz) hN;replace HX0:=zba HX0 Bz hN;replace HX1:=zba HX1 Bz hN;replace HX2:=zba HX2 Bz hN;replace HX3:=zba HX3 Bz hN;have HX4:=zh x4;clear x4 hN Bz hb4;have Bz:=zr V31;have hdr:V31.drew.heap.size=V31.heap.size:=rfl;have hdr2:V31.drew.drew.heap.size=V31.heap.size:=rfl;refine Elt.app elt_gps rfl _ _ rfl (V4.heap.size) (.slice H2 k hc2) (k) (O2) rfl ho2 (.slice (some ⟨v4,0,none⟩) 1 1) (1) ([⟨A31,v.n,c31,v.L⟩]) rfl (From.one (HX4.out.below (bT Bz)) (⟨A31,v.n,c31,v.L⟩) rfl (elt_gps.len _)) zo (by have:=hB.size;have:=hB2.size;have:=Bz.size;omega) ?_;intro H32 c32 w32 ho32 hg32;replace hB:=(bT (bT hB Bz)).trans (hg32.below (zi (zw hB Bz)) (fun g hg=>by have:=ho2.base g hg;omega));replace hB2:=(bT (bT hB2 Bz)).trans (hg32.below (zj hB2.size Bz.size) (fun g hg=>by have:=ho2.base g hg;omega));clear HX0;clear HX1;clear HX2;clear HX3;clear HX4;clear hdr hdr2;replace hl2:=hl2.grow hg32;replace hx31:=hx31.grow hg32;clear hg32 Bz;have Bz:=zr w32;go_wp2_with fail
      go_roundg (y.gn-(k+1))
      case measure=>have:=HGJ.out;omega
      case rel=>exact⟨k+1,_,_,_,rfl,by go_num,zo,rfl,OwnR.below ho32,All2.take (LR.below hl2) HDD.out (LR1.below hx31),bT (bT hB2 Bz)⟩
     ·obtain rfl:k=y.gn:=zo;have k1:¬(y.gn:Int)<(y.gn:Int):=zo;have Bz:=zr wr;have pdc:=(zxb HX3 Bz).cell 12 (.slice y.gA y.gn y.gc) rfl;go_wp2_with fail
      go_meet
      case rel=>exact⟨y.gn,_,_,_,rfl,rfl,Nat.le_refl _,Nat.sub_self _,OwnR.below ho2,LR.below hl2,bT hB2⟩
   case rest =>
     obtain⟨k,H2,hc2,O2,rfl,rfl,hk,hgk2,ho2,hl2,hB20⟩:=hcut;obtain rfl:k=y.gn:=zo;obtain⟨wr2,rfl,hB2⟩:∃wx,wx=_∧Below V4.heap.size V4 wx:=⟨_,rfl,hB20⟩;have hB:=bT HBA.out hB2;have HX0:=zh (XX0.out.below hB2);have HX1:=zh (XX1.out.below hB2);have HX2:=zh (XX2.out.below hB2);have HX3:=zh (XX3.out.below hB2);clear hgk2 hB20 hk;have hrl:Rob wr2 (v3+1) wr2.heap.size (fun u=>LyU u ⟨y.kind,A1,y.rn,c1,y.rows,A2,y.bn,c2,y.bias,y.ch,y.high,y.wide,y.out,y.kh,y.kw,y.st,y.pad,A3,y.kn,c3,y.kern,H2,y.gn,hc2,y.groups⟩ d):=by
      have h9:=hl2;rw[List.take_of_length_le (by rw[HGL.out];exact Nat.le_refl _)] at h9;have h8:=HX3.out.lt;have h7:=hB2.size;have h6:=HQ1.out.le;exact ly_rob HYD.out ((HQ1.out.below hB2).wide (Nat.le_refl _) (Nat.le_trans HQ1.out.le h7) (Nat.le_refl _)) ((HQ2.out.below hB2).wide (Nat.le_refl _) (Nat.le_trans HQ2.out.le h7) (Nat.le_refl _)) ((HQ3.out.below hB2).wide (Nat.le_refl _) (Nat.le_trans HQ3.out.le h7) (Nat.le_refl _))
       ((groups_rob (ho2.rob elt_gps (ho2.eltn elt_gps zo)) h9 HGB.out).wide HPA.out (Nat.le_refl _) (Nat.le_refl _))
     have hBR:=bT HBRA.out hB2;clear ho2 hl2 hB2;have Bz:=zr wr2;have pdc:=(zxb HX3 Bz).cell 12 (.slice y.gA y.gn y.gc) rfl;have fdc:=(zxb HX3 Bz).frozen 12;have y3:=(zxb HX3 Bz).lt;go_upto_region 15 with(fail)
     obtain⟨V41,hW,x,kk,far,bel⟩:=st13_12_1 (.slice H2 y.gn hc2) (zxb HX3 Bz) nofun;have hoff:∀(k j:Nat),k≠v3→V41.cell? ⟨k,j,none⟩=wr2.cell? ⟨k,j,none⟩:=fun k j hk=>by rw[hW];exact cell_off1 (Ne.symm hk)
     rw[←hW];clear hW;replace hrl:=hrl.off hoff kk (bel 0 _ (Nat.zero_le _) (Below.refl 0 _)).size (.inl zo);replace hB:=bel w.heap.size w zo (bT hB Bz);replace hBR:=bel wr.heap.size wr zo (bT hBR Bz);replace HX0:=zf far HX0 Bz;replace HX1:=zf far HX1 Bz;replace HX2:=zf far HX2 Bz;replace HX3:=zh x;clear x kk far bel Bz hoff;have Bz:=zr V41;clear pdc fdc y3;replace hB:=bT hB Bz;replace hBR:=bT hBR Bz;replace HX0:=zh (zxb HX0 Bz);replace HX1:=zh (zxb HX1 Bz);replace HX2:=zh (zxb HX2 Bz);replace HX3:=zh (zxb HX3 Bz);replace hrl:=hrl.below Bz;clear Bz;have how:=HOW.out.below hBR;have hlr:=HLR.out.below hBR;have hl1:LR1 LyU V41 (.slice H i hc) (v2+1) ⟨y.kind,A1,y.rn,c1,y.rows,A2,y.bn,c2,y.bias,y.ch,y.high,y.wide,y.out,y.kh,y.kw,y.st,y.pad,A3,y.kn,c3,y.kern,H2,y.gn,hc2,y.groups⟩ d:=⟨_,_,zo,fun g hg=>.inl (zi (HOW.out.lt g hg)),hrl⟩;clear hrl hBR;have Bz:=zr V41;have pc1:=(zxb HX2 Bz).cell 1 (.slice H i hc) rfl;obtain⟨pd0,pd1,pd2,pd3,pd4,pd5,pd6,pd7,pd8,pd9,pda,pdb,pdc,-⟩:=(zxb HX3 Bz).cz;go_wp2_with (at_builtin;refine And.left (b:=True) ?_)
     refine⟨?_,trivial⟩;obtain⟨V51,hW,x4,hN⟩:=zAc V41 #[.int .u8 y.kind,.slice A1 y.rn c1,.slice A2 y.bn c2,.int .i64 y.ch,.int .i64 y.high,.int .i64 y.wide,.int .i64 y.out,.int .i64 y.kh,.int .i64 y.kw,.int .i64 y.st,.int .i64 y.pad,.slice A3 y.kn c3,.slice H2 y.gn hc2] 49;rw[←hW];clear hW;obtain⟨v4,hb4⟩:=ze V41.heap.size;rw[←hb4] at x4 ⊢;have o0_4:w.heap.size<v4:=zi (zxb HX0 Bz).lt;have o1_4:w.heap.size+1<v4:=zi (zxb HX1 Bz).lt;have o2_4:v2<v4:=zi (zxb HX2 Bz).lt;have o3_4:v3<v4:=zi (zxb HX3 Bz).lt;have ow_4:w.heap.size≤v4:=zi (zw hB Bz);replace hl1:=hl1.below hN;replace hlr:=hlr.below hN;replace how:=how.below hN;replace hB:=bT (bT hB Bz) hN;replace HX0:=zba HX0 Bz hN;replace HX1:=zba HX1 Bz hN;replace HX2:=zba HX2 Bz hN;replace HX3:=zba HX3 Bz hN;have HX4:=zh x4;clear x4 hN Bz hb4;have Bz:=zr V51;clear pc1 pd0 pd1 pd2 pd3 pd4 pd5 pd6 pd7 pd8 pd9 pda pdb pdc;have hdr:V51.drew.heap.size=V51.heap.size:=rfl;have hdr2:V51.drew.drew.heap.size=V51.heap.size:=rfl;refine Elt.app elt_lys rfl _ _ rfl (v2+1) (.slice H i hc) (i) (O) rfl how (.slice (some ⟨v4,0,none⟩) 1 1) (1) ([⟨y.kind,A1,y.rn,c1,y.rows,A2,y.bn,c2,y.bias,y.ch,y.high,y.wide,y.out,y.kh,y.kw,y.st,y.pad,A3,y.kn,c3,y.kern,H2,y.gn,hc2,y.groups⟩]) rfl (From.one (HX4.out.below (bT Bz)) (⟨y.kind,A1,y.rn,c1,y.rows,A2,y.bn,c2,y.bias,y.ch,y.high,y.wide,y.out,y.kh,y.kw,y.st,y.pad,A3,y.kn,c3,y.kern,H2,y.gn,hc2,y.groups⟩) rfl (elt_lys.len _)) zo (by have:=hB.size;have:=Bz.size;have:=hbw;have:=(zxb HX2 Bz).lt;omega) ?_;intro H51 c51 w51 ho51 hg51;replace hB:=(bT (bT hB Bz)).trans (hg51.below (zi (zw hB Bz)) (fun g hg=>by have:=how.base g hg;omega));replace HX0:=zh (hg51.bx (zxb HX0 Bz) (how.off zo));replace HX1:=zh (hg51.bx (zxb HX1 Bz) (how.off zo));replace HX2:=zh (hg51.bx (zxb HX2 Bz) (how.off zo));clear HX3;clear HX4;clear hdr hdr2;replace hl1:=hl1.grow hg51;replace hlr:=hlr.grow hg51;clear hg51 Bz;have Bz:=zr w51;have pc1:=(zxb HX2 Bz).cell 1 (.slice H i hc) rfl;have fc1:=(zxb HX2 Bz).frozen 1;have y2:=(zxb HX2 Bz).lt;go_wp2_with fail
     obtain⟨V52,hW,x,kk,far,bel⟩:=st2_1_1 (.slice H51 (i+1) c51) (zxb HX2 Bz) nofun;have hoff:∀(k j:Nat),k≠v2→V52.cell? ⟨k,j,none⟩=w51.cell? ⟨k,j,none⟩:=fun k j hk=>by rw[hW];exact cell_off1 (Ne.symm hk)
     rw[←hW];clear hW;replace hl1:=hl1.off hoff kk (bel 0 _ (Nat.zero_le _) (Below.refl 0 _)).size zo;replace hlr:=hlr.off hoff kk (bel 0 _ (Nat.zero_le _) (Below.refl 0 _)).size zo;replace ho51:=ho51.far far zo;replace hB:=bel w.heap.size w zo (bT hB Bz);replace HX0:=zf far HX0 Bz;replace HX1:=zf far HX1 Bz;replace HX2:=zh x;clear x kk far bel Bz hoff;have Bz:=zr V52;clear pc1 fc1 y2;go_wp2_with fail
     go_roundg (n-(i+1))
     case measure=>have:=HGK.out;omega
     case rel=>exact⟨i+1,_,_,_,zo,rfl,by go_num,bT hB Bz,HX0.out.below Bz,HX1.out.below Bz,HX2.out.below Bz,ho51,All2.take hlr HD.out hl1,fun z hz=>(List.mem_append.1 hz).elim (HBD.out z) fun hz=>by obtain rfl:=List.mem_singleton.1 hz;exact hyn⟩
  ·obtain rfl:i=n:=zo;have i1:¬(i:Int)<(i:Int):=zo;have hrn:Rob wr (v2+1) wr.heap.size (fun u=>NetD u H i hc E):=by
    have h9:=HLR.out;rw[List.take_of_length_le (by rw[HLE.out];exact Nat.le_refl _)] at h9;exact net_rob (HOW.out.rob elt_lys (HOW.out.eltn elt_lys zo)) h9 HBD.out
   have Bz:=zr wr;have pa1:=(zxb HX0 Bz).cell 1 (.slice A i c) rfl;obtain⟨pb0,pb1,-⟩:=(zxb HX1 Bz).cz;have fb0:=(zxb HX1 Bz).frozen 0;have fb1:=(zxb HX1 Bz).frozen 1;have y1:=(zxb HX1 Bz).lt;obtain⟨pc0,pc1,-⟩:=(zxb HX2 Bz).cz;go_wp2_with fail
   (try simp only[Exit.inBlock,Exit.then])
   refine bodyPost_ret (by simp[results,Tryz.results7,go_sem,pb0,pb1];try rfl) rfl ?_;obtain⟨V61,hW,x,kk,far,bel⟩:=zAp (.int .i64 inp) (.slice H i hc) (zxb HX1 Bz) nofun nofun;have hoff:∀(k j:Nat),k≠w.heap.size+1→V61.cell? ⟨k,j,none⟩=wr.cell? ⟨k,j,none⟩:=fun k j hk=>by rw[hW];exact zAe (Ne.symm hk)
   rw[←hW];clear hW;replace hrn:=hrn.off hoff kk (bel 0 _ (Nat.zero_le _) (Below.refl 0 _)).size (.inl zo);replace hB:=bel w.heap.size w zo (bT hB Bz);replace HX0:=zf far HX0 Bz;replace HX2:=zf far HX2 Bz;replace HX1:=zh x;clear x kk far bel Bz hoff;have Bz:=zr V61;have hF:=bT (c:=V61) hB Bz;exact⟨_,_,rfl,(hrn).wide (zj hbw hB.size) (hrn).le (Nat.le_refl _),hF⟩
end Go.Proofs.YtidjjejgbahcgaaGreatDoor
