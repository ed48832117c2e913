/-
  Sht: the card. Written by wip/gen/splitcard.py.
-/
import Derived.Test.YtidjjejgbahcgaaGreatDoorYQk
import Derived.Test.YtidjjejgbahcgaaGreatDoorYRdT
set_option maxHeartbeats 32000000
set_option maxRecDepth 100000
namespace Go.Proofs.YtidjjejgbahcgaaGreatDoor
open Go.RowKit Tw
theorem short3 {cnt:Int} {v:Vc} (hs:shortVc cnt 3 v=true):(v.n:Int)≤cnt∧∀t∈v.L,t.x.l≤3∧t.x.l'≤3:=by
 unfold shortVc at hs
 simp only[Bool.and_eq_true,decide_eq_true_eq,List.all_eq_true] at hs
 refine⟨hs.1,fun t ht=>?_⟩;have:=hs.2 t ht;unfold shortFr at this
 simp only[Bool.and_eq_true,decide_eq_true_eq] at this
 omega
theorem vcd3 {w:World} {v:Vc} {cnt:Int} (h:VcIn w v) (hs:shortVc cnt 3 v=true):∃D,VcD w v.A v.n v.c D :=
 vcd_of (m:=3) h.2.1 zd fun t ht=>by
  have h1:=(short3 hs).2 t ht;exact⟨(h.2.2.1 t ht).1.2.2 3 h1.1 h1.2,h1⟩
theorem fsd3 {w:World} {A:Option Addr} {n c:Nat} {L:List Fr} {cnt:Int} (h:Sl Fr.cs 4 w A n c L) (hi:∀x∈L,FrIn w x) (hs:shortFrs cnt 3 n L=true):(n:Int)≤cnt∧∃D,FsD w A n c D:=by
 unfold shortFrs at hs
 simp only[Bool.and_eq_true,decide_eq_true_eq,List.all_eq_true] at hs
 refine⟨hs.1,fsd_of (m:=3) h zd fun x hx=>?_⟩;have h1:=hs.2 x hx;unfold shortFr at h1
 simp only[Bool.and_eq_true,decide_eq_true_eq] at h1
 exact⟨(hi x hx).2.2 3 zo zo,zo,zo⟩
theorem all2_mem {α β:Type} {R:α→β→Prop} {L:List α} {E:List β} (h:All2 R L E) {d:β} (hd:d∈E):∃x∈L,R x d:=by
 obtain⟨i,hi⟩:=List.getElem?_of_mem hd;have hi2:i<L.length:=by rw[h.1];exact(List.getElem?_eq_some_iff.1 hi).1
 exact⟨_,List.getElem_mem hi2,h.2 i _ d (List.getElem?_eq_getElem hi2) hi⟩
theorem ly_small {w:World} {y:Ly} (h:LyIn w y) (hs:smallLy 40 3 y=true):(∃d,LyD w y d)∧(y.rn≤1000000∧y.bn≤1000000∧y.kn≤1000000∧y.gn≤1000000)∧∀v∈y.rows,GV w v.A v.n v.c (prs v.L) 870∧v.n≤1000:=by
 unfold smallLy at hs
 simp only[Bool.and_eq_true,decide_eq_true_eq] at hs
 obtain⟨h1,h2,h3,h4,_,_,_,_,h9⟩:=hs;unfold shortVcs at h1
 simp only[Bool.and_eq_true,decide_eq_true_eq,List.all_eq_true] at h1
 obtain⟨l2,B,hB⟩:=fsd3 h.bias h.bok h2;obtain⟨l3,K,hK⟩:=fsd3 h.kern h.kok h3;obtain⟨E,hE⟩:=All2.of (R:=fun(v:Vc) D=>VcD w v.A v.n v.c D) (L:=y.rows) fun v hv=>vcd3 (h.rok v hv) (h1.2 v hv);obtain⟨G,hG⟩:=All2.of (R:=fun(v:Gp) D=>Sl ics 1 w v.A v.n v.c D) (L:=y.groups) fun v hv=>⟨v.L,(h.gok v hv).2.1⟩;refine⟨⟨⟨y.kind,E,B,nums y,K,G⟩,rfl,⟨⟨y.rows,h.rows,hE⟩,fun D hD=>?_⟩,hB,rfl,hK,⟨⟨y.groups,h.groups,hG⟩,fun D hD=>?_⟩⟩,⟨zo,zo,zo,zo⟩,fun v hv=>?_⟩
 ·obtain⟨v,hv,hd⟩:=all2_mem hE hD;have h5:=VcD.len hd;have h6:=(short3 (h1.2 v hv)).1;omega
 ·obtain⟨v,hv,hd⟩:=all2_mem hG hD;have h5:=hd.1;have h6:=List.all_eq_true.1 h9 v hv;simp only[decide_eq_true_eq] at h6
  omega
 ·have h5:=gv_small (cnt:=40) (most:=3) (h.rok v hv).2.1 (h.rok v hv).2.2.1 (h.rok v hv).2.2.2 (h1.2 v hv);exact⟨h5.1.mono zd,by have:=h5.2;omega⟩
theorem net_small {w:World} {A:Option Addr} {n c:Nat} {L:List Ly} (h:Sl Ly.cs 13 w A n c L) (hi:∀y∈L,LyIn w y) (hs:smallNet 20 40 3 n L=true):n≤20∧(∃E,NetD w A n c E)∧GVs w L:=by
 unfold smallNet at hs
 simp only[Bool.and_eq_true,decide_eq_true_eq,List.all_eq_true] at hs
 obtain⟨E,hE⟩:=All2.of (R:=LyD w) (L:=L) fun y hy=>(ly_small (hi y hy) (hs.2 y hy)).1;exact⟨zo,⟨E,L,h,hE,fun y hy=>(ly_small (hi y hy) (hs.2 y hy)).2.1⟩,fun y hy=>(ly_small (hi y hy) (hs.2 y hy)).2.2⟩
theorem qy_small {w:World} {q:Qy} (h:QyB w q) (hs:smallQy 70 3 q=true):(∃d,QyD w q d)∧q.xn≤1000000∧q.on≤1000000∧q.hn≤1000000:=by
 unfold smallQy at hs
 simp only[Bool.and_eq_true] at hs
 obtain⟨a,X,hX⟩:=fsd3 h.x h.xi hs.1;obtain⟨b,O,hO⟩:=fsd3 h.o h.oi hs.2.1;obtain⟨c,H,hH⟩:=fsd3 h.h h.hi hs.2.2;exact⟨⟨⟨X,O,H⟩,hX,hO,hH⟩,zo,zo,zo⟩
theorem checkR_is {w:World} {m:Nat} {inp:Int} {lA:Option Addr} {ln lc:Nat} {L:List Ly} (h:Sl Ly.cs 13 w lA ln lc L) (hok:LysOk w m L) (hg:GVs w L) (hm:m≤1900) (hln:ln≤9223372036854775807) (hT:Hid (Tab w)) (l:List Int) (z:Int) (hl:Hid (listF inp L=l)) (hz:Hid (checkF inp L=z)) :
  Calls Tryz.prog 9 #[.agg #[.int .i64 inp,.slice lA ln lc]] w fun e w'=>∃A n c,e=.returned (.tuple #[.slice A n c,.int .i64 z])∧Sl ics 1 w' A n c l∧Below w.heap.size w w':=by
 refine(checkR_q h (zh hok) (zh hg) hm hln hT).mono fun e w' k=>?_;rw[←hl.out,←hz.out];unfold listF checkF
 unfold TellsZs at k
 cases hs:zAg inp L with
 | error y =>
  rw[hs] at k;exact⟨_,_,_,k.1,Sl.nil _,k.2⟩
 | ok y =>
  rw[hs] at k;obtain⟨A,n,c,h1,h2,_,h3⟩:=k;exact⟨A,n,c,h1,h2,h3⟩
theorem queryR_is {w:World} {m:Nat} {inp:Int} {lA:Option Addr} {ln lc:Nat} {L:List Ly} {q:Qy} (h:Sl Ly.cs 13 w lA ln lc L) (hok:LysOk w m L) (hg:GVs w L) (hm:m≤400) (hln:ln≤9223372036854775807) (hq:QyOk w m q) (hT:Hid (Tab w)) (z:Int) (hz:Hid (zAq inp L q=z)) :
  Calls Tryz.prog 14 #[.agg #[.int .i64 inp,.slice lA ln lc],.agg #[.slice q.xA q.xn q.xc,.int .i64 q.label,.slice q.oA q.on q.oc,.slice q.hA q.hn q.hc,.int .u8 q.norm]] w fun e w'=>e=.returned (.int .i64 z)∧Below w.heap.size w w':=by
 rw[←hz.out];exact queryR_q h (zh hok) (zh hg) hm hln hq hT
theorem sameQuery_qp {w:World} {p q:Qy} {d:QyG} (e1:p.label=q.label) (e2:p.norm=q.norm) (h:QyD w q d) (hn:q.xn≤1000000∧q.on≤1000000∧q.hn≤1000000) (k:QyD w p d) :
  Calls Tryz.prog 16 #[.agg #[.slice p.xA p.xn p.xc,.int .i64 p.label,.slice p.oA p.on p.oc,.slice p.hA p.hn p.hc,.int .u8 p.norm],.agg #[.slice q.xA q.xn q.xc,.int .i64 q.label,.slice q.oA q.on q.oc,.slice q.hA q.hn q.hc,.int .u8 q.norm]] w fun e w'=>e=.returned (.bool true)∧Below w.heap.size w w':=by
 have h1:=k.x.len;have h2:=k.o.len;have h3:=k.h.len;have h4:=h.x.len;have h5:=h.o.len;have h6:=h.h.len;have h7:=sameQuery_q (p:=q) (q:=p) k h zo;rw[e1,e2] at h7 ⊢;exact h7
theorem list_len {inp:Int} {L:List Ly}:(listF inp L).length≤L.length+1:=by
 unfold listF
 cases hz:zAg inp L with
 | error z=>exact Nat.zero_le _
 | ok l=>exact Nat.le_of_eq (steps_ok (sizes_steps hz).2.2.2).1
theorem tells10_0 {w:World} {inp:Int} {lA:Option Addr} {ln lc:Nat} {L:List Ly} {q:Qy} (h:Sl Ly.cs 13 w lA ln lc L) (hln:ln≤9223372036854775807) (hin:Hid (∀y∈L,LyIn w y)) (_hq:Hid (QyB w q)) (HS:Hid (smallNet 20 40 3 ln L=false)) (hT:Hid (Tab w)) :
  Calls Tryz.prog 3 #[.agg #[.int .i64 inp,.slice lA ln lc],.agg #[.slice q.xA q.xn q.xc,.int .i64 q.label,.slice q.oA q.on q.oc,.slice q.hA q.hn q.hc,.int .u8 q.norm]] w fun e w'=>e=.returned (.bool true)∧Below w.heap.size w w':=by
 obtain⟨W,hW,x0,x1,hB⟩:=zAh w #[.int .i64 inp,.slice lA ln lc] 24 #[.slice q.xA q.xn q.xc,.int .i64 q.label,.slice q.oA q.on q.oc,.slice q.hA q.hn q.hc,.int .u8 q.norm] 28;have HX0:=zh x0;have HX1:=zh x1;clear x0 x1;have Bz:=zr W;obtain⟨pa0,pa1,-⟩:=(zxb HX0 Bz).cz;go_enter Tryz.func3,Tryz.ntmps3
 go_wp2_with fail
 rw[←hW];clear hW;go_wp2_with fail
 with_reducible refine(smallNet_q (h.below (bT hB (bT (b:=W) Bz))) (zh fun y hy=>(hin.out y hy).below (bT hB (bT (b:=W) Bz))) hln 20 40 3 zo false HS).mono ?_
 rintro e w1 ⟨rfl,b1⟩;replace b1:=zq (a:=W) b1;replace Bz:=bT Bz b1;clear b1;clear pa0 pa1;go_wp2_with fail
 with_reducible refine(awake10_q (zt hT hB Bz)).mono ?_
 rintro e w2 ⟨rfl,b2⟩;replace b2:=zq (a:=w1) b2;replace Bz:=bT Bz b2;clear b2;go_wp2_with fail
 go_ret
 have hF:=bT (c:=w2) hB Bz;exact⟨rfl,bT hF⟩
theorem tells10_1 {w:World} {inp:Int} {lA:Option Addr} {ln lc:Nat} {L:List Ly} {q:Qy} (h:Sl Ly.cs 13 w lA ln lc L) (hln:ln≤9223372036854775807) (hin:Hid (∀y∈L,LyIn w y)) (hq:Hid (QyB w q)) (HS:Hid (smallNet 20 40 3 ln L=true)) (HQ:Hid (smallQy 70 3 q=false)) (hT:Hid (Tab w)) :
  Calls Tryz.prog 3 #[.agg #[.int .i64 inp,.slice lA ln lc],.agg #[.slice q.xA q.xn q.xc,.int .i64 q.label,.slice q.oA q.on q.oc,.slice q.hA q.hn q.hc,.int .u8 q.norm]] w fun e w'=>e=.returned (.bool true)∧Below w.heap.size w w':=by
 obtain⟨W,hW,x0,x1,hB⟩:=zAh w #[.int .i64 inp,.slice lA ln lc] 24 #[.slice q.xA q.xn q.xc,.int .i64 q.label,.slice q.oA q.on q.oc,.slice q.hA q.hn q.hc,.int .u8 q.norm] 28;have HX0:=zh x0;have HX1:=zh x1;clear x0 x1;have Bz:=zr W;obtain⟨pa0,pa1,-⟩:=(zxb HX0 Bz).cz;go_enter Tryz.func3,Tryz.ntmps3
 go_wp2_with fail
 rw[←hW];clear hW;go_wp2_with fail
 with_reducible refine(smallNet_q (h.below (bT hB (bT (b:=W) Bz))) (zh fun y hy=>(hin.out y hy).below (bT hB (bT (b:=W) Bz))) hln 20 40 3 zo true HS).mono ?_
 rintro e w1 ⟨rfl,b1⟩;replace b1:=zq (a:=W) b1;replace Bz:=bT Bz b1;clear b1;clear pa0 pa1;obtain⟨pb0,pb1,pb2,pb3,pb4,-⟩:=(zxb HX1 Bz).cz;go_wp2_with fail
 with_reducible refine(smallQuery_q (zh (hq.out.below (bT hB (bT (b:=w1) Bz)))) 70 3 false HQ).mono ?_
 rintro e w2 ⟨rfl,b2⟩;replace b2:=zq (a:=w1) b2;replace Bz:=bT Bz b2;clear b2;clear pb0 pb1 pb2 pb3 pb4;go_wp2_with fail
 with_reducible refine(awake10_q (zt hT hB Bz)).mono ?_
 rintro e w3 ⟨rfl,b3⟩;replace b3:=zq (a:=w2) b3;replace Bz:=bT Bz b3;clear b3;go_wp2_with fail
 go_ret
 have hF:=bT (c:=w3) hB Bz;exact⟨rfl,bT hF⟩
theorem tells10_ok {w:World} {inp:Int} {lA:Option Addr} {ln lc:Nat} {L:List Ly} {q:Qy} (h:Sl Ly.cs 13 w lA ln lc L) (hln:ln≤9223372036854775807) (hin:Hid (∀y∈L,LyIn w y)) (hq:Hid (QyB w q)) (HS:Hid (smallNet 20 40 3 ln L=true)) (HQ:Hid (smallQy 70 3 q=true)) {E:List LyG} {d:QyG} (hok:Hid (LysOk w 3 L)) (hgv:Hid (GVs w L)) (HND:Hid (NetD w lA ln lc E)) (hl20:ln≤20) (HQO:Hid (QyOk w 3 q)) (HQD:Hid (QyD w q d)) (HQN:Hid (q.xn≤1000000∧q.on≤1000000∧q.hn≤1000000))
  {l:List Int} {z y:Int} (HL:Hid (listF inp L=l)) (HZ:Hid (checkF inp L=z)) (HY:Hid (zAq inp L q=y)) (hll:l.length≤1000) (_g1:(z==z)=true) (_g2:(y==y)=true) (hT:Hid (Tab w)) :
  Calls Tryz.prog 3 #[.agg #[.int .i64 inp,.slice lA ln lc],.agg #[.slice q.xA q.xn q.xc,.int .i64 q.label,.slice q.oA q.on q.oc,.slice q.hA q.hn q.hc,.int .u8 q.norm]] w fun e w'=>e=.returned (.bool true)∧Below w.heap.size w w':=by
 obtain⟨W,hW,x0,x1,hB⟩:=zAh w #[.int .i64 inp,.slice lA ln lc] 24 #[.slice q.xA q.xn q.xc,.int .i64 q.label,.slice q.oA q.on q.oc,.slice q.hA q.hn q.hc,.int .u8 q.norm] 28;have HX0:=zh x0;have HX1:=zh x1;clear x0 x1;have Bz:=zr W;obtain⟨pa0,pa1,-⟩:=(zxb HX0 Bz).cz;go_enter Tryz.func3,Tryz.ntmps3
 go_wp2_with fail
 rw[←hW];clear hW;with_reducible refine(smallNet_q (h.below (bT hB (bT (b:=W) Bz))) (zh fun y hy=>(hin.out y hy).below (bT hB (bT (b:=W) Bz))) hln 20 40 3 zo true HS).mono ?_
 rintro e w1 ⟨rfl,b1⟩;replace b1:=zq (a:=W) b1;replace Bz:=bT Bz b1;clear b1;clear pa0 pa1;obtain⟨pb0,pb1,pb2,pb3,pb4,-⟩:=(zxb HX1 Bz).cz;go_wp2_with fail
 with_reducible refine(smallQuery_q (zh (hq.out.below (bT hB (bT (b:=w1) Bz)))) 70 3 true HQ).mono ?_
 rintro e w2 ⟨rfl,b2⟩;replace b2:=zq (a:=w1) b2;replace Bz:=bT Bz b2;clear b2;clear pb0 pb1 pb2 pb3 pb4;go_upto_region 3 with(fail)
 replace HX0:=zh (zxb HX0 Bz);replace HX1:=zh (zxb HX1 Bz);replace hB:=bT hB Bz;clear Bz;go_cut [5,6] (fun u v wx=>∃(b5 b6:Nat) (A:Option Addr) (c:Nat) (p:Qy),u=.pointer (some ⟨b5,0,none⟩)∧v=.pointer (some ⟨b6,0,none⟩)∧Bx wx w.heap.size #[.int .i64 inp,.slice lA ln lc] 24∧Bx wx (w.heap.size+1) #[.slice q.xA q.xn q.xc,.int .i64 q.label,.slice q.oA q.on q.oc,.slice q.hA q.hn q.hc,.int .u8 q.norm] 28∧Bx wx b5 #[.int .i64 inp,.slice A ln c] 24∧Bx wx b6 #[.slice p.xA p.xn p.xc,.int .i64 p.label,.slice p.oA p.on p.oc,.slice p.hA p.hn p.hc,.int .u8 p.norm] 28∧Hid (NetD wx A ln c E)∧Hid (QyD wx p d)∧Hid (p.label=q.label)∧Hid (p.norm=q.norm)∧Below w.heap.size w wx)
 case first =>
  have Bz:=zr w2;obtain⟨pa0,pa1,-⟩:=(zxb HX0 Bz).cz;obtain⟨pb0,pb1,pb2,pb3,pb4,-⟩:=(zxb HX1 Bz).cz;go_wp2_with fail
  (try simp only[vAa,vB,vC])
  refine P3.wp_region_plan (.take 0 (.take 2 (.three 1 (.three 3 (.two 4 (.only 5 (.only 6 (.only 7 .done))) 5 (.only 4 (.only 6 (.only 7 .done)))) 4 (.two 3 (.only 5 (.only 6 (.only 7 .done))) 5 (.only 3 (.only 6 (.only 7 .done)))) 5 (.two 3 (.only 4 (.only 6 (.only 7 .done))) 4 (.only 3 (.only 6 (.only 7 .done))))) 4 (.two 1 (.two 3 (.only 5 (.only 6 (.only 7 .done))) 5 (.only 3 (.only 6 (.only 7 .done)))) 5 (.only 1 (.only 3 (.only 6 (.only 7 .done))))) 5 (.two 1 (.two 3 (.only 4 (.only 6 (.only 7 .done))) 4 (.only 3 (.only 6 (.only 7 .done)))) 4 (.only 1 (.only 3 (.only 6 (.only 7 .done)))))))) [6,7] (fun w'=>w'.cell? ⟨w.heap.size,0,none⟩=some (.int .i64 inp)∧w'.cell? ⟨w.heap.size,1,none⟩=some (.slice lA ln lc)∧w'.cell? ⟨w.heap.size+1,0,none⟩=some (.slice q.xA q.xn q.xc)∧w'.cell? ⟨w.heap.size+1,1,none⟩=some (.int .i64 q.label)∧w'.cell? ⟨w.heap.size+1,2,none⟩=some (.slice q.oA q.on q.oc)∧w'.cell? ⟨w.heap.size+1,3,none⟩=some (.slice q.hA q.hn q.hc)∧w'.cell? ⟨w.heap.size+1,4,none⟩=some (.int .u8 q.norm)) (by kernel_rfl) (by kernel_rfl) ⟨pa0,pa1,pb0,pb1,pb2,pb3,pb4⟩ ?_;refine P3.wpPlan_take (o:=⟨some 18,_,_,_,_,_⟩) (v:=?_) rfl rfl (fun w' hS=>?_) ?_;rotate_left
  ·obtain⟨pa0,pa1,pb0,pb1,pb2,pb3,pb4⟩:=hS;go_simp<;>with_reducible rfl
  try simp only[uW,uX,uY,uZ]
  refine P3.wpPlan_take (o:=⟨some 20,_,_,_,_,_⟩) (v:=?_) rfl rfl (fun w' hS=>?_) ?_;rotate_left
  ·obtain⟨pa0,pa1,pb0,pb1,pb2,pb3,pb4⟩:=hS;go_simp<;>with_reducible rfl
  try simp only[uW,uX,uY,uZ]
  refine P3.wpPlan_three (o:=⟨some 19,_,_,_,_,_⟩) (o':=⟨some 5,_,_,_,_,_⟩) (o'':=⟨some 6,_,_,_,_,_⟩) rfl rfl rfl rfl rfl rfl (fun K hK=>?_) (fun K hK=>?_) (fun K hK=>?_)
  ·go_simp
   have qs11_0:=(zxb HX0 Bz).lt;have qs11_1:=(zxb HX1 Bz).lt;with_reducible refine(copyNet_q (HND.out.below (bT hB (bT (b:=w2) Bz))) zo).mono ?_
   rintro e w11 ⟨A11,c11,rfl,h11,b11⟩;replace b11:=zq (a:=w2) b11;replace Bz:=bT Bz b11;clear b11;obtain⟨es11,hs11⟩:∃s,s=w2.heap.size:=⟨_,rfl⟩;obtain⟨et11,ht11⟩:∃s,s=w11.heap.size:=⟨_,rfl⟩;replace h11:Rob w11 es11 et11 (fun u=>NetD u A11 ln c11 E):=by rw[hs11,ht11];exact h11
   clear pa0 pa1 pb0 pb1 pb2 pb3 pb4;obtain⟨pa0,pa1,-⟩:=(zxb HX0 Bz).cz;obtain⟨pb0,pb1,pb2,pb3,pb4,-⟩:=(zxb HX1 Bz).cz;refine hK.out _ _ ⟨pa0,pa1,pb0,pb1,pb2,pb3,pb4⟩ (fun _=>?_);try simp only[uW,uX,uY,uZ]
   clear hK K;refine P3.wpPlan_three (o:=⟨some 21,_,_,_,_,_⟩) (o':=⟨some 5,_,_,_,_,_⟩) (o'':=⟨some 6,_,_,_,_,_⟩) rfl rfl rfl rfl rfl rfl (fun K hK=>?_) (fun K hK=>?_) (fun K hK=>?_)
   ·go_simp
    have qs12_0:=(zxb HX0 Bz).lt;have qs12_1:=(zxb HX1 Bz).lt;with_reducible refine(copyQuery_q (HQD.out.below (bT hB (bT (b:=w11) Bz))) HQN.out).mono ?_
    rintro e w12 ⟨p,rfl,h12,e12,f12,b12⟩;replace b12:=zq (a:=w11) b12;replace h11:=h11.below b12;replace Bz:=bT Bz b12;clear b12;have HPL:=zh e12;have HPN:=zh f12;clear e12 f12;obtain⟨es12,hs12⟩:∃s,s=w11.heap.size:=⟨_,rfl⟩;obtain⟨et12,ht12⟩:∃s,s=w12.heap.size:=⟨_,rfl⟩;replace h12:Rob w12 es12 et12 (fun u=>QyD u p d):=by rw[hs12,ht12];exact h12
    clear pa0 pa1 pb0 pb1 pb2 pb3 pb4;obtain⟨pa0,pa1,-⟩:=(zxb HX0 Bz).cz;obtain⟨pb0,pb1,pb2,pb3,pb4,-⟩:=(zxb HX1 Bz).cz;refine hK.out _ _ ⟨pa0,pa1,pb0,pb1,pb2,pb3,pb4⟩ (fun _=>?_);try simp only[uW,uX,uY,uZ]
    clear hK K;refine P3.wpPlan_two (o:=⟨some 5,_,_,_,_,_⟩) (o':=⟨some 6,_,_,_,_,_⟩) rfl rfl rfl rfl (fun K hK=>?_) (fun K hK=>?_)
    ·go_simp
     refine hK.out _ _ ⟨(zAa pa0),(zAa pa1),(zAa pb0),(zAa pb1),(zAa pb2),(zAa pb3),(zAa pb4)⟩ (fun _=>?_);try simp only[uW,uX,uY,uZ]
     clear hK K;refine P3.wpPlan_call (o:=⟨some 6,_,_,_,_,_⟩) rfl rfl (fun K hK=>?_);go_simp
     refine hK.out _ _ ⟨(zAa (zAa pa0)),(zAa (zAa pa1)),(zAa (zAa pb0)),(zAa (zAa pb1)),(zAa (zAa pb2)),(zAa (zAa pb3)),(zAa (zAa pb4))⟩ (fun _=>?_);try simp only[uW,uX,uY,uZ]
     clear hK K;refine P3.wpPlan_late (o:=⟨none,_,_,_,_,_⟩) rfl rfl zd (fun K hK=>?_);go_simp
     refine hK.out _ _ ?_;try simp only[Act.put,uX,uY,uZ]
     clear hK K;refine P3.wpPlan_late (o:=⟨none,_,_,_,_,_⟩) rfl rfl zd (fun K hK=>?_);go_simp
     refine hK.out _ _ ?_;try simp only[Act.put,uX,uY,uZ]
     clear hK K;refine P3.wpPlan_done ?_;obtain⟨V11,hW,x2,x3,hN⟩:=zAh w12 #[.int .i64 inp,.slice A11 ln c11] 24 #[.slice p.xA p.xn p.xc,.int .i64 p.label,.slice p.oA p.on p.oc,.slice p.hA p.hn p.hc,.int .u8 p.norm] 28;rw[←hW];clear hW;obtain⟨v3,hb3⟩:=ze (w12.heap.size+1);rw[←hb3] at x3 ⊢;obtain⟨v2,hb2⟩:=ze w12.heap.size;rw[←hb2] at x2 ⊢;have o0_2:w.heap.size<v2:=zi (zxb HX0 Bz).lt;have o1_2:w.heap.size+1<v2:=zi (zxb HX1 Bz).lt;have ow_2:w.heap.size≤v2:=zi (zw hB Bz);have oe_2_h11:et11≤v2:=zi h11.le;have oe_2_h12:et12≤v2:=zi h12.le;have o0_3:w.heap.size<v3:=zi (zxb HX0 Bz).lt;have o1_3:w.heap.size+1<v3:=zi (zxb HX1 Bz).lt;have o2_3:v2<v3:=zo;have ow_3:w.heap.size≤v3:=zi (zw hB Bz);have oe_3_h11:et11≤v3:=zi h11.le;have oe_3_h12:et12≤v3:=zi h12.le;replace h11:=h11.below hN;replace h12:=h12.below hN;replace hB:=bT (bT hB Bz) hN;replace HX0:=zba HX0 Bz hN;replace HX1:=zba HX1 Bz hN;have HX2:=zh x2;have HX3:=zh x3;clear x2 x3 hN Bz hb2 hb3;have Bz:=zr V11;clear pa0 pa1 pb0 pb1 pb2 pb3 pb4;go_wp2_with fail
     go_meet
     case rel=>exact⟨_,_,_,_,p,rfl,rfl,HX0.out.below (bT Bz),HX1.out.below (bT Bz),HX2.out.below (bT Bz),HX3.out.below (bT Bz),zh (Rob.here (Rob.below h11)),zh (Rob.here (Rob.below h12)),HPL,HPN,bT hB (bT Bz)⟩
    ·go_simp
     refine hK.out _ _ ⟨(zAa pa0),(zAa pa1),(zAa pb0),(zAa pb1),(zAa pb2),(zAa pb3),(zAa pb4)⟩ (fun _=>?_);try simp only[uW,uX,uY,uZ]
     clear hK K;refine P3.wpPlan_call (o:=⟨some 5,_,_,_,_,_⟩) rfl rfl (fun K hK=>?_);go_simp
     refine hK.out _ _ ⟨(zAa (zAa pa0)),(zAa (zAa pa1)),(zAa (zAa pb0)),(zAa (zAa pb1)),(zAa (zAa pb2)),(zAa (zAa pb3)),(zAa (zAa pb4))⟩ (fun _=>?_);try simp only[uW,uX,uY,uZ]
     clear hK K;refine P3.wpPlan_late (o:=⟨none,_,_,_,_,_⟩) rfl rfl zd (fun K hK=>?_);go_simp
     refine hK.out _ _ ?_;try simp only[Act.put,uX,uY,uZ]
     clear hK K;refine P3.wpPlan_late (o:=⟨none,_,_,_,_,_⟩) rfl rfl zd (fun K hK=>?_);go_simp
     refine hK.out _ _ ?_;try simp only[Act.put,uX,uY,uZ]
     clear hK K;refine P3.wpPlan_done ?_;obtain⟨V11,hW,x2,x3,hN⟩:=zAh w12 #[.slice p.xA p.xn p.xc,.int .i64 p.label,.slice p.oA p.on p.oc,.slice p.hA p.hn p.hc,.int .u8 p.norm] 28 #[.int .i64 inp,.slice A11 ln c11] 24;rw[←hW];clear hW;obtain⟨v3,hb3⟩:=ze (w12.heap.size+1);rw[←hb3] at x3 ⊢;obtain⟨v2,hb2⟩:=ze w12.heap.size;rw[←hb2] at x2 ⊢;have o0_2:w.heap.size<v2:=zi (zxb HX0 Bz).lt;have o1_2:w.heap.size+1<v2:=zi (zxb HX1 Bz).lt;have ow_2:w.heap.size≤v2:=zi (zw hB Bz);have oe_2_h11:et11≤v2:=zi h11.le;have oe_2_h12:et12≤v2:=zi h12.le;have o0_3:w.heap.size<v3:=zi (zxb HX0 Bz).lt;have o1_3:w.heap.size+1<v3:=zi (zxb HX1 Bz).lt;have o2_3:v2<v3:=zo;have ow_3:w.heap.size≤v3:=zi (zw hB Bz);have oe_3_h11:et11≤v3:=zi h11.le;have oe_3_h12:et12≤v3:=zi h12.le;replace h11:=h11.below hN;replace h12:=h12.below hN;replace hB:=bT (bT hB Bz) hN;replace HX0:=zba HX0 Bz hN;replace HX1:=zba HX1 Bz hN;have HX2:=zh x2;have HX3:=zh x3;clear x2 x3 hN Bz hb2 hb3;have Bz:=zr V11;clear pa0 pa1 pb0 pb1 pb2 pb3 pb4;go_wp2_with fail
     go_meet
     case rel=>exact⟨_,_,_,_,p,rfl,rfl,HX0.out.below (bT Bz),HX1.out.below (bT Bz),HX3.out.below (bT Bz),HX2.out.below (bT Bz),zh (Rob.here (Rob.below h11)),zh (Rob.here (Rob.below h12)),HPL,HPN,bT hB (bT Bz)⟩
   ·go_simp
    refine hK.out _ _ ⟨(zAa pa0),(zAa pa1),(zAa pb0),(zAa pb1),(zAa pb2),(zAa pb3),(zAa pb4)⟩ (fun _=>?_);try simp only[uW,uX,uY,uZ]
    clear hK K;refine P3.wpPlan_two (o:=⟨some 21,_,_,_,_,_⟩) (o':=⟨some 6,_,_,_,_,_⟩) rfl rfl rfl rfl (fun K hK=>?_) (fun K hK=>?_)
    ·go_simp
     obtain⟨V11,hW,x2,hN⟩:=zAc w11 #[.int .i64 0,.slice none 0 0] 24;rw[←hW];clear hW;obtain⟨v2,hb2⟩:=ze w11.heap.size;rw[←hb2] at x2 ⊢;have o0_2:w.heap.size<v2:=zi (zxb HX0 Bz).lt;have o1_2:w.heap.size+1<v2:=zi (zxb HX1 Bz).lt;have ow_2:w.heap.size≤v2:=zi (zw hB Bz);have oe_2_h11:et11≤v2:=zi h11.le;replace h11:=h11.below hN;replace hB:=bT (bT hB Bz) hN;replace HX0:=zba HX0 Bz hN;replace HX1:=zba HX1 Bz hN;have HX2:=zh x2;clear x2 hN Bz hb2;have Bz:=zr V11;clear pa0 pa1 pb0 pb1 pb2 pb3 pb4;have qs12_0:=(zxb HX0 Bz).lt;have qs12_1:=(zxb HX1 Bz).lt;have qs12_2:=(zxb HX2 Bz).lt;with_reducible refine(copyQuery_q (HQD.out.below (bT hB (bT (b:=V11) Bz))) HQN.out).mono ?_
     rintro e w12 ⟨p,rfl,h12,e12,f12,b12⟩;replace b12:=zq (a:=V11) b12;replace h11:=h11.below b12;replace Bz:=bT Bz b12;clear b12;have HPL:=zh e12;have HPN:=zh f12;clear e12 f12;obtain⟨es12,hs12⟩:∃s,s=V11.heap.size:=⟨_,rfl⟩;obtain⟨et12,ht12⟩:∃s,s=w12.heap.size:=⟨_,rfl⟩;replace h12:Rob w12 es12 et12 (fun u=>QyD u p d):=by rw[hs12,ht12];exact h12
     obtain⟨pa0,pa1,-⟩:=(zxb HX0 Bz).cz;obtain⟨pb0,pb1,pb2,pb3,pb4,-⟩:=(zxb HX1 Bz).cz;obtain⟨pc0,pc1,-⟩:=(zxb HX2 Bz).cz;have fc0:=(zxb HX2 Bz).frozen 0;have fc1:=(zxb HX2 Bz).frozen 1;have y2:=(zxb HX2 Bz).lt;refine hK.out _ _ ⟨pa0,pa1,pb0,pb1,pb2,pb3,pb4⟩ (fun _=>?_);try simp only[uW,uX,uY,uZ]
     clear hK K;refine P3.wpPlan_call (o:=⟨some 6,_,_,_,_,_⟩) rfl rfl (fun K hK=>?_);go_simp
     refine hK.out _ _ ⟨(zAa pa0),(zAa pa1),(zAa pb0),(zAa pb1),(zAa pb2),(zAa pb3),(zAa pb4)⟩ (fun _=>?_);try simp only[uW,uX,uY,uZ]
     clear hK K;refine P3.wpPlan_late (o:=⟨none,_,_,_,_,_⟩) rfl rfl zd (fun K hK=>?_);go_simp
     refine hK.out _ _ ?_;try simp only[Act.put,uX,uY,uZ]
     clear hK K;refine P3.wpPlan_late (o:=⟨none,_,_,_,_,_⟩) rfl rfl zd (fun K hK=>?_);go_simp
     refine hK.out _ _ ?_;try simp only[Act.put,uX,uY,uZ]
     clear hK K;refine P3.wpPlan_done ?_;clear pa0 pa1 pb0 pb1 pb2 pb3 pb4 pc0 pc1 fc0 fc1 y2;obtain⟨V12,hW,x,kk,far,bel⟩:=zAp (.int .i64 inp) (.slice A11 ln c11) (zxb HX2 Bz) nofun nofun;have hoff:∀(k j:Nat),k≠v2→V12.cell? ⟨k,j,none⟩=w12.cell? ⟨k,j,none⟩:=fun k j hk=>by rw[hW];exact zAe (Ne.symm hk)
     have hzV12:V12.heap.size=w12.heap.size:=by rw[hW];simp
     rw[←hW];clear hW;replace h11:=h11.off hoff kk (bel 0 _ (Nat.zero_le _) (Below.refl 0 _)).size zo;replace h12:=h12.off hoff kk (bel 0 _ (Nat.zero_le _) (Below.refl 0 _)).size zo;replace hB:=bel w.heap.size w zo (bT hB Bz);replace HX0:=zf far HX0 Bz;replace HX1:=zf far HX1 Bz;replace HX2:=zh x;clear x kk far bel Bz hoff;have Bz:=zr V12;have hz:V12.heap.size=w12.heap.size:=zo;obtain⟨V13,hW,x3,hN⟩:=zAc V12 #[.slice p.xA p.xn p.xc,.int .i64 p.label,.slice p.oA p.on p.oc,.slice p.hA p.hn p.hc,.int .u8 p.norm] 28;have hs3:V13.heap.size=V12.heap.size+1:=by rw[hW];simp
     rw[←hW];clear hW;rw[hz] at x3 hs3;obtain⟨v3,hb3⟩:=ze w12.heap.size;rw[←hb3] at x3 hs3  ⊢;have o0_3:w.heap.size<v3:=zi (zxb HX0 Bz).lt;have o1_3:w.heap.size+1<v3:=zi (zxb HX1 Bz).lt;have o2_3:v2<v3:=zi (zxb HX2 Bz).lt;have ow_3:w.heap.size≤v3:=zi (zw hB Bz);have oe_3_h11:et11≤v3:=zi h11.le;have oe_3_h12:et12≤v3:=zi h12.le;replace h11:=h11.below hN;replace h12:=h12.below hN;replace hB:=bT (bT hB Bz) hN;replace HX0:=zba HX0 Bz hN;replace HX1:=zba HX1 Bz hN;replace HX2:=zba HX2 Bz hN;have HX3:=zh x3;clear x3 hN Bz hb3;have Bz:=zr V13;go_wp2_with fail
     go_meet
     case rel=>exact⟨_,_,_,_,p,rfl,rfl,HX0.out.below (bT Bz),HX1.out.below (bT Bz),HX2.out.below (bT Bz),HX3.out.below (bT Bz),zh (Rob.here (Rob.below h11)),zh (Rob.here (Rob.below h12)),HPL,HPN,bT hB (bT Bz)⟩
    ·go_simp
     refine hK.out _ _ ⟨(zAa (zAa pa0)),(zAa (zAa pa1)),(zAa (zAa pb0)),(zAa (zAa pb1)),(zAa (zAa pb2)),(zAa (zAa pb3)),(zAa (zAa pb4))⟩ (fun _=>?_);try simp only[uW,uX,uY,uZ]
     clear hK K;refine P3.wpPlan_call (o:=⟨some 21,_,_,_,_,_⟩) rfl rfl (fun K hK=>?_);go_simp
     obtain⟨V11,hW,x2,x3,hN⟩:=zAh w11 #[.int .i64 0,.slice none 0 0] 24 #[.slice none 0 0,.int .i64 0,.slice none 0 0,.slice none 0 0,.int .u8 0] 28;rw[←hW];clear hW;obtain⟨v3,hb3⟩:=ze (w11.heap.size+1);rw[←hb3] at x3 ⊢;obtain⟨v2,hb2⟩:=ze w11.heap.size;rw[←hb2] at x2 ⊢;have o0_2:w.heap.size<v2:=zi (zxb HX0 Bz).lt;have o1_2:w.heap.size+1<v2:=zi (zxb HX1 Bz).lt;have ow_2:w.heap.size≤v2:=zi (zw hB Bz);have oe_2_h11:et11≤v2:=zi h11.le;have o0_3:w.heap.size<v3:=zi (zxb HX0 Bz).lt;have o1_3:w.heap.size+1<v3:=zi (zxb HX1 Bz).lt;have o2_3:v2<v3:=zo;have ow_3:w.heap.size≤v3:=zi (zw hB Bz);have oe_3_h11:et11≤v3:=zi h11.le;replace h11:=h11.below hN;replace hB:=bT (bT hB Bz) hN;replace HX0:=zba HX0 Bz hN;replace HX1:=zba HX1 Bz hN;have HX2:=zh x2;have HX3:=zh x3;clear x2 x3 hN Bz hb2 hb3;have Bz:=zr V11;clear pa0 pa1 pb0 pb1 pb2 pb3 pb4;have qs12_0:=(zxb HX0 Bz).lt;have qs12_1:=(zxb HX1 Bz).lt;have qs12_2:=(zxb HX2 Bz).lt;have qs12_3:=(zxb HX3 Bz).lt;with_reducible refine(copyQuery_q (HQD.out.below (bT hB (bT (b:=V11) Bz))) HQN.out).mono ?_
     rintro e w12 ⟨p,rfl,h12,e12,f12,b12⟩;replace b12:=zq (a:=V11) b12;replace h11:=h11.below b12;replace Bz:=bT Bz b12;clear b12;have HPL:=zh e12;have HPN:=zh f12;clear e12 f12;obtain⟨es12,hs12⟩:∃s,s=V11.heap.size:=⟨_,rfl⟩;obtain⟨et12,ht12⟩:∃s,s=w12.heap.size:=⟨_,rfl⟩;replace h12:Rob w12 es12 et12 (fun u=>QyD u p d):=by rw[hs12,ht12];exact h12
     obtain⟨pa0,pa1,-⟩:=(zxb HX0 Bz).cz;obtain⟨pb0,pb1,pb2,pb3,pb4,-⟩:=(zxb HX1 Bz).cz;obtain⟨pc0,pc1,-⟩:=(zxb HX2 Bz).cz;have fc0:=(zxb HX2 Bz).frozen 0;have fc1:=(zxb HX2 Bz).frozen 1;have y2:=(zxb HX2 Bz).lt;obtain⟨pd0,pd1,pd2,pd3,pd4,-⟩:=(zxb HX3 Bz).cz;have fd0:=(zxb HX3 Bz).frozen 0;have fd1:=(zxb HX3 Bz).frozen 1;have fd2:=(zxb HX3 Bz).frozen 2;have fd3:=(zxb HX3 Bz).frozen 3;have fd4:=(zxb HX3 Bz).frozen 4;have y3:=(zxb HX3 Bz).lt;refine hK.out _ _ ⟨pa0,pa1,pb0,pb1,pb2,pb3,pb4⟩ (fun _=>?_);try simp only[uW,uX,uY,uZ]
     clear hK K;refine P3.wpPlan_late (o:=⟨none,_,_,_,_,_⟩) rfl rfl zd (fun K hK=>?_);go_simp
     refine hK.out _ _ ?_;try simp only[Act.put,uX,uY,uZ]
     clear hK K;refine P3.wpPlan_late (o:=⟨none,_,_,_,_,_⟩) rfl rfl zd (fun K hK=>?_);go_simp
     refine hK.out _ _ ?_;try simp only[Act.put,uX,uY,uZ]
     clear hK K;refine P3.wpPlan_done ?_;obtain⟨V12,hW,x,kk,far,bel⟩:=zAp (.int .i64 inp) (.slice A11 ln c11) (zxb HX2 Bz) nofun nofun;have hoff:∀(k j:Nat),k≠v2→V12.cell? ⟨k,j,none⟩=w12.cell? ⟨k,j,none⟩:=fun k j hk=>by rw[hW];exact zAe (Ne.symm hk)
     rw[←hW];clear hW;replace h11:=h11.off hoff kk (bel 0 _ (Nat.zero_le _) (Below.refl 0 _)).size zo;replace h12:=h12.off hoff kk (bel 0 _ (Nat.zero_le _) (Below.refl 0 _)).size zo;replace hB:=bel w.heap.size w zo (bT hB Bz);replace HX0:=zf far HX0 Bz;replace HX1:=zf far HX1 Bz;replace HX3:=zf far HX3 Bz;replace HX2:=zh x;clear x kk far bel Bz hoff;have Bz:=zr V12;obtain⟨V13,hW,x,kk,far,bel⟩:=store5 (.slice p.xA p.xn p.xc) (.int .i64 p.label) (.slice p.oA p.on p.oc) (.slice p.hA p.hn p.hc) (.int .u8 p.norm) (zxb HX3 Bz) nofun nofun nofun nofun nofun;have hoff:∀(k j:Nat),k≠v3→V13.cell? ⟨k,j,none⟩=V12.cell? ⟨k,j,none⟩:=fun k j hk=>by rw[hW];exact cell_off5 (Ne.symm hk)
     rw[←hW];clear hW;replace h11:=h11.off hoff kk (bel 0 _ (Nat.zero_le _) (Below.refl 0 _)).size zo;replace h12:=h12.off hoff kk (bel 0 _ (Nat.zero_le _) (Below.refl 0 _)).size zo;replace hB:=bel w.heap.size w zo (bT hB Bz);replace HX0:=zf far HX0 Bz;replace HX1:=zf far HX1 Bz;replace HX2:=zf far HX2 Bz;replace HX3:=zh x;clear x kk far bel Bz hoff;have Bz:=zr V13;clear pa0 pa1 pb0 pb1 pb2 pb3 pb4 pc0 pc1 fc0 fc1 y2 pd0 pd1 pd2 pd3 pd4 fd0 fd1 fd2 fd3 fd4 y3;go_wp2_with fail
     go_meet
     case rel=>exact⟨_,_,_,_,p,rfl,rfl,HX0.out.below (bT Bz),HX1.out.below (bT Bz),HX2.out.below (bT Bz),HX3.out.below (bT Bz),zh (Rob.here (Rob.below h11)),zh (Rob.here (Rob.below h12)),HPL,HPN,bT hB (bT Bz)⟩
   ·go_simp
    refine hK.out _ _ ⟨(zAa pa0),(zAa pa1),(zAa pb0),(zAa pb1),(zAa pb2),(zAa pb3),(zAa pb4)⟩ (fun _=>?_);try simp only[uW,uX,uY,uZ]
    clear hK K;refine P3.wpPlan_two (o:=⟨some 21,_,_,_,_,_⟩) (o':=⟨some 5,_,_,_,_,_⟩) rfl rfl rfl rfl (fun K hK=>?_) (fun K hK=>?_)
    ·go_simp
     obtain⟨V11,hW,x2,hN⟩:=zAc w11 #[.slice none 0 0,.int .i64 0,.slice none 0 0,.slice none 0 0,.int .u8 0] 28;rw[←hW];clear hW;obtain⟨v2,hb2⟩:=ze w11.heap.size;rw[←hb2] at x2 ⊢;have o0_2:w.heap.size<v2:=zi (zxb HX0 Bz).lt;have o1_2:w.heap.size+1<v2:=zi (zxb HX1 Bz).lt;have ow_2:w.heap.size≤v2:=zi (zw hB Bz);have oe_2_h11:et11≤v2:=zi h11.le;replace h11:=h11.below hN;replace hB:=bT (bT hB Bz) hN;replace HX0:=zba HX0 Bz hN;replace HX1:=zba HX1 Bz hN;have HX2:=zh x2;clear x2 hN Bz hb2;have Bz:=zr V11;clear pa0 pa1 pb0 pb1 pb2 pb3 pb4;have qs12_0:=(zxb HX0 Bz).lt;have qs12_1:=(zxb HX1 Bz).lt;have qs12_2:=(zxb HX2 Bz).lt;with_reducible refine(copyQuery_q (HQD.out.below (bT hB (bT (b:=V11) Bz))) HQN.out).mono ?_
     rintro e w12 ⟨p,rfl,h12,e12,f12,b12⟩;replace b12:=zq (a:=V11) b12;replace h11:=h11.below b12;replace Bz:=bT Bz b12;clear b12;have HPL:=zh e12;have HPN:=zh f12;clear e12 f12;obtain⟨es12,hs12⟩:∃s,s=V11.heap.size:=⟨_,rfl⟩;obtain⟨et12,ht12⟩:∃s,s=w12.heap.size:=⟨_,rfl⟩;replace h12:Rob w12 es12 et12 (fun u=>QyD u p d):=by rw[hs12,ht12];exact h12
     obtain⟨pa0,pa1,-⟩:=(zxb HX0 Bz).cz;obtain⟨pb0,pb1,pb2,pb3,pb4,-⟩:=(zxb HX1 Bz).cz;obtain⟨pc0,pc1,pc2,pc3,pc4,-⟩:=(zxb HX2 Bz).cz;have fc0:=(zxb HX2 Bz).frozen 0;have fc1:=(zxb HX2 Bz).frozen 1;have fc2:=(zxb HX2 Bz).frozen 2;have fc3:=(zxb HX2 Bz).frozen 3;have fc4:=(zxb HX2 Bz).frozen 4;have y2:=(zxb HX2 Bz).lt;refine hK.out _ _ ⟨pa0,pa1,pb0,pb1,pb2,pb3,pb4⟩ (fun _=>?_);try simp only[uW,uX,uY,uZ]
     clear hK K;refine P3.wpPlan_call (o:=⟨some 5,_,_,_,_,_⟩) rfl rfl (fun K hK=>?_);go_simp
     refine hK.out _ _ ⟨(zAa pa0),(zAa pa1),(zAa pb0),(zAa pb1),(zAa pb2),(zAa pb3),(zAa pb4)⟩ (fun _=>?_);try simp only[uW,uX,uY,uZ]
     clear hK K;refine P3.wpPlan_late (o:=⟨none,_,_,_,_,_⟩) rfl rfl zd (fun K hK=>?_);go_simp
     refine hK.out _ _ ?_;try simp only[Act.put,uX,uY,uZ]
     clear hK K;refine P3.wpPlan_late (o:=⟨none,_,_,_,_,_⟩) rfl rfl zd (fun K hK=>?_);go_simp
     refine hK.out _ _ ?_;try simp only[Act.put,uX,uY,uZ]
     clear hK K;refine P3.wpPlan_done ?_;clear pa0 pa1 pb0 pb1 pb2 pb3 pb4 pc0 pc1 pc2 pc3 pc4 fc0 fc1 fc2 fc3 fc4 y2;obtain⟨V12,hW,x,kk,far,bel⟩:=store5 (.slice p.xA p.xn p.xc) (.int .i64 p.label) (.slice p.oA p.on p.oc) (.slice p.hA p.hn p.hc) (.int .u8 p.norm) (zxb HX2 Bz) nofun nofun nofun nofun nofun;have hoff:∀(k j:Nat),k≠v2→V12.cell? ⟨k,j,none⟩=w12.cell? ⟨k,j,none⟩:=fun k j hk=>by rw[hW];exact cell_off5 (Ne.symm hk)
     have hzV12:V12.heap.size=w12.heap.size:=by rw[hW];simp
     rw[←hW];clear hW;replace h11:=h11.off hoff kk (bel 0 _ (Nat.zero_le _) (Below.refl 0 _)).size zo;replace h12:=h12.off hoff kk (bel 0 _ (Nat.zero_le _) (Below.refl 0 _)).size zo;replace hB:=bel w.heap.size w zo (bT hB Bz);replace HX0:=zf far HX0 Bz;replace HX1:=zf far HX1 Bz;replace HX2:=zh x;clear x kk far bel Bz hoff;have Bz:=zr V12;have hz:V12.heap.size=w12.heap.size:=zo;obtain⟨V13,hW,x3,hN⟩:=zAc V12 #[.int .i64 inp,.slice A11 ln c11] 24;have hs3:V13.heap.size=V12.heap.size+1:=by rw[hW];simp
     rw[←hW];clear hW;rw[hz] at x3 hs3;obtain⟨v3,hb3⟩:=ze w12.heap.size;rw[←hb3] at x3 hs3  ⊢;have o0_3:w.heap.size<v3:=zi (zxb HX0 Bz).lt;have o1_3:w.heap.size+1<v3:=zi (zxb HX1 Bz).lt;have o2_3:v2<v3:=zi (zxb HX2 Bz).lt;have ow_3:w.heap.size≤v3:=zi (zw hB Bz);have oe_3_h11:et11≤v3:=zi h11.le;have oe_3_h12:et12≤v3:=zi h12.le;replace h11:=h11.below hN;replace h12:=h12.below hN;replace hB:=bT (bT hB Bz) hN;replace HX0:=zba HX0 Bz hN;replace HX1:=zba HX1 Bz hN;replace HX2:=zba HX2 Bz hN;have HX3:=zh x3;clear x3 hN Bz hb3;have Bz:=zr V13;go_wp2_with fail
     go_meet
     case rel=>exact⟨_,_,_,_,p,rfl,rfl,HX0.out.below (bT Bz),HX1.out.below (bT Bz),HX3.out.below (bT Bz),HX2.out.below (bT Bz),zh (Rob.here (Rob.below h11)),zh (Rob.here (Rob.below h12)),HPL,HPN,bT hB (bT Bz)⟩
    ·go_simp
     refine hK.out _ _ ⟨(zAa (zAa pa0)),(zAa (zAa pa1)),(zAa (zAa pb0)),(zAa (zAa pb1)),(zAa (zAa pb2)),(zAa (zAa pb3)),(zAa (zAa pb4))⟩ (fun _=>?_);try simp only[uW,uX,uY,uZ]
     clear hK K;refine P3.wpPlan_call (o:=⟨some 21,_,_,_,_,_⟩) rfl rfl (fun K hK=>?_);go_simp
     obtain⟨V11,hW,x2,x3,hN⟩:=zAh w11 #[.slice none 0 0,.int .i64 0,.slice none 0 0,.slice none 0 0,.int .u8 0] 28 #[.int .i64 0,.slice none 0 0] 24;rw[←hW];clear hW;obtain⟨v3,hb3⟩:=ze (w11.heap.size+1);rw[←hb3] at x3 ⊢;obtain⟨v2,hb2⟩:=ze w11.heap.size;rw[←hb2] at x2 ⊢;have o0_2:w.heap.size<v2:=zi (zxb HX0 Bz).lt;have o1_2:w.heap.size+1<v2:=zi (zxb HX1 Bz).lt;have ow_2:w.heap.size≤v2:=zi (zw hB Bz);have oe_2_h11:et11≤v2:=zi h11.le;have o0_3:w.heap.size<v3:=zi (zxb HX0 Bz).lt;have o1_3:w.heap.size+1<v3:=zi (zxb HX1 Bz).lt;have o2_3:v2<v3:=zo;have ow_3:w.heap.size≤v3:=zi (zw hB Bz);have oe_3_h11:et11≤v3:=zi h11.le;replace h11:=h11.below hN;replace hB:=bT (bT hB Bz) hN;replace HX0:=zba HX0 Bz hN;replace HX1:=zba HX1 Bz hN;have HX2:=zh x2;have HX3:=zh x3;clear x2 x3 hN Bz hb2 hb3;have Bz:=zr V11;clear pa0 pa1 pb0 pb1 pb2 pb3 pb4;have qs12_0:=(zxb HX0 Bz).lt;have qs12_1:=(zxb HX1 Bz).lt;have qs12_2:=(zxb HX2 Bz).lt;have qs12_3:=(zxb HX3 Bz).lt;with_reducible refine(copyQuery_q (HQD.out.below (bT hB (bT (b:=V11) Bz))) HQN.out).mono ?_
     rintro e w12 ⟨p,rfl,h12,e12,f12,b12⟩;replace b12:=zq (a:=V11) b12;replace h11:=h11.below b12;replace Bz:=bT Bz b12;clear b12;have HPL:=zh e12;have HPN:=zh f12;clear e12 f12;obtain⟨es12,hs12⟩:∃s,s=V11.heap.size:=⟨_,rfl⟩;obtain⟨et12,ht12⟩:∃s,s=w12.heap.size:=⟨_,rfl⟩;replace h12:Rob w12 es12 et12 (fun u=>QyD u p d):=by rw[hs12,ht12];exact h12
     obtain⟨pa0,pa1,-⟩:=(zxb HX0 Bz).cz;obtain⟨pb0,pb1,pb2,pb3,pb4,-⟩:=(zxb HX1 Bz).cz;obtain⟨pc0,pc1,pc2,pc3,pc4,-⟩:=(zxb HX2 Bz).cz;have fc0:=(zxb HX2 Bz).frozen 0;have fc1:=(zxb HX2 Bz).frozen 1;have fc2:=(zxb HX2 Bz).frozen 2;have fc3:=(zxb HX2 Bz).frozen 3;have fc4:=(zxb HX2 Bz).frozen 4;have y2:=(zxb HX2 Bz).lt;obtain⟨pd0,pd1,-⟩:=(zxb HX3 Bz).cz;have fd0:=(zxb HX3 Bz).frozen 0;have fd1:=(zxb HX3 Bz).frozen 1;have y3:=(zxb HX3 Bz).lt;refine hK.out _ _ ⟨pa0,pa1,pb0,pb1,pb2,pb3,pb4⟩ (fun _=>?_);try simp only[uW,uX,uY,uZ]
     clear hK K;refine P3.wpPlan_late (o:=⟨none,_,_,_,_,_⟩) rfl rfl zd (fun K hK=>?_);go_simp
     refine hK.out _ _ ?_;try simp only[Act.put,uX,uY,uZ]
     clear hK K;refine P3.wpPlan_late (o:=⟨none,_,_,_,_,_⟩) rfl rfl zd (fun K hK=>?_);go_simp
     refine hK.out _ _ ?_;try simp only[Act.put,uX,uY,uZ]
     clear hK K;refine P3.wpPlan_done ?_;obtain⟨V12,hW,x,kk,far,bel⟩:=zAp (.int .i64 inp) (.slice A11 ln c11) (zxb HX3 Bz) nofun nofun;have hoff:∀(k j:Nat),k≠v3→V12.cell? ⟨k,j,none⟩=w12.cell? ⟨k,j,none⟩:=fun k j hk=>by rw[hW];exact zAe (Ne.symm hk)
     rw[←hW];clear hW;replace h11:=h11.off hoff kk (bel 0 _ (Nat.zero_le _) (Below.refl 0 _)).size zo;replace h12:=h12.off hoff kk (bel 0 _ (Nat.zero_le _) (Below.refl 0 _)).size zo;replace hB:=bel w.heap.size w zo (bT hB Bz);replace HX0:=zf far HX0 Bz;replace HX1:=zf far HX1 Bz;replace HX2:=zf far HX2 Bz;replace HX3:=zh x;clear x kk far bel Bz hoff;have Bz:=zr V12;obtain⟨V13,hW,x,kk,far,bel⟩:=store5 (.slice p.xA p.xn p.xc) (.int .i64 p.label) (.slice p.oA p.on p.oc) (.slice p.hA p.hn p.hc) (.int .u8 p.norm) (zxb HX2 Bz) nofun nofun nofun nofun nofun;have hoff:∀(k j:Nat),k≠v2→V13.cell? ⟨k,j,none⟩=V12.cell? ⟨k,j,none⟩:=fun k j hk=>by rw[hW];exact cell_off5 (Ne.symm hk)
     rw[←hW];clear hW;replace h11:=h11.off hoff kk (bel 0 _ (Nat.zero_le _) (Below.refl 0 _)).size zo;replace h12:=h12.off hoff kk (bel 0 _ (Nat.zero_le _) (Below.refl 0 _)).size zo;replace hB:=bel w.heap.size w zo (bT hB Bz);replace HX0:=zf far HX0 Bz;replace HX1:=zf far HX1 Bz;replace HX3:=zf far HX3 Bz;replace HX2:=zh x;clear x kk far bel Bz hoff;have Bz:=zr V13;clear pa0 pa1 pb0 pb1 pb2 pb3 pb4 pc0 pc1 pc2 pc3 pc4 fc0 fc1 fc2 fc3 fc4 y2 pd0 pd1 fd0 fd1 y3;go_wp2_with fail
     go_meet
     case rel=>exact⟨_,_,_,_,p,rfl,rfl,HX0.out.below (bT Bz),HX1.out.below (bT Bz),HX3.out.below (bT Bz),HX2.out.below (bT Bz),zh (Rob.here (Rob.below h11)),zh (Rob.here (Rob.below h12)),HPL,HPN,bT hB (bT Bz)⟩
  ·go_simp
   refine hK.out _ _ ⟨(zAa pa0),(zAa pa1),(zAa pb0),(zAa pb1),(zAa pb2),(zAa pb3),(zAa pb4)⟩ (fun _=>?_);try simp only[uW,uX,uY,uZ]
   clear hK K;refine P3.wpPlan_two (o:=⟨some 19,_,_,_,_,_⟩) (o':=⟨some 6,_,_,_,_,_⟩) rfl rfl rfl rfl (fun K hK=>?_) (fun K hK=>?_)
   ·go_simp
    obtain⟨V11,hW,x2,hN⟩:=zAc w2 #[.int .i64 0,.slice none 0 0] 24;rw[←hW];clear hW;obtain⟨v2,hb2⟩:=ze w2.heap.size;rw[←hb2] at x2 ⊢;have o0_2:w.heap.size<v2:=zi (zxb HX0 Bz).lt;have o1_2:w.heap.size+1<v2:=zi (zxb HX1 Bz).lt;have ow_2:w.heap.size≤v2:=zi (zw hB Bz);replace hB:=bT (bT hB Bz) hN;replace HX0:=zba HX0 Bz hN;replace HX1:=zba HX1 Bz hN;have HX2:=zh x2;clear x2 hN Bz hb2;have Bz:=zr V11;clear pa0 pa1 pb0 pb1 pb2 pb3 pb4;have qs11_0:=(zxb HX0 Bz).lt;have qs11_1:=(zxb HX1 Bz).lt;have qs11_2:=(zxb HX2 Bz).lt;with_reducible refine(copyNet_q (HND.out.below (bT hB (bT (b:=V11) Bz))) zo).mono ?_
    rintro e w11 ⟨A11,c11,rfl,h11,b11⟩;replace b11:=zq (a:=V11) b11;replace Bz:=bT Bz b11;clear b11;obtain⟨es11,hs11⟩:∃s,s=V11.heap.size:=⟨_,rfl⟩;obtain⟨et11,ht11⟩:∃s,s=w11.heap.size:=⟨_,rfl⟩;replace h11:Rob w11 es11 et11 (fun u=>NetD u A11 ln c11 E):=by rw[hs11,ht11];exact h11
    obtain⟨pa0,pa1,-⟩:=(zxb HX0 Bz).cz;obtain⟨pb0,pb1,pb2,pb3,pb4,-⟩:=(zxb HX1 Bz).cz;refine hK.out _ _ ⟨pa0,pa1,pb0,pb1,pb2,pb3,pb4⟩ (fun _=>?_);try simp only[uW,uX,uY,uZ]
    clear hK K;refine P3.wpPlan_two (o:=⟨some 21,_,_,_,_,_⟩) (o':=⟨some 6,_,_,_,_,_⟩) rfl rfl rfl rfl (fun K hK=>?_) (fun K hK=>?_)
    ·go_simp
     have qs12_0:=(zxb HX0 Bz).lt;have qs12_1:=(zxb HX1 Bz).lt;have qs12_2:=(zxb HX2 Bz).lt;with_reducible refine(copyQuery_q (HQD.out.below (bT hB (bT (b:=w11) Bz))) HQN.out).mono ?_
     rintro e w12 ⟨p,rfl,h12,e12,f12,b12⟩;replace b12:=zq (a:=w11) b12;replace h11:=h11.below b12;replace Bz:=bT Bz b12;clear b12;have HPL:=zh e12;have HPN:=zh f12;clear e12 f12;obtain⟨es12,hs12⟩:∃s,s=w11.heap.size:=⟨_,rfl⟩;obtain⟨et12,ht12⟩:∃s,s=w12.heap.size:=⟨_,rfl⟩;replace h12:Rob w12 es12 et12 (fun u=>QyD u p d):=by rw[hs12,ht12];exact h12
     clear pa0 pa1 pb0 pb1 pb2 pb3 pb4;obtain⟨pa0,pa1,-⟩:=(zxb HX0 Bz).cz;obtain⟨pb0,pb1,pb2,pb3,pb4,-⟩:=(zxb HX1 Bz).cz;obtain⟨pc0,pc1,-⟩:=(zxb HX2 Bz).cz;have fc0:=(zxb HX2 Bz).frozen 0;have fc1:=(zxb HX2 Bz).frozen 1;have y2:=(zxb HX2 Bz).lt;refine hK.out _ _ ⟨pa0,pa1,pb0,pb1,pb2,pb3,pb4⟩ (fun _=>?_);try simp only[uW,uX,uY,uZ]
     clear hK K;refine P3.wpPlan_call (o:=⟨some 6,_,_,_,_,_⟩) rfl rfl (fun K hK=>?_);go_simp
     refine hK.out _ _ ⟨(zAa pa0),(zAa pa1),(zAa pb0),(zAa pb1),(zAa pb2),(zAa pb3),(zAa pb4)⟩ (fun _=>?_);try simp only[uW,uX,uY,uZ]
     clear hK K;refine P3.wpPlan_late (o:=⟨none,_,_,_,_,_⟩) rfl rfl zd (fun K hK=>?_);go_simp
     refine hK.out _ _ ?_;try simp only[Act.put,uX,uY,uZ]
     clear hK K;refine P3.wpPlan_late (o:=⟨none,_,_,_,_,_⟩) rfl rfl zd (fun K hK=>?_);go_simp
     refine hK.out _ _ ?_;try simp only[Act.put,uX,uY,uZ]
     clear hK K;refine P3.wpPlan_done ?_;clear pa0 pa1 pb0 pb1 pb2 pb3 pb4 pc0 pc1 fc0 fc1 y2;obtain⟨V12,hW,x,kk,far,bel⟩:=zAp (.int .i64 inp) (.slice A11 ln c11) (zxb HX2 Bz) nofun nofun;have hoff:∀(k j:Nat),k≠v2→V12.cell? ⟨k,j,none⟩=w12.cell? ⟨k,j,none⟩:=fun k j hk=>by rw[hW];exact zAe (Ne.symm hk)
     have hzV12:V12.heap.size=w12.heap.size:=by rw[hW];simp
     rw[←hW];clear hW;replace h11:=h11.off hoff kk (bel 0 _ (Nat.zero_le _) (Below.refl 0 _)).size zo;replace h12:=h12.off hoff kk (bel 0 _ (Nat.zero_le _) (Below.refl 0 _)).size zo;replace hB:=bel w.heap.size w zo (bT hB Bz);replace HX0:=zf far HX0 Bz;replace HX1:=zf far HX1 Bz;replace HX2:=zh x;clear x kk far bel Bz hoff;have Bz:=zr V12;have hz:V12.heap.size=w12.heap.size:=zo;obtain⟨V13,hW,x3,hN⟩:=zAc V12 #[.slice p.xA p.xn p.xc,.int .i64 p.label,.slice p.oA p.on p.oc,.slice p.hA p.hn p.hc,.int .u8 p.norm] 28;have hs3:V13.heap.size=V12.heap.size+1:=by rw[hW];simp
     rw[←hW];clear hW;rw[hz] at x3 hs3;obtain⟨v3,hb3⟩:=ze w12.heap.size;rw[←hb3] at x3 hs3  ⊢;have o0_3:w.heap.size<v3:=zi (zxb HX0 Bz).lt;have o1_3:w.heap.size+1<v3:=zi (zxb HX1 Bz).lt;have o2_3:v2<v3:=zi (zxb HX2 Bz).lt;have ow_3:w.heap.size≤v3:=zi (zw hB Bz);have oe_3_h11:et11≤v3:=zi h11.le;have oe_3_h12:et12≤v3:=zi h12.le;replace h11:=h11.below hN;replace h12:=h12.below hN;replace hB:=bT (bT hB Bz) hN;replace HX0:=zba HX0 Bz hN;replace HX1:=zba HX1 Bz hN;replace HX2:=zba HX2 Bz hN;have HX3:=zh x3;clear x3 hN Bz hb3;have Bz:=zr V13;go_wp2_with fail
     go_meet
     case rel=>exact⟨_,_,_,_,p,rfl,rfl,HX0.out.below (bT Bz),HX1.out.below (bT Bz),HX2.out.below (bT Bz),HX3.out.below (bT Bz),zh (Rob.here (Rob.below h11)),zh (Rob.here (Rob.below h12)),HPL,HPN,bT hB (bT Bz)⟩
    ·go_simp
     refine hK.out _ _ ⟨(zAa pa0),(zAa pa1),(zAa pb0),(zAa pb1),(zAa pb2),(zAa pb3),(zAa pb4)⟩ (fun _=>?_);try simp only[uW,uX,uY,uZ]
     clear hK K;refine P3.wpPlan_call (o:=⟨some 21,_,_,_,_,_⟩) rfl rfl (fun K hK=>?_);go_simp
     obtain⟨V12,hW,x3,hN⟩:=zAc w11 #[.slice none 0 0,.int .i64 0,.slice none 0 0,.slice none 0 0,.int .u8 0] 28;rw[←hW];clear hW;obtain⟨v3,hb3⟩:=ze w11.heap.size;rw[←hb3] at x3 ⊢;have o0_3:w.heap.size<v3:=zi (zxb HX0 Bz).lt;have o1_3:w.heap.size+1<v3:=zi (zxb HX1 Bz).lt;have o2_3:v2<v3:=zi (zxb HX2 Bz).lt;have ow_3:w.heap.size≤v3:=zi (zw hB Bz);have oe_3_h11:et11≤v3:=zi h11.le;replace h11:=h11.below hN;replace hB:=bT (bT hB Bz) hN;replace HX0:=zba HX0 Bz hN;replace HX1:=zba HX1 Bz hN;replace HX2:=zba HX2 Bz hN;have HX3:=zh x3;clear x3 hN Bz hb3;have Bz:=zr V12;clear pa0 pa1 pb0 pb1 pb2 pb3 pb4;have qs12_0:=(zxb HX0 Bz).lt;have qs12_1:=(zxb HX1 Bz).lt;have qs12_2:=(zxb HX2 Bz).lt;have qs12_3:=(zxb HX3 Bz).lt;with_reducible refine(copyQuery_q (HQD.out.below (bT hB (bT (b:=V12) Bz))) HQN.out).mono ?_
     rintro e w12 ⟨p,rfl,h12,e12,f12,b12⟩;replace b12:=zq (a:=V12) b12;replace h11:=h11.below b12;replace Bz:=bT Bz b12;clear b12;have HPL:=zh e12;have HPN:=zh f12;clear e12 f12;obtain⟨es12,hs12⟩:∃s,s=V12.heap.size:=⟨_,rfl⟩;obtain⟨et12,ht12⟩:∃s,s=w12.heap.size:=⟨_,rfl⟩;replace h12:Rob w12 es12 et12 (fun u=>QyD u p d):=by rw[hs12,ht12];exact h12
     obtain⟨pa0,pa1,-⟩:=(zxb HX0 Bz).cz;obtain⟨pb0,pb1,pb2,pb3,pb4,-⟩:=(zxb HX1 Bz).cz;obtain⟨pc0,pc1,-⟩:=(zxb HX2 Bz).cz;have fc0:=(zxb HX2 Bz).frozen 0;have fc1:=(zxb HX2 Bz).frozen 1;have y2:=(zxb HX2 Bz).lt;obtain⟨pd0,pd1,pd2,pd3,pd4,-⟩:=(zxb HX3 Bz).cz;have fd0:=(zxb HX3 Bz).frozen 0;have fd1:=(zxb HX3 Bz).frozen 1;have fd2:=(zxb HX3 Bz).frozen 2;have fd3:=(zxb HX3 Bz).frozen 3;have fd4:=(zxb HX3 Bz).frozen 4;have y3:=(zxb HX3 Bz).lt;refine hK.out _ _ ⟨pa0,pa1,pb0,pb1,pb2,pb3,pb4⟩ (fun _=>?_);try simp only[uW,uX,uY,uZ]
     clear hK K;refine P3.wpPlan_late (o:=⟨none,_,_,_,_,_⟩) rfl rfl zd (fun K hK=>?_);go_simp
     refine hK.out _ _ ?_;try simp only[Act.put,uX,uY,uZ]
     clear hK K;refine P3.wpPlan_late (o:=⟨none,_,_,_,_,_⟩) rfl rfl zd (fun K hK=>?_);go_simp
     refine hK.out _ _ ?_;try simp only[Act.put,uX,uY,uZ]
     clear hK K;refine P3.wpPlan_done ?_;obtain⟨V13,hW,x,kk,far,bel⟩:=zAp (.int .i64 inp) (.slice A11 ln c11) (zxb HX2 Bz) nofun nofun;have hoff:∀(k j:Nat),k≠v2→V13.cell? ⟨k,j,none⟩=w12.cell? ⟨k,j,none⟩:=fun k j hk=>by rw[hW];exact zAe (Ne.symm hk)
     rw[←hW];clear hW;replace h11:=h11.off hoff kk (bel 0 _ (Nat.zero_le _) (Below.refl 0 _)).size zo;replace h12:=h12.off hoff kk (bel 0 _ (Nat.zero_le _) (Below.refl 0 _)).size zo;replace hB:=bel w.heap.size w zo (bT hB Bz);replace HX0:=zf far HX0 Bz;replace HX1:=zf far HX1 Bz;replace HX3:=zf far HX3 Bz;replace HX2:=zh x;clear x kk far bel Bz hoff;have Bz:=zr V13;obtain⟨V14,hW,x,kk,far,bel⟩:=store5 (.slice p.xA p.xn p.xc) (.int .i64 p.label) (.slice p.oA p.on p.oc) (.slice p.hA p.hn p.hc) (.int .u8 p.norm) (zxb HX3 Bz) nofun nofun nofun nofun nofun;have hoff:∀(k j:Nat),k≠v3→V14.cell? ⟨k,j,none⟩=V13.cell? ⟨k,j,none⟩:=fun k j hk=>by rw[hW];exact cell_off5 (Ne.symm hk)
     rw[←hW];clear hW;replace h11:=h11.off hoff kk (bel 0 _ (Nat.zero_le _) (Below.refl 0 _)).size zo;replace h12:=h12.off hoff kk (bel 0 _ (Nat.zero_le _) (Below.refl 0 _)).size zo;replace hB:=bel w.heap.size w zo (bT hB Bz);replace HX0:=zf far HX0 Bz;replace HX1:=zf far HX1 Bz;replace HX2:=zf far HX2 Bz;replace HX3:=zh x;clear x kk far bel Bz hoff;have Bz:=zr V14;clear pa0 pa1 pb0 pb1 pb2 pb3 pb4 pc0 pc1 fc0 fc1 y2 pd0 pd1 pd2 pd3 pd4 fd0 fd1 fd2 fd3 fd4 y3;go_wp2_with fail
     go_meet
     case rel=>exact⟨_,_,_,_,p,rfl,rfl,HX0.out.below (bT Bz),HX1.out.below (bT Bz),HX2.out.below (bT Bz),HX3.out.below (bT Bz),zh (Rob.here (Rob.below h11)),zh (Rob.here (Rob.below h12)),HPL,HPN,bT hB (bT Bz)⟩
   ·go_simp
    refine hK.out _ _ ⟨(zAa (zAa pa0)),(zAa (zAa pa1)),(zAa (zAa pb0)),(zAa (zAa pb1)),(zAa (zAa pb2)),(zAa (zAa pb3)),(zAa (zAa pb4))⟩ (fun _=>?_);try simp only[uW,uX,uY,uZ]
    clear hK K;refine P3.wpPlan_call (o:=⟨some 19,_,_,_,_,_⟩) rfl rfl (fun K hK=>?_);go_simp
    obtain⟨V11,hW,x2,x3,hN⟩:=zAh w2 #[.int .i64 0,.slice none 0 0] 24 #[.slice none 0 0,.int .i64 0,.slice none 0 0,.slice none 0 0,.int .u8 0] 28;rw[←hW];clear hW;obtain⟨v3,hb3⟩:=ze (w2.heap.size+1);rw[←hb3] at x3 ⊢;obtain⟨v2,hb2⟩:=ze w2.heap.size;rw[←hb2] at x2 ⊢;have o0_2:w.heap.size<v2:=zi (zxb HX0 Bz).lt;have o1_2:w.heap.size+1<v2:=zi (zxb HX1 Bz).lt;have ow_2:w.heap.size≤v2:=zi (zw hB Bz);have o0_3:w.heap.size<v3:=zi (zxb HX0 Bz).lt;have o1_3:w.heap.size+1<v3:=zi (zxb HX1 Bz).lt;have o2_3:v2<v3:=zo;have ow_3:w.heap.size≤v3:=zi (zw hB Bz);replace hB:=bT (bT hB Bz) hN;replace HX0:=zba HX0 Bz hN;replace HX1:=zba HX1 Bz hN;have HX2:=zh x2;have HX3:=zh x3;clear x2 x3 hN Bz hb2 hb3;have Bz:=zr V11;clear pa0 pa1 pb0 pb1 pb2 pb3 pb4;have qs11_0:=(zxb HX0 Bz).lt;have qs11_1:=(zxb HX1 Bz).lt;have qs11_2:=(zxb HX2 Bz).lt;have qs11_3:=(zxb HX3 Bz).lt;with_reducible refine(copyNet_q (HND.out.below (bT hB (bT (b:=V11) Bz))) zo).mono ?_
    rintro e w11 ⟨A11,c11,rfl,h11,b11⟩;replace b11:=zq (a:=V11) b11;replace Bz:=bT Bz b11;clear b11;obtain⟨es11,hs11⟩:∃s,s=V11.heap.size:=⟨_,rfl⟩;obtain⟨et11,ht11⟩:∃s,s=w11.heap.size:=⟨_,rfl⟩;replace h11:Rob w11 es11 et11 (fun u=>NetD u A11 ln c11 E):=by rw[hs11,ht11];exact h11
    obtain⟨pa0,pa1,-⟩:=(zxb HX0 Bz).cz;obtain⟨pb0,pb1,pb2,pb3,pb4,-⟩:=(zxb HX1 Bz).cz;refine hK.out _ _ ⟨pa0,pa1,pb0,pb1,pb2,pb3,pb4⟩ (fun _=>?_);try simp only[uW,uX,uY,uZ]
    clear hK K;refine P3.wpPlan_call (o:=⟨some 21,_,_,_,_,_⟩) rfl rfl (fun K hK=>?_);go_simp
    have qs12_0:=(zxb HX0 Bz).lt;have qs12_1:=(zxb HX1 Bz).lt;have qs12_2:=(zxb HX2 Bz).lt;have qs12_3:=(zxb HX3 Bz).lt;with_reducible refine(copyQuery_q (HQD.out.below (bT hB (bT (b:=w11) Bz))) HQN.out).mono ?_
    rintro e w12 ⟨p,rfl,h12,e12,f12,b12⟩;replace b12:=zq (a:=w11) b12;replace h11:=h11.below b12;replace Bz:=bT Bz b12;clear b12;have HPL:=zh e12;have HPN:=zh f12;clear e12 f12;obtain⟨es12,hs12⟩:∃s,s=w11.heap.size:=⟨_,rfl⟩;obtain⟨et12,ht12⟩:∃s,s=w12.heap.size:=⟨_,rfl⟩;replace h12:Rob w12 es12 et12 (fun u=>QyD u p d):=by rw[hs12,ht12];exact h12
    clear pa0 pa1 pb0 pb1 pb2 pb3 pb4;obtain⟨pa0,pa1,-⟩:=(zxb HX0 Bz).cz;obtain⟨pb0,pb1,pb2,pb3,pb4,-⟩:=(zxb HX1 Bz).cz;obtain⟨pc0,pc1,-⟩:=(zxb HX2 Bz).cz;have fc0:=(zxb HX2 Bz).frozen 0;have fc1:=(zxb HX2 Bz).frozen 1;have y2:=(zxb HX2 Bz).lt;obtain⟨pd0,pd1,pd2,pd3,pd4,-⟩:=(zxb HX3 Bz).cz;have fd0:=(zxb HX3 Bz).frozen 0;have fd1:=(zxb HX3 Bz).frozen 1;have fd2:=(zxb HX3 Bz).frozen 2;have fd3:=(zxb HX3 Bz).frozen 3;have fd4:=(zxb HX3 Bz).frozen 4;have y3:=(zxb HX3 Bz).lt;refine hK.out _ _ ⟨pa0,pa1,pb0,pb1,pb2,pb3,pb4⟩ (fun _=>?_);try simp only[uW,uX,uY,uZ]
    clear hK K;refine P3.wpPlan_late (o:=⟨none,_,_,_,_,_⟩) rfl rfl zd (fun K hK=>?_);go_simp
    refine hK.out _ _ ?_;try simp only[Act.put,uX,uY,uZ]
    clear hK K;refine P3.wpPlan_late (o:=⟨none,_,_,_,_,_⟩) rfl rfl zd (fun K hK=>?_);go_simp
    refine hK.out _ _ ?_;try simp only[Act.put,uX,uY,uZ]
    clear hK K;refine P3.wpPlan_done ?_;obtain⟨V12,hW,x,kk,far,bel⟩:=zAp (.int .i64 inp) (.slice A11 ln c11) (zxb HX2 Bz) nofun nofun;have hoff:∀(k j:Nat),k≠v2→V12.cell? ⟨k,j,none⟩=w12.cell? ⟨k,j,none⟩:=fun k j hk=>by rw[hW];exact zAe (Ne.symm hk)
    rw[←hW];clear hW;replace h11:=h11.off hoff kk (bel 0 _ (Nat.zero_le _) (Below.refl 0 _)).size zo;replace h12:=h12.off hoff kk (bel 0 _ (Nat.zero_le _) (Below.refl 0 _)).size zo;replace hB:=bel w.heap.size w zo (bT hB Bz);replace HX0:=zf far HX0 Bz;replace HX1:=zf far HX1 Bz;replace HX3:=zf far HX3 Bz;replace HX2:=zh x;clear x kk far bel Bz hoff;have Bz:=zr V12;obtain⟨V13,hW,x,kk,far,bel⟩:=store5 (.slice p.xA p.xn p.xc) (.int .i64 p.label) (.slice p.oA p.on p.oc) (.slice p.hA p.hn p.hc) (.int .u8 p.norm) (zxb HX3 Bz) nofun nofun nofun nofun nofun;have hoff:∀(k j:Nat),k≠v3→V13.cell? ⟨k,j,none⟩=V12.cell? ⟨k,j,none⟩:=fun k j hk=>by rw[hW];exact cell_off5 (Ne.symm hk)
    rw[←hW];clear hW;replace h11:=h11.off hoff kk (bel 0 _ (Nat.zero_le _) (Below.refl 0 _)).size zo;replace h12:=h12.off hoff kk (bel 0 _ (Nat.zero_le _) (Below.refl 0 _)).size zo;replace hB:=bel w.heap.size w zo (bT hB Bz);replace HX0:=zf far HX0 Bz;replace HX1:=zf far HX1 Bz;replace HX2:=zf far HX2 Bz;replace HX3:=zh x;clear x kk far bel Bz hoff;have Bz:=zr V13;clear pa0 pa1 pb0 pb1 pb2 pb3 pb4 pc0 pc1 fc0 fc1 y2 pd0 pd1 pd2 pd3 pd4 fd0 fd1 fd2 fd3 fd4 y3;go_wp2_with fail
    go_meet
    case rel=>exact⟨_,_,_,_,p,rfl,rfl,HX0.out.below (bT Bz),HX1.out.below (bT Bz),HX2.out.below (bT Bz),HX3.out.below (bT Bz),zh (Rob.here (Rob.below h11)),zh (Rob.here (Rob.below h12)),HPL,HPN,bT hB (bT Bz)⟩
  ·go_simp
   refine hK.out _ _ ⟨(zAa pa0),(zAa pa1),(zAa pb0),(zAa pb1),(zAa pb2),(zAa pb3),(zAa pb4)⟩ (fun _=>?_);try simp only[uW,uX,uY,uZ]
   clear hK K;refine P3.wpPlan_two (o:=⟨some 19,_,_,_,_,_⟩) (o':=⟨some 5,_,_,_,_,_⟩) rfl rfl rfl rfl (fun K hK=>?_) (fun K hK=>?_)
   ·go_simp
    obtain⟨V11,hW,x2,hN⟩:=zAc w2 #[.slice none 0 0,.int .i64 0,.slice none 0 0,.slice none 0 0,.int .u8 0] 28;rw[←hW];clear hW;obtain⟨v2,hb2⟩:=ze w2.heap.size;rw[←hb2] at x2 ⊢;have o0_2:w.heap.size<v2:=zi (zxb HX0 Bz).lt;have o1_2:w.heap.size+1<v2:=zi (zxb HX1 Bz).lt;have ow_2:w.heap.size≤v2:=zi (zw hB Bz);replace hB:=bT (bT hB Bz) hN;replace HX0:=zba HX0 Bz hN;replace HX1:=zba HX1 Bz hN;have HX2:=zh x2;clear x2 hN Bz hb2;have Bz:=zr V11;clear pa0 pa1 pb0 pb1 pb2 pb3 pb4;have qs11_0:=(zxb HX0 Bz).lt;have qs11_1:=(zxb HX1 Bz).lt;have qs11_2:=(zxb HX2 Bz).lt;with_reducible refine(copyNet_q (HND.out.below (bT hB (bT (b:=V11) Bz))) zo).mono ?_
    rintro e w11 ⟨A11,c11,rfl,h11,b11⟩;replace b11:=zq (a:=V11) b11;replace Bz:=bT Bz b11;clear b11;obtain⟨es11,hs11⟩:∃s,s=V11.heap.size:=⟨_,rfl⟩;obtain⟨et11,ht11⟩:∃s,s=w11.heap.size:=⟨_,rfl⟩;replace h11:Rob w11 es11 et11 (fun u=>NetD u A11 ln c11 E):=by rw[hs11,ht11];exact h11
    obtain⟨pa0,pa1,-⟩:=(zxb HX0 Bz).cz;obtain⟨pb0,pb1,pb2,pb3,pb4,-⟩:=(zxb HX1 Bz).cz;refine hK.out _ _ ⟨pa0,pa1,pb0,pb1,pb2,pb3,pb4⟩ (fun _=>?_);try simp only[uW,uX,uY,uZ]
    clear hK K;refine P3.wpPlan_two (o:=⟨some 21,_,_,_,_,_⟩) (o':=⟨some 5,_,_,_,_,_⟩) rfl rfl rfl rfl (fun K hK=>?_) (fun K hK=>?_)
    ·go_simp
     have qs12_0:=(zxb HX0 Bz).lt;have qs12_1:=(zxb HX1 Bz).lt;have qs12_2:=(zxb HX2 Bz).lt;with_reducible refine(copyQuery_q (HQD.out.below (bT hB (bT (b:=w11) Bz))) HQN.out).mono ?_
     rintro e w12 ⟨p,rfl,h12,e12,f12,b12⟩;replace b12:=zq (a:=w11) b12;replace h11:=h11.below b12;replace Bz:=bT Bz b12;clear b12;have HPL:=zh e12;have HPN:=zh f12;clear e12 f12;obtain⟨es12,hs12⟩:∃s,s=w11.heap.size:=⟨_,rfl⟩;obtain⟨et12,ht12⟩:∃s,s=w12.heap.size:=⟨_,rfl⟩;replace h12:Rob w12 es12 et12 (fun u=>QyD u p d):=by rw[hs12,ht12];exact h12
     clear pa0 pa1 pb0 pb1 pb2 pb3 pb4;obtain⟨pa0,pa1,-⟩:=(zxb HX0 Bz).cz;obtain⟨pb0,pb1,pb2,pb3,pb4,-⟩:=(zxb HX1 Bz).cz;obtain⟨pc0,pc1,pc2,pc3,pc4,-⟩:=(zxb HX2 Bz).cz;have fc0:=(zxb HX2 Bz).frozen 0;have fc1:=(zxb HX2 Bz).frozen 1;have fc2:=(zxb HX2 Bz).frozen 2;have fc3:=(zxb HX2 Bz).frozen 3;have fc4:=(zxb HX2 Bz).frozen 4;have y2:=(zxb HX2 Bz).lt;refine hK.out _ _ ⟨pa0,pa1,pb0,pb1,pb2,pb3,pb4⟩ (fun _=>?_);try simp only[uW,uX,uY,uZ]
     clear hK K;refine P3.wpPlan_call (o:=⟨some 5,_,_,_,_,_⟩) rfl rfl (fun K hK=>?_);go_simp
     refine hK.out _ _ ⟨(zAa pa0),(zAa pa1),(zAa pb0),(zAa pb1),(zAa pb2),(zAa pb3),(zAa pb4)⟩ (fun _=>?_);try simp only[uW,uX,uY,uZ]
     clear hK K;refine P3.wpPlan_late (o:=⟨none,_,_,_,_,_⟩) rfl rfl zd (fun K hK=>?_);go_simp
     refine hK.out _ _ ?_;try simp only[Act.put,uX,uY,uZ]
     clear hK K;refine P3.wpPlan_late (o:=⟨none,_,_,_,_,_⟩) rfl rfl zd (fun K hK=>?_);go_simp
     refine hK.out _ _ ?_;try simp only[Act.put,uX,uY,uZ]
     clear hK K;refine P3.wpPlan_done ?_;clear pa0 pa1 pb0 pb1 pb2 pb3 pb4 pc0 pc1 pc2 pc3 pc4 fc0 fc1 fc2 fc3 fc4 y2;obtain⟨V12,hW,x,kk,far,bel⟩:=store5 (.slice p.xA p.xn p.xc) (.int .i64 p.label) (.slice p.oA p.on p.oc) (.slice p.hA p.hn p.hc) (.int .u8 p.norm) (zxb HX2 Bz) nofun nofun nofun nofun nofun;have hoff:∀(k j:Nat),k≠v2→V12.cell? ⟨k,j,none⟩=w12.cell? ⟨k,j,none⟩:=fun k j hk=>by rw[hW];exact cell_off5 (Ne.symm hk)
     have hzV12:V12.heap.size=w12.heap.size:=by rw[hW];simp
     rw[←hW];clear hW;replace h11:=h11.off hoff kk (bel 0 _ (Nat.zero_le _) (Below.refl 0 _)).size zo;replace h12:=h12.off hoff kk (bel 0 _ (Nat.zero_le _) (Below.refl 0 _)).size zo;replace hB:=bel w.heap.size w zo (bT hB Bz);replace HX0:=zf far HX0 Bz;replace HX1:=zf far HX1 Bz;replace HX2:=zh x;clear x kk far bel Bz hoff;have Bz:=zr V12;have hz:V12.heap.size=w12.heap.size:=zo;obtain⟨V13,hW,x3,hN⟩:=zAc V12 #[.int .i64 inp,.slice A11 ln c11] 24;have hs3:V13.heap.size=V12.heap.size+1:=by rw[hW];simp
     rw[←hW];clear hW;rw[hz] at x3 hs3;obtain⟨v3,hb3⟩:=ze w12.heap.size;rw[←hb3] at x3 hs3  ⊢;have o0_3:w.heap.size<v3:=zi (zxb HX0 Bz).lt;have o1_3:w.heap.size+1<v3:=zi (zxb HX1 Bz).lt;have o2_3:v2<v3:=zi (zxb HX2 Bz).lt;have ow_3:w.heap.size≤v3:=zi (zw hB Bz);have oe_3_h11:et11≤v3:=zi h11.le;have oe_3_h12:et12≤v3:=zi h12.le;replace h11:=h11.below hN;replace h12:=h12.below hN;replace hB:=bT (bT hB Bz) hN;replace HX0:=zba HX0 Bz hN;replace HX1:=zba HX1 Bz hN;replace HX2:=zba HX2 Bz hN;have HX3:=zh x3;clear x3 hN Bz hb3;have Bz:=zr V13;go_wp2_with fail
     go_meet
     case rel=>exact⟨_,_,_,_,p,rfl,rfl,HX0.out.below (bT Bz),HX1.out.below (bT Bz),HX3.out.below (bT Bz),HX2.out.below (bT Bz),zh (Rob.here (Rob.below h11)),zh (Rob.here (Rob.below h12)),HPL,HPN,bT hB (bT Bz)⟩
    ·go_simp
     refine hK.out _ _ ⟨(zAa pa0),(zAa pa1),(zAa pb0),(zAa pb1),(zAa pb2),(zAa pb3),(zAa pb4)⟩ (fun _=>?_);try simp only[uW,uX,uY,uZ]
     clear hK K;refine P3.wpPlan_call (o:=⟨some 21,_,_,_,_,_⟩) rfl rfl (fun K hK=>?_);go_simp
     obtain⟨V12,hW,x3,hN⟩:=zAc w11 #[.int .i64 0,.slice none 0 0] 24;rw[←hW];clear hW;obtain⟨v3,hb3⟩:=ze w11.heap.size;rw[←hb3] at x3 ⊢;have o0_3:w.heap.size<v3:=zi (zxb HX0 Bz).lt;have o1_3:w.heap.size+1<v3:=zi (zxb HX1 Bz).lt;have o2_3:v2<v3:=zi (zxb HX2 Bz).lt;have ow_3:w.heap.size≤v3:=zi (zw hB Bz);have oe_3_h11:et11≤v3:=zi h11.le;replace h11:=h11.below hN;replace hB:=bT (bT hB Bz) hN;replace HX0:=zba HX0 Bz hN;replace HX1:=zba HX1 Bz hN;replace HX2:=zba HX2 Bz hN;have HX3:=zh x3;clear x3 hN Bz hb3;have Bz:=zr V12;clear pa0 pa1 pb0 pb1 pb2 pb3 pb4;have qs12_0:=(zxb HX0 Bz).lt;have qs12_1:=(zxb HX1 Bz).lt;have qs12_2:=(zxb HX2 Bz).lt;have qs12_3:=(zxb HX3 Bz).lt;with_reducible refine(copyQuery_q (HQD.out.below (bT hB (bT (b:=V12) Bz))) HQN.out).mono ?_
     rintro e w12 ⟨p,rfl,h12,e12,f12,b12⟩;replace b12:=zq (a:=V12) b12;replace h11:=h11.below b12;replace Bz:=bT Bz b12;clear b12;have HPL:=zh e12;have HPN:=zh f12;clear e12 f12;obtain⟨es12,hs12⟩:∃s,s=V12.heap.size:=⟨_,rfl⟩;obtain⟨et12,ht12⟩:∃s,s=w12.heap.size:=⟨_,rfl⟩;replace h12:Rob w12 es12 et12 (fun u=>QyD u p d):=by rw[hs12,ht12];exact h12
     obtain⟨pa0,pa1,-⟩:=(zxb HX0 Bz).cz;obtain⟨pb0,pb1,pb2,pb3,pb4,-⟩:=(zxb HX1 Bz).cz;obtain⟨pc0,pc1,pc2,pc3,pc4,-⟩:=(zxb HX2 Bz).cz;have fc0:=(zxb HX2 Bz).frozen 0;have fc1:=(zxb HX2 Bz).frozen 1;have fc2:=(zxb HX2 Bz).frozen 2;have fc3:=(zxb HX2 Bz).frozen 3;have fc4:=(zxb HX2 Bz).frozen 4;have y2:=(zxb HX2 Bz).lt;obtain⟨pd0,pd1,-⟩:=(zxb HX3 Bz).cz;have fd0:=(zxb HX3 Bz).frozen 0;have fd1:=(zxb HX3 Bz).frozen 1;have y3:=(zxb HX3 Bz).lt;refine hK.out _ _ ⟨pa0,pa1,pb0,pb1,pb2,pb3,pb4⟩ (fun _=>?_);try simp only[uW,uX,uY,uZ]
     clear hK K;refine P3.wpPlan_late (o:=⟨none,_,_,_,_,_⟩) rfl rfl zd (fun K hK=>?_);go_simp
     refine hK.out _ _ ?_;try simp only[Act.put,uX,uY,uZ]
     clear hK K;refine P3.wpPlan_late (o:=⟨none,_,_,_,_,_⟩) rfl rfl zd (fun K hK=>?_);go_simp
     refine hK.out _ _ ?_;try simp only[Act.put,uX,uY,uZ]
     clear hK K;refine P3.wpPlan_done ?_;obtain⟨V13,hW,x,kk,far,bel⟩:=zAp (.int .i64 inp) (.slice A11 ln c11) (zxb HX3 Bz) nofun nofun;have hoff:∀(k j:Nat),k≠v3→V13.cell? ⟨k,j,none⟩=w12.cell? ⟨k,j,none⟩:=fun k j hk=>by rw[hW];exact zAe (Ne.symm hk)
     rw[←hW];clear hW;replace h11:=h11.off hoff kk (bel 0 _ (Nat.zero_le _) (Below.refl 0 _)).size zo;replace h12:=h12.off hoff kk (bel 0 _ (Nat.zero_le _) (Below.refl 0 _)).size zo;replace hB:=bel w.heap.size w zo (bT hB Bz);replace HX0:=zf far HX0 Bz;replace HX1:=zf far HX1 Bz;replace HX2:=zf far HX2 Bz;replace HX3:=zh x;clear x kk far bel Bz hoff;have Bz:=zr V13;obtain⟨V14,hW,x,kk,far,bel⟩:=store5 (.slice p.xA p.xn p.xc) (.int .i64 p.label) (.slice p.oA p.on p.oc) (.slice p.hA p.hn p.hc) (.int .u8 p.norm) (zxb HX2 Bz) nofun nofun nofun nofun nofun;have hoff:∀(k j:Nat),k≠v2→V14.cell? ⟨k,j,none⟩=V13.cell? ⟨k,j,none⟩:=fun k j hk=>by rw[hW];exact cell_off5 (Ne.symm hk)
     rw[←hW];clear hW;replace h11:=h11.off hoff kk (bel 0 _ (Nat.zero_le _) (Below.refl 0 _)).size zo;replace h12:=h12.off hoff kk (bel 0 _ (Nat.zero_le _) (Below.refl 0 _)).size zo;replace hB:=bel w.heap.size w zo (bT hB Bz);replace HX0:=zf far HX0 Bz;replace HX1:=zf far HX1 Bz;replace HX3:=zf far HX3 Bz;replace HX2:=zh x;clear x kk far bel Bz hoff;have Bz:=zr V14;clear pa0 pa1 pb0 pb1 pb2 pb3 pb4 pc0 pc1 pc2 pc3 pc4 fc0 fc1 fc2 fc3 fc4 y2 pd0 pd1 fd0 fd1 y3;go_wp2_with fail
     go_meet
     case rel=>exact⟨_,_,_,_,p,rfl,rfl,HX0.out.below (bT Bz),HX1.out.below (bT Bz),HX3.out.below (bT Bz),HX2.out.below (bT Bz),zh (Rob.here (Rob.below h11)),zh (Rob.here (Rob.below h12)),HPL,HPN,bT hB (bT Bz)⟩
   ·go_simp
    refine hK.out _ _ ⟨(zAa (zAa pa0)),(zAa (zAa pa1)),(zAa (zAa pb0)),(zAa (zAa pb1)),(zAa (zAa pb2)),(zAa (zAa pb3)),(zAa (zAa pb4))⟩ (fun _=>?_);try simp only[uW,uX,uY,uZ]
    clear hK K;refine P3.wpPlan_call (o:=⟨some 19,_,_,_,_,_⟩) rfl rfl (fun K hK=>?_);go_simp
    obtain⟨V11,hW,x2,x3,hN⟩:=zAh w2 #[.slice none 0 0,.int .i64 0,.slice none 0 0,.slice none 0 0,.int .u8 0] 28 #[.int .i64 0,.slice none 0 0] 24;rw[←hW];clear hW;obtain⟨v3,hb3⟩:=ze (w2.heap.size+1);rw[←hb3] at x3 ⊢;obtain⟨v2,hb2⟩:=ze w2.heap.size;rw[←hb2] at x2 ⊢;have o0_2:w.heap.size<v2:=zi (zxb HX0 Bz).lt;have o1_2:w.heap.size+1<v2:=zi (zxb HX1 Bz).lt;have ow_2:w.heap.size≤v2:=zi (zw hB Bz);have o0_3:w.heap.size<v3:=zi (zxb HX0 Bz).lt;have o1_3:w.heap.size+1<v3:=zi (zxb HX1 Bz).lt;have o2_3:v2<v3:=zo;have ow_3:w.heap.size≤v3:=zi (zw hB Bz);replace hB:=bT (bT hB Bz) hN;replace HX0:=zba HX0 Bz hN;replace HX1:=zba HX1 Bz hN;have HX2:=zh x2;have HX3:=zh x3;clear x2 x3 hN Bz hb2 hb3;have Bz:=zr V11;clear pa0 pa1 pb0 pb1 pb2 pb3 pb4;have qs11_0:=(zxb HX0 Bz).lt;have qs11_1:=(zxb HX1 Bz).lt;have qs11_2:=(zxb HX2 Bz).lt;have qs11_3:=(zxb HX3 Bz).lt;with_reducible refine(copyNet_q (HND.out.below (bT hB (bT (b:=V11) Bz))) zo).mono ?_
    rintro e w11 ⟨A11,c11,rfl,h11,b11⟩;replace b11:=zq (a:=V11) b11;replace Bz:=bT Bz b11;clear b11;obtain⟨es11,hs11⟩:∃s,s=V11.heap.size:=⟨_,rfl⟩;obtain⟨et11,ht11⟩:∃s,s=w11.heap.size:=⟨_,rfl⟩;replace h11:Rob w11 es11 et11 (fun u=>NetD u A11 ln c11 E):=by rw[hs11,ht11];exact h11
    obtain⟨pa0,pa1,-⟩:=(zxb HX0 Bz).cz;obtain⟨pb0,pb1,pb2,pb3,pb4,-⟩:=(zxb HX1 Bz).cz;refine hK.out _ _ ⟨pa0,pa1,pb0,pb1,pb2,pb3,pb4⟩ (fun _=>?_);try simp only[uW,uX,uY,uZ]
    clear hK K;refine P3.wpPlan_call (o:=⟨some 21,_,_,_,_,_⟩) rfl rfl (fun K hK=>?_);go_simp
    have qs12_0:=(zxb HX0 Bz).lt;have qs12_1:=(zxb HX1 Bz).lt;have qs12_2:=(zxb HX2 Bz).lt;have qs12_3:=(zxb HX3 Bz).lt;with_reducible refine(copyQuery_q (HQD.out.below (bT hB (bT (b:=w11) Bz))) HQN.out).mono ?_
    rintro e w12 ⟨p,rfl,h12,e12,f12,b12⟩;replace b12:=zq (a:=w11) b12;replace h11:=h11.below b12;replace Bz:=bT Bz b12;clear b12;have HPL:=zh e12;have HPN:=zh f12;clear e12 f12;obtain⟨es12,hs12⟩:∃s,s=w11.heap.size:=⟨_,rfl⟩;obtain⟨et12,ht12⟩:∃s,s=w12.heap.size:=⟨_,rfl⟩;replace h12:Rob w12 es12 et12 (fun u=>QyD u p d):=by rw[hs12,ht12];exact h12
    clear pa0 pa1 pb0 pb1 pb2 pb3 pb4;obtain⟨pa0,pa1,-⟩:=(zxb HX0 Bz).cz;obtain⟨pb0,pb1,pb2,pb3,pb4,-⟩:=(zxb HX1 Bz).cz;obtain⟨pc0,pc1,pc2,pc3,pc4,-⟩:=(zxb HX2 Bz).cz;have fc0:=(zxb HX2 Bz).frozen 0;have fc1:=(zxb HX2 Bz).frozen 1;have fc2:=(zxb HX2 Bz).frozen 2;have fc3:=(zxb HX2 Bz).frozen 3;have fc4:=(zxb HX2 Bz).frozen 4;have y2:=(zxb HX2 Bz).lt;obtain⟨pd0,pd1,-⟩:=(zxb HX3 Bz).cz;have fd0:=(zxb HX3 Bz).frozen 0;have fd1:=(zxb HX3 Bz).frozen 1;have y3:=(zxb HX3 Bz).lt;refine hK.out _ _ ⟨pa0,pa1,pb0,pb1,pb2,pb3,pb4⟩ (fun _=>?_);try simp only[uW,uX,uY,uZ]
    clear hK K;refine P3.wpPlan_late (o:=⟨none,_,_,_,_,_⟩) rfl rfl zd (fun K hK=>?_);go_simp
    refine hK.out _ _ ?_;try simp only[Act.put,uX,uY,uZ]
    clear hK K;refine P3.wpPlan_late (o:=⟨none,_,_,_,_,_⟩) rfl rfl zd (fun K hK=>?_);go_simp
    refine hK.out _ _ ?_;try simp only[Act.put,uX,uY,uZ]
    clear hK K;refine P3.wpPlan_done ?_;obtain⟨V12,hW,x,kk,far,bel⟩:=zAp (.int .i64 inp) (.slice A11 ln c11) (zxb HX3 Bz) nofun nofun;have hoff:∀(k j:Nat),k≠v3→V12.cell? ⟨k,j,none⟩=w12.cell? ⟨k,j,none⟩:=fun k j hk=>by rw[hW];exact zAe (Ne.symm hk)
    rw[←hW];clear hW;replace h11:=h11.off hoff kk (bel 0 _ (Nat.zero_le _) (Below.refl 0 _)).size zo;replace h12:=h12.off hoff kk (bel 0 _ (Nat.zero_le _) (Below.refl 0 _)).size zo;replace hB:=bel w.heap.size w zo (bT hB Bz);replace HX0:=zf far HX0 Bz;replace HX1:=zf far HX1 Bz;replace HX2:=zf far HX2 Bz;replace HX3:=zh x;clear x kk far bel Bz hoff;have Bz:=zr V12;obtain⟨V13,hW,x,kk,far,bel⟩:=store5 (.slice p.xA p.xn p.xc) (.int .i64 p.label) (.slice p.oA p.on p.oc) (.slice p.hA p.hn p.hc) (.int .u8 p.norm) (zxb HX2 Bz) nofun nofun nofun nofun nofun;have hoff:∀(k j:Nat),k≠v2→V13.cell? ⟨k,j,none⟩=V12.cell? ⟨k,j,none⟩:=fun k j hk=>by rw[hW];exact cell_off5 (Ne.symm hk)
    rw[←hW];clear hW;replace h11:=h11.off hoff kk (bel 0 _ (Nat.zero_le _) (Below.refl 0 _)).size zo;replace h12:=h12.off hoff kk (bel 0 _ (Nat.zero_le _) (Below.refl 0 _)).size zo;replace hB:=bel w.heap.size w zo (bT hB Bz);replace HX0:=zf far HX0 Bz;replace HX1:=zf far HX1 Bz;replace HX3:=zf far HX3 Bz;replace HX2:=zh x;clear x kk far bel Bz hoff;have Bz:=zr V13;clear pa0 pa1 pb0 pb1 pb2 pb3 pb4 pc0 pc1 pc2 pc3 pc4 fc0 fc1 fc2 fc3 fc4 y2 pd0 pd1 fd0 fd1 y3;go_wp2_with fail
    go_meet
    case rel=>exact⟨_,_,_,_,p,rfl,rfl,HX0.out.below (bT Bz),HX1.out.below (bT Bz),HX3.out.below (bT Bz),HX2.out.below (bT Bz),zh (Rob.here (Rob.below h11)),zh (Rob.here (Rob.below h12)),HPL,HPN,bT hB (bT Bz)⟩
 case rest =>
  obtain⟨b5,b6,A,c,p,rfl,rfl,x0,x1,x5,x6,hnd,hqd,HPL,HPN,hB0⟩:=hcut;obtain⟨wx,rfl,hB1⟩:∃wx,wx=_∧Below w.heap.size w wx:=⟨_,rfl,hB0⟩;replace HX0:=zh x0;replace HX1:=zh x1;have HX2:=zh x5;have HX3:=zh x6;replace hnd:=hnd.out;replace hqd:=hqd.out;clear hB hB0 x0 x1 x5 x6;have hB:=hB1;clear hB1;have Bz:=zr wx;obtain⟨pa0,pa1,-⟩:=(zxb HX0 Bz).cz;go_wp2_with fail
  with_reducible refine(checkR_is (h.below (bT hB (bT (b:=wx) Bz))) (hok.out.below (bT hB (bT (b:=wx) Bz))) (hgv.out.below (bT hB (bT (b:=wx) Bz))) (m:=3) zo hln (zt hT hB Bz) l z HL HZ).mono ?_
  rintro e w11 ⟨A11,n11,c11,rfl,h11,b11⟩;replace b11:=zq (a:=wx) b11;replace hnd:=hnd.below b11;replace hqd:=hqd.below b11;replace Bz:=bT Bz b11;clear b11;clear pa0 pa1;obtain⟨pa0,pa1,-⟩:=(zxb HX0 Bz).cz;obtain⟨pb0,pb1,pb2,pb3,pb4,-⟩:=(zxb HX1 Bz).cz;obtain⟨pc0,pc1,-⟩:=(zxb HX2 Bz).cz;obtain⟨pd0,pd1,pd2,pd3,pd4,-⟩:=(zxb HX3 Bz).cz;go_wp2_with fail
  (try simp only[vAa,vB,vC])
  refine zl (zz [0,2] (.only 1 (zz [3,4,5,7] (.only 6 (.only 8 (zz [9,10,11,12,14,15] (.only 13 (.only 16 (zz [17,18,19,20,21] (.only 22 (zz [23,24,25,26] (.only 27 (zz [28,29] (.only 30 (zz [31,32] .done))))))))))))))) [] (zsa pa0 (zsa pa1 (zsa pb0 (zsa pb1 (zsa pb2 (zsa pb3 (zsa pb4 (zsa pc0 (zsa pc1 (zsa pd0 (zsa pd1 (zsa pd2 (zsa pd3 (zI pd4)))))))))))))) ?_;iterate 2 (refine zU ?_;try simp only[uW,uX,uY,uZ])
  refine zC 28 rfl rfl (fun K hK=>?_);go_simp
  with_reducible refine(check_is (h.below (bT hB (bT (b:=w11) Bz))) (hok.out.below (bT hB (bT (b:=w11) Bz))) (m:=3) zo hln (zt hT hB Bz) z HZ).mono ?_
  rintro e w12 ⟨rfl,b12⟩;replace b12:=zq (a:=w11) b12;replace hnd:=hnd.below b12;replace hqd:=hqd.below b12;replace h11:=h11.below b12;replace Bz:=bT Bz b12;clear b12;clear pa0 pa1 pb0 pb1 pb2 pb3 pb4 pc0 pc1 pd0 pd1 pd2 pd3 pd4;obtain⟨pa0,pa1,-⟩:=(zxb HX0 Bz).cz;obtain⟨pb0,pb1,pb2,pb3,pb4,-⟩:=(zxb HX1 Bz).cz;obtain⟨pc0,pc1,-⟩:=(zxb HX2 Bz).cz;obtain⟨pd0,pd1,pd2,pd3,pd4,-⟩:=(zxb HX3 Bz).cz;refine hK.out _ _ ⟨pa0,pa1,pb0,pb1,pb2,pb3,pb4,pc0,pc1,pd0,pd1,pd2,pd3,pd4⟩ (fun _=>?_);try simp only[uW,uX,uY,uZ]
  clear hK K;iterate 4 (refine zU ?_;try simp only[uW,uX,uY,uZ])
  refine zC 33 rfl rfl (fun K hK=>?_);go_simp
  with_reducible refine(sizes_is (h.below (bT hB (bT (b:=w12) Bz))) (hok.out.below (bT hB (bT (b:=w12) Bz))) (m:=3) zo hln (zt hT hB Bz) l HL).mono ?_
  rintro e w13 ⟨A13,n13,c13,rfl,h13,_,b13⟩;replace b13:=zq (a:=w12) b13;replace hnd:=hnd.below b13;replace hqd:=hqd.below b13;replace h11:=h11.below b13;replace Bz:=bT Bz b13;clear b13;clear pa0 pa1 pb0 pb1 pb2 pb3 pb4 pc0 pc1 pd0 pd1 pd2 pd3 pd4;obtain⟨pa0,pa1,-⟩:=(zxb HX0 Bz).cz;obtain⟨pb0,pb1,pb2,pb3,pb4,-⟩:=(zxb HX1 Bz).cz;obtain⟨pc0,pc1,-⟩:=(zxb HX2 Bz).cz;obtain⟨pd0,pd1,pd2,pd3,pd4,-⟩:=(zxb HX3 Bz).cz;refine hK.out _ _ ⟨pa0,pa1,pb0,pb1,pb2,pb3,pb4,pc0,pc1,pd0,pd1,pd2,pd3,pd4⟩ (fun _=>?_);try simp only[uW,uX,uY,uZ]
  clear hK K;refine zC 35 rfl rfl (fun K hK=>?_);go_simp
  with_reducible refine(sameInts_q (Sl.below h13) (Sl.below h11) (by have h1:=Sl.len h13;have h2:=hll;omega) (by have h1:=Sl.len h11;have h2:=hll;omega) true (zh (decide_eq_true rfl))).mono ?_
  rintro e w14 ⟨rfl,b14⟩;replace b14:=zq (a:=w13) b14;replace hnd:=hnd.below b14;replace hqd:=hqd.below b14;replace Bz:=bT Bz b14;clear b14;clear pa0 pa1 pb0 pb1 pb2 pb3 pb4 pc0 pc1 pd0 pd1 pd2 pd3 pd4;obtain⟨pa0,pa1,-⟩:=(zxb HX0 Bz).cz;obtain⟨pb0,pb1,pb2,pb3,pb4,-⟩:=(zxb HX1 Bz).cz;obtain⟨pc0,pc1,-⟩:=(zxb HX2 Bz).cz;obtain⟨pd0,pd1,pd2,pd3,pd4,-⟩:=(zxb HX3 Bz).cz;refine hK.out _ _ ⟨pa0,pa1,pb0,pb1,pb2,pb3,pb4,pc0,pc1,pd0,pd1,pd2,pd3,pd4⟩ (fun _=>?_);try simp only[uW,uX,uY,uZ]
  clear hK K;iterate 6 (refine zU ?_;try simp only[uW,uX,uY,uZ])
  refine zC 40 rfl rfl (fun K hK=>?_);go_simp
  with_reducible refine(query_is (q:=q) (h.below (bT hB (bT (b:=w14) Bz))) (hok.out.below (bT hB (bT (b:=w14) Bz))) (m:=3) zo hln (HQO.out.below (bT hB (bT (b:=w14) Bz))) (zt hT hB Bz) y HY).mono ?_
  rintro e w15 ⟨rfl,b15⟩;replace b15:=zq (a:=w14) b15;replace hnd:=hnd.below b15;replace hqd:=hqd.below b15;replace Bz:=bT Bz b15;clear b15;clear pa0 pa1 pb0 pb1 pb2 pb3 pb4 pc0 pc1 pd0 pd1 pd2 pd3 pd4;obtain⟨pa0,pa1,-⟩:=(zxb HX0 Bz).cz;obtain⟨pb0,pb1,pb2,pb3,pb4,-⟩:=(zxb HX1 Bz).cz;obtain⟨pc0,pc1,-⟩:=(zxb HX2 Bz).cz;obtain⟨pd0,pd1,pd2,pd3,pd4,-⟩:=(zxb HX3 Bz).cz;refine hK.out _ _ ⟨pa0,pa1,pb0,pb1,pb2,pb3,pb4,pc0,pc1,pd0,pd1,pd2,pd3,pd4⟩ (fun _=>?_);try simp only[uW,uX,uY,uZ]
  clear hK K;refine zC 43 rfl rfl (fun K hK=>?_);go_simp
  with_reducible refine(queryR_is (q:=q) (h.below (bT hB (bT (b:=w15) Bz))) (hok.out.below (bT hB (bT (b:=w15) Bz))) (hgv.out.below (bT hB (bT (b:=w15) Bz))) (m:=3) zo hln (HQO.out.below (bT hB (bT (b:=w15) Bz))) (zt hT hB Bz) y HY).mono ?_
  rintro e w16 ⟨rfl,b16⟩;replace b16:=zq (a:=w15) b16;replace hnd:=hnd.below b16;replace hqd:=hqd.below b16;replace Bz:=bT Bz b16;clear b16;clear pa0 pa1 pb0 pb1 pb2 pb3 pb4 pc0 pc1 pd0 pd1 pd2 pd3 pd4;obtain⟨pa0,pa1,-⟩:=(zxb HX0 Bz).cz;obtain⟨pb0,pb1,pb2,pb3,pb4,-⟩:=(zxb HX1 Bz).cz;obtain⟨pc0,pc1,-⟩:=(zxb HX2 Bz).cz;obtain⟨pd0,pd1,pd2,pd3,pd4,-⟩:=(zxb HX3 Bz).cz;refine hK.out _ _ ⟨pa0,pa1,pb0,pb1,pb2,pb3,pb4,pc0,pc1,pd0,pd1,pd2,pd3,pd4⟩ (fun _=>?_);try simp only[uW,uX,uY,uZ]
  clear hK K;iterate 5 (refine zU ?_;try simp only[uW,uX,uY,uZ])
  refine zC 49 rfl rfl (fun K hK=>?_);go_simp
  with_reducible refine(sameNet_q (NetD.below hnd) (HND.out.below (bT hB (bT (b:=w16) Bz))) zo).mono ?_
  rintro e w17 ⟨rfl,b17⟩;replace b17:=zq (a:=w16) b17;replace hqd:=hqd.below b17;replace Bz:=bT Bz b17;clear b17;clear pa0 pa1 pb0 pb1 pb2 pb3 pb4 pc0 pc1 pd0 pd1 pd2 pd3 pd4;obtain⟨pa0,pa1,-⟩:=(zxb HX0 Bz).cz;obtain⟨pb0,pb1,pb2,pb3,pb4,-⟩:=(zxb HX1 Bz).cz;obtain⟨pc0,pc1,-⟩:=(zxb HX2 Bz).cz;obtain⟨pd0,pd1,pd2,pd3,pd4,-⟩:=(zxb HX3 Bz).cz;refine hK.out _ _ ⟨pa0,pa1,pb0,pb1,pb2,pb3,pb4,pc0,pc1,pd0,pd1,pd2,pd3,pd4⟩ (fun _=>?_);try simp only[uW,uX,uY,uZ]
  clear hK K;iterate 4 (refine zU ?_;try simp only[uW,uX,uY,uZ])
  refine zC 54 rfl rfl (fun K hK=>?_);go_simp
  with_reducible refine(sameQuery_qp HPL.out HPN.out (HQD.out.below (bT hB (bT (b:=w17) Bz))) HQN.out (QyD.below hqd)).mono ?_
  rintro e w18 ⟨rfl,b18⟩;replace b18:=zq (a:=w17) b18;replace Bz:=bT Bz b18;clear b18;clear pa0 pa1 pb0 pb1 pb2 pb3 pb4 pc0 pc1 pd0 pd1 pd2 pd3 pd4;obtain⟨pa0,pa1,-⟩:=(zxb HX0 Bz).cz;obtain⟨pb0,pb1,pb2,pb3,pb4,-⟩:=(zxb HX1 Bz).cz;obtain⟨pc0,pc1,-⟩:=(zxb HX2 Bz).cz;obtain⟨pd0,pd1,pd2,pd3,pd4,-⟩:=(zxb HX3 Bz).cz;refine hK.out _ _ ⟨pa0,pa1,pb0,pb1,pb2,pb3,pb4,pc0,pc1,pd0,pd1,pd2,pd3,pd4⟩ (fun _=>?_);try simp only[uW,uX,uY,uZ]
  clear hK K;iterate 2 (refine zU ?_;try simp only[uW,uX,uY,uZ])
  refine zC 57 rfl rfl (fun K hK=>?_);go_simp
  with_reducible refine(awake10_q (zt hT hB Bz)).mono ?_
  rintro e w19 ⟨rfl,b19⟩;replace b19:=zq (a:=w18) b19;replace Bz:=bT Bz b19;clear b19;clear pa0 pa1 pb0 pb1 pb2 pb3 pb4 pc0 pc1 pd0 pd1 pd2 pd3 pd4;obtain⟨pa0,pa1,-⟩:=(zxb HX0 Bz).cz;obtain⟨pb0,pb1,pb2,pb3,pb4,-⟩:=(zxb HX1 Bz).cz;obtain⟨pc0,pc1,-⟩:=(zxb HX2 Bz).cz;obtain⟨pd0,pd1,pd2,pd3,pd4,-⟩:=(zxb HX3 Bz).cz;refine hK.out _ _ ⟨pa0,pa1,pb0,pb1,pb2,pb3,pb4,pc0,pc1,pd0,pd1,pd2,pd3,pd4⟩ (fun _=>?_);try simp only[uW,uX,uY,uZ]
  clear hK K;iterate 2 (refine zU ?_;try simp only[uW,uX,uY,uZ])
  refine wpPlan_done ?_;go_wp2_with fail
  go_ret
  have hF:=bT (c:=w19) hB Bz;exact⟨rfl,bT hF⟩
theorem tells10_q {w:World} {inp:Int} {lA:Option Addr} {ln lc:Nat} {L:List Ly} {q:Qy} (h:Sl Ly.cs 13 w lA ln lc L) (hln:ln≤9223372036854775807) (hin:Hid (∀y∈L,LyIn w y)) (hq:Hid (QyB w q)) (hT:Hid (Tab w)) :
  Calls Tryz.prog 3 #[.agg #[.int .i64 inp,.slice lA ln lc],.agg #[.slice q.xA q.xn q.xc,.int .i64 q.label,.slice q.oA q.on q.oc,.slice q.hA q.hn q.hc,.int .u8 q.norm]] w fun e w'=>e=.returned (.bool true)∧Below w.heap.size w w':=by
 cases hs:smallNet 20 40 3 ln L
 ·exact tells10_0 h hln hin hq (zh hs) hT
 ·cases hy:smallQy 70 3 q
  ·exact tells10_1 h hln hin hq (zh hs) (zh hy) hT
  ·have ok:=small_ok (m:=3) hin.out hs zo zo;obtain⟨hl20,⟨E,hE⟩,hgv⟩:=net_small h hin.out hs;obtain⟨⟨d,hd⟩,hqn⟩:=qy_small hq.out hy;exact tells10_ok h hln hin hq (zh hs) (zh hy) (zh ok.2) (zh hgv) (zh hE) hl20 (zh (hq.out.ok (m:=3) hy zo zo)) (zh hd) (zh hqn) (zh rfl) (zh rfl) (zh rfl) (by have h1:=list_len (inp:=inp) (L:=L);have h2:=h.1;omega) (by simp) (by simp) hT
theorem tells10_any {w:World} {v u:Value} (h:NtIn w v) (k:QyIn w u) (hT:Tab w) :
  Calls Tryz.prog 3 #[v,u] w (Yes w):=by
 obtain⟨inp,A,n,c,L,rfl,_,h1,h2,h3,h4⟩:=h;obtain⟨xA,xn,xc,X,lab,oA,on,oc,O,hA,hn,hc,H,nm,rfl,_,_,⟨x1,x2,x3,x4⟩,⟨o1,o2,o3,o4⟩,y1,y2,y3,y4⟩:=k;exact tells10_q (q:=⟨xA,xn,xc,X,lab,oA,on,oc,O,hA,hn,hc,H,nm⟩) h3 (by unfold maxLen at h2;omega) (zh h4) (zh ⟨x3,o3,y3,x4,o4,y4,by unfold maxLen at x2 o2 y2;simp only;omega⟩) (zh hT)
open Go.RowKit Tw
namespace shapesTells
open Go.ChangeShapes Go.WideShapes Go.ChangeAt Go.RowKit Tw
theorem contract (H:Type) (enc:TypeId×Value→H) (W:World) (base:Nat) (args:Array Value) (ds gs:List (DataW H)) (before:List MemPlace)
  (hval:∀(j:Nat) t v,Tryz.f3.params[j]?=some t→args[j]?=some v→Value.okWide Tryz.prog W .any base t v)
  (hW:DataW.Whole enc Tryz.prog Tryz.f3.params.toList Rows.shapesTellsSpec.vars false W args.toList ds gs before) (hL:laidMetH Tryz.prog Rows.shapesTellsRow.laid W) :
  Calls Tryz.prog 3 args W fun e W'=>∃v,e=.returned v∧Rows.shapesTellsSpec.post enc Tryz.prog Tryz.f3 false true false false W args v W':=by
 have hW':=hW;obtain⟨p,q,hA0,hV,rfl,hfz,hnd⟩:=hW;have hA:DataW.TrodAll enc Tryz.prog W 0 (fun _=>true) true Tryz.f3.params.toList args.toList ds p:=hA0;rw[Tryz.params3] at hA hval;obtain⟨v0,vs0,d0,ds0,p0,q0,hargs,rfl,rfl,h0,r0⟩:=trodAll_cons hA;obtain⟨v1,vs1,d1,ds1,p1,q1,rfl,rfl,rfl,h1,r1⟩:=trodAll_cons r0;obtain⟨rfl,rfl,rfl⟩:=trodAll_nil r1;obtain rfl:args=#[v0,v1]:=by cases args;simp_all
 obtain⟨rfl,rfl⟩:=trodVars_none hV;have lt0:∀x∈p0,x.block<W.heap.size:=by obtain⟨m,hm⟩:=h0;exact DataW.trod_lt m _ _ _ hm
 have n0:=net_of h0 (aggNet_of (hval 0 24 v0 rfl rfl));have lt1:∀x∈p1,x.block<W.heap.size:=by obtain⟨m,hm⟩:=h1;exact DataW.trod_lt m _ _ _ hm
 have n1:=query_of h1 (aggQuery_of (hval 1 28 v1 rfl rfl));refine(tells10_any n0 n1 (tab_of hL)).mono fun e W' ⟨he,bel⟩=>?_;subst he;exact⟨_,rfl,_,_,_,[],_,[],hW',trodAll_mk1 (shut_bool Tryz.underlying4 _),(trodAll_cons_mk (Below.trod laidOut (by kernel_rfl) (of_decide_eq_true (by kernel_rfl)) h0 bel lt0) (trodAll_cons_mk (Below.trod laidOut (by kernel_rfl) (of_decide_eq_true (by kernel_rfl)) h1 bel lt1) trodAll_mk0)),rfl,bel.frame _,fun h=>by cases h⟩
theorem laid_met (os:Os):laidMet Tryz.prog Rows.shapesTellsRow.laid ((laidWorld os).forCall (fun _ _=>0) ⟨#[],#[.agg #[.int .i64 0,.slice none 0 0],.agg #[.slice none 0 0,.int .i64 0,.slice none 0 0,.slice none 0 0,.int .u8 0]],[]⟩).memory :=
 laidMet_of_run' 8 (by kernel_rfl) (by kernel_rfl)
theorem reads (os:Os) {H:Type} (enc:TypeId×Value→H):∃places,DataW.whole enc Tryz.prog ((laidWorld os).forCall (fun _ _=>0) ⟨#[],#[.agg #[.int .i64 0,.slice none 0 0],.agg #[.slice none 0 0,.int .i64 0,.slice none 0 0,.slice none 0 0,.int .u8 0]],[]⟩).memory Tryz.f3.params.toList Rows.shapesTellsSpec.vars false (#[.agg #[.int .i64 0,.slice none 0 0],.agg #[.slice none 0 0,.int .i64 0,.slice none 0 0,.slice none 0 0,.int .u8 0]]:Array Value).toList 8=some ([.agg [.lit (.int .i64 0),.nil],.agg [.nil,.lit (.int .i64 0),.nil,.nil,.lit (.int .u8 0)]],[],places) :=
 ⟨[],by kernel_rfl⟩
theorem lifted (os:Os) (started:os.Started) (H:Type) (enc:TypeId×Value→H) (F:Stop.Interp) :
  ReturnsInHanded {} Tryz.checked os 3 .any ((OpenSpec.ofChange Rows.shapesTellsSpec).preRow enc Tryz.prog Tryz.f3 Rows.shapesTellsRow.domain false Rows.shapesTellsRow.laid) (((OpenSpec.ofChange Rows.shapesTellsSpec).at F).post enc Tryz.prog Tryz.f3 false true false false):=by
 obtain⟨places,hx⟩:=reads os enc;refine returnsInHanded_of_row (C:=Tryz.checked) (s:=OpenSpec.ofChange Rows.shapesTellsSpec) own started (by kernel_rfl) Tryz.func3
  (witness_row_at (enc:=enc) (C:=Tryz.checked) false (laidWorld os) #[.agg #[.int .i64 0,.slice none 0 0],.agg #[.slice none 0 0,.int .i64 0,.slice none 0 0,.slice none 0 0,.int .u8 0]] rfl (by kernel_rfl) (by kernel_rfl) (by kernel_rfl)
   (OpenSpec.preRow_of_cond 8 hx (by kernel_rfl) (fun k hk=>by cases hk) (by kernel_rfl) (laid_met os))) ?_
 intro W base args ds gs before hval hW _ _ _ hL _ _;exact contract H enc W base args ds gs before hval hW hL
theorem joined:joinedFacts Tryz.pinned.checked.prog 3 Tryz.f3 (OpenSpec.ofChange Rows.shapesTellsSpec).bare Rows.shapesTellsRow=true:=by
 unfold joinedFacts
 repeat' with_reducible refine Bool.and_eq_true_iff.mpr ⟨?_,?_⟩
 all_goals decide +kernel
theorem said:Rows.ShapesTellsSaid :=
 OpenClaim.holds_of_cond 3 Tryz.f3 rfl rfl rfl rfl rfl rfl rfl ⟨rfl,rfl,rfl,rfl,rfl⟩ rfl rfl rfl rfl rfl (by kernel_rfl) Tryz.func3 joined
  (of_decide_eq_true (by kernel_rfl)) (by unfold Func.isWrapper;first | (rw[if_pos (by decide +kernel)];kernel_rfl) | (rw[if_neg (by decide +kernel)];exact⟨rfl,rfl⟩))
  (fun os started H enc _ F=>by rw[OpenClaim.pre_eq_preRow];exact lifted os started H enc F)
theorem plain (f : FuncId) (fn : Func) (hf : Tryz.pinned.checked.prog.funcNamed "tripwire/tripwirelaw10.ShapesTells" = some f) (hfn : Tryz.pinned.checked.prog.funcs[f]? = some fn) :
  false=Tryz.pinned.checked.prog.looks []∧∀(j:Nat) t,fn.params[j]?=some t→Tryz.pinned.checked.prog.wantsStandIn t=false:=by
 obtain rfl : f = 3 := Option.some.inj ((show Tryz.prog.funcNamed "tripwire/tripwirelaw10.ShapesTells" = some 3 by kernel_rfl).symm.trans hf) |>.symm;obtain rfl:fn=Tryz.f3:=(Option.some.inj (Tryz.func3.symm.trans hfn)).symm;refine⟨by kernel_rfl,fun j t ht=>?_⟩;rw[Tryz.params3] at ht;have hm:=Array.mem_of_getElem? ht;simp only[List.mem_toArray,List.mem_cons,List.not_mem_nil,or_false] at hm
 rcases hm with rfl | rfl
 ·exact(show Tryz.prog.wantsStandIn 24=false by kernel_rfl)
 ·exact(show Tryz.prog.wantsStandIn 28=false by kernel_rfl)
theorem card:Rows.ShapesTellsCardSaid :=
 Claim7.holds_tied_plain_at .later [] _ _ _ _ said (fun _ h=>by cases h) (by kernel_rfl) (fun _ h=>by cases h) shapesTells_row_tie rfl ⟨rfl,rfl⟩ (by kernel_rfl) rfl plain (by kernel_rfl)
end shapesTells
end Go.Proofs.YtidjjejgbahcgaaGreatDoor
