/-
  The bounds of a row's slack: program.slack. Written by wip/gen/pr6.py.
-/
import Derived.Test.YtjkgjiofmgapfaaGreatDoorYMx2
import Derived.Test.YtjkgjiofmgapfaaGreatDoorYRatS
set_option maxHeartbeats 8000000
set_option maxRecDepth 100000
namespace Go.Proofs.YtjkgjiofmgapfaaGreatDoor
open Go.RowKit Tw
def slackF (V:List Vr) (x:Rw):Rat×Rat :=
 if x.kind=1 then(0,maxQ (x.b.q-spS minQ (bnds V) (prs x.L)) 0) else if x.kind=3 then(minQ (x.b.q-spS maxQ (bnds V) (prs x.L)) 0,0) else(0,0)
theorem slack_q {w:World} {m:Nat} {p:Pg} {x:Rw} (h:PgOk w m p) (h2:RwOk w m x) (hm:m≤1000000000) (hK:Hid (1+x.n*(2*m+4)≤9000000000)) (hT:Hid (Tab w)) :
  Calls Tryz.prog 56 #[.agg #[.slice p.vA p.vn p.vc,.slice p.rA p.rn p.rc,.slice p.cA p.cn p.cc],.agg #[.slice x.A x.n x.c,.int .u8 x.kind,.bool x.b.s,.slice x.b.A x.b.l x.b.c,.bool x.b.s',.slice x.b.A' x.b.l' x.b.c']] w (TellsQQ w (slackF p.V x).1 (slackF p.V x).2 (1+x.n*(2*m+4)+m+2)):=by
 have hsb:sz x.b.q≤m+1:=by have:=R.sz h2.b.r;omega
 have hk9:=hK.out
 by_cases k1:x.kind=1
 ·have g1:(x.kind==1)=true:=by simp[k1]
  have e9:slackF p.V x=(0,maxQ (x.b.q-spS minQ (bnds p.V) (prs x.L)) 0):=by unfold slackF;simp[k1]
  rw[e9]
  clear e9 k1
  obtain⟨W,hW,x0,x1,x2,x3,hB⟩:=boxes4 w #[.slice p.vA p.vn p.vc,.slice p.rA p.rn p.rc,.slice p.cA p.cn p.cc] 27 #[.slice x.A x.n x.c,.int .u8 x.kind,.bool x.b.s,.slice x.b.A x.b.l x.b.c,.bool x.b.s',.slice x.b.A' x.b.l' x.b.c'] 35 #[.bool false,.slice none 0 0,.bool false,.slice none 0 0] 33 #[.bool false,.slice none 0 0,.bool false,.slice none 0 0] 33
  have HX0:=zh x0
  have HX1:=zh x1
  have HX2:=zh x2
  have HX3:=zh x3
  clear x0 x1 x2 x3
  have Bz:=Below.refl W.heap.size W
  go_enter Tryz.func56,Tryz.ntmps56
  go_upto_region 1 with(fail)
  rw[←hW]
  clear hW
  go_upto_region 2 with(fail)
  obtain⟨V1,hW,x4,hN⟩:=zAc W #[.bool false,.slice none 0 0,.bool false,.slice none 0 0] 33
  rw[←hW]
  clear hW
  obtain⟨v4,hb4⟩:∃b,b=W.heap.size:=⟨_,rfl⟩
  rw[←hb4] at x4 ⊢
  have o0_4:w.heap.size<v4:=by have:=(zx HX0 Bz).lt;omega
  have o1_4:w.heap.size+1<v4:=by have:=(zx HX1 Bz).lt;omega
  have o2_4:w.heap.size+1+1<v4:=by have:=(zx HX2 Bz).lt;omega
  have o3_4:w.heap.size+1+1+1<v4:=by have:=(zx HX3 Bz).lt;omega
  have ow_4:w.heap.size≤v4:=by have:=zw hB Bz;omega
  replace hB:=zAa (zAa hB Bz) hN
  replace HX0:=zh ((zx HX0 Bz).below hN)
  replace HX1:=zh ((zx HX1 Bz).below hN)
  replace HX2:=zh ((zx HX2 Bz).below hN)
  replace HX3:=zh ((zx HX3 Bz).below hN)
  have HX4:=zh x4
  clear x4 hN Bz hb4
  have Bz:=Below.refl V1.heap.size V1
  obtain⟨p0_0,p0_1,p0_2,-⟩:=(zx HX0 Bz).cz
  have p1_0:=(zx HX1 Bz).cell 0 (.slice x.A x.n x.c) rfl
  go_wp2_with fail
  with_reducible refine(span_q (h.below (zAa hB (zAa (b:=V1) Bz (by go_grown)))) (h2.sl.below (zAa hB (zAa (b:=V1) Bz (by go_grown)))) (zh fun t k=>(h2.fr t k).below (zAa hB (zAa (b:=V1) Bz (by go_grown)))) hm h2.len hK (zh (Tab.below hT.out (zAa hB (zAa (b:=V1) Bz (by go_grown)))))).mono ?_
  rintro e w1 ⟨u1,v1,rfl,hu1,hv1,b1⟩
  replace b1:=zAa (a:=V1) (by go_grown) b1
  replace Bz:=zAa Bz b1
  clear hv1
  clear b1
  clear p0_0 p0_1 p0_2 p1_0
  go_upto_region 3 with(fail)
  obtain⟨V2,hW,x5,x6,hN⟩:=boxes2 w1 #[.bool u1.s,.slice u1.A u1.l u1.c,.bool u1.s',.slice u1.A' u1.l' u1.c'] 33 #[.bool v1.s,.slice v1.A v1.l v1.c,.bool v1.s',.slice v1.A' v1.l' v1.c'] 33
  rw[←hW]
  clear hW
  obtain⟨v6,hb6⟩:∃b,b=w1.heap.size+1:=⟨_,rfl⟩
  rw[←hb6] at x6 ⊢
  obtain⟨v5,hb5⟩:∃b,b=w1.heap.size:=⟨_,rfl⟩
  rw[←hb5] at x5 ⊢
  have o0_5:w.heap.size<v5:=by have:=(zx HX0 Bz).lt;omega
  have o1_5:w.heap.size+1<v5:=by have:=(zx HX1 Bz).lt;omega
  have o2_5:w.heap.size+1+1<v5:=by have:=(zx HX2 Bz).lt;omega
  have o3_5:w.heap.size+1+1+1<v5:=by have:=(zx HX3 Bz).lt;omega
  have o4_5:v4<v5:=by have:=(zx HX4 Bz).lt;omega
  have ow_5:w.heap.size≤v5:=by have:=zw hB Bz;omega
  have o0_6:w.heap.size<v6:=by have:=(zx HX0 Bz).lt;omega
  have o1_6:w.heap.size+1<v6:=by have:=(zx HX1 Bz).lt;omega
  have o2_6:w.heap.size+1+1<v6:=by have:=(zx HX2 Bz).lt;omega
  have o3_6:w.heap.size+1+1+1<v6:=by have:=(zx HX3 Bz).lt;omega
  have o4_6:v4<v6:=by have:=(zx HX4 Bz).lt;omega
  have o5_6:v5<v6:=by omega
  have ow_6:w.heap.size≤v6:=by have:=zw hB Bz;omega
  replace hu1:=hu1.below hN
  replace hB:=zAa (zAa hB Bz) hN
  replace HX0:=zh ((zx HX0 Bz).below hN)
  replace HX1:=zh ((zx HX1 Bz).below hN)
  replace HX2:=zh ((zx HX2 Bz).below hN)
  replace HX3:=zh ((zx HX3 Bz).below hN)
  replace HX4:=zh ((zx HX4 Bz).below hN)
  have HX5:=zh x5
  have HX6:=zh x6
  clear x5 x6 hN Bz hb5 hb6
  have Bz:=Below.refl V2.heap.size V2
  obtain⟨-,p1_1,p1_2,p1_3,p1_4,p1_5,-⟩:=(zx HX1 Bz).cz
  obtain⟨p2_0,p2_1,p2_2,p2_3,-⟩:=(zx HX2 Bz).cz
  have f2_0:=(zx HX2 Bz).frozen 0
  have f2_1:=(zx HX2 Bz).frozen 1
  have f2_2:=(zx HX2 Bz).frozen 2
  have f2_3:=(zx HX2 Bz).frozen 3
  have y2:=(zx HX2 Bz).lt
  obtain⟨p3_0,p3_1,p3_2,p3_3,-⟩:=(zx HX3 Bz).cz
  have f3_0:=(zx HX3 Bz).frozen 0
  have f3_1:=(zx HX3 Bz).frozen 1
  have f3_2:=(zx HX3 Bz).frozen 2
  have f3_3:=(zx HX3 Bz).frozen 3
  have y3:=(zx HX3 Bz).lt
  obtain⟨p4_0,p4_1,p4_2,p4_3,-⟩:=(zx HX4 Bz).cz
  obtain⟨p5_0,p5_1,p5_2,p5_3,-⟩:=(zx HX5 Bz).cz
  go_wp2_with fail
  (try simp only[List.append_eq,List.cons_append,List.nil_append])
  refine wp_region_plan (.take 0 (.pure 1 (.take 2 (.take 3 (.take 5 (.only 4 (.only 6 (.only 7 (.only 8 .done))))))))) [7,8] (fun w'=>w'.cell? ⟨w.heap.size+1,2,none⟩=some (.bool x.b.s)∧w'.cell? ⟨w.heap.size+1,3,none⟩=some (.slice x.b.A x.b.l x.b.c)∧w'.cell? ⟨w.heap.size+1,4,none⟩=some (.bool x.b.s')∧w'.cell? ⟨w.heap.size+1,5,none⟩=some (.slice x.b.A' x.b.l' x.b.c')∧w'.cell? ⟨v4,0,none⟩=some (.bool false)∧w'.cell? ⟨v4,1,none⟩=some (.slice none 0 0)∧w'.cell? ⟨v4,2,none⟩=some (.bool false)∧w'.cell? ⟨v4,3,none⟩=some (.slice none 0 0)∧w'.cell? ⟨v5,0,none⟩=some (.bool u1.s)∧w'.cell? ⟨v5,1,none⟩=some (.slice u1.A u1.l u1.c)∧w'.cell? ⟨v5,2,none⟩=some (.bool u1.s')∧w'.cell? ⟨v5,3,none⟩=some (.slice u1.A' u1.l' u1.c')) (by kernel_rfl) (by kernel_rfl) ⟨p1_2,p1_3,p1_4,p1_5,p4_0,p4_1,p4_2,p4_3,p5_0,p5_1,p5_2,p5_3⟩ ?_
  refine zT rfl rfl (fun w' ⟨p1_2,p1_3,p1_4,p1_5,p4_0,p4_1,p4_2,p4_3,p5_0,p5_1,p5_2,p5_3⟩=>by go_simp<;>with_reducible rfl) ?_
  try simp only[uW,uX,uY,uZ]
  refine zP rfl rfl (fun w'=>by go_simp<;>with_reducible rfl) ?_
  try simp only[uW,uX,uY,uZ]
  iterate 3 (refine zT rfl rfl (fun w' ⟨p1_2,p1_3,p1_4,p1_5,p4_0,p4_1,p4_2,p4_3,p5_0,p5_1,p5_2,p5_3⟩=>by go_simp<;>with_reducible rfl) ?_;try simp only[uW,uX,uY,uZ])
  refine zC 24 rfl rfl (fun K hK=>?_)
  go_simp
  have hz3:=sz_sub hsb (hu1).2
  with_reducible refine(sub_q (FrOk.below h2.b (zAa hB (zAa (b:=V2) Bz (by go_grown)))).r (NumIs.rr (NumIs.below hu1 (by go_grown))) (by omega) (zh (Tab.below hT.out (zAa hB (zAa (b:=V2) Bz (by go_grown)))))).mono ?_
  rintro e w2 ⟨s2,A2,c2,l2,s2r,A2r,c2r,l2r,rfl,h2,b2⟩
  replace b2:=zAa (a:=V2) (by go_grown) b2
  replace Bz:=zAa Bz b2
  clear b2
  clear p1_1 p1_2 p1_3 p1_4 p1_5 p2_0 p2_1 p2_2 p2_3 f2_0 f2_1 f2_2 f2_3 y2 p3_0 p3_1 p3_2 p3_3 f3_0 f3_1 f3_2 f3_3 y3 p4_0 p4_1 p4_2 p4_3 p5_0 p5_1 p5_2 p5_3
  obtain⟨-,-,p1_2,p1_3,p1_4,p1_5,-⟩:=(zx HX1 Bz).cz
  obtain⟨p2_0,p2_1,p2_2,p2_3,-⟩:=(zx HX2 Bz).cz
  have f2_0:=(zx HX2 Bz).frozen 0
  have f2_1:=(zx HX2 Bz).frozen 1
  have f2_2:=(zx HX2 Bz).frozen 2
  have f2_3:=(zx HX2 Bz).frozen 3
  have y2:=(zx HX2 Bz).lt
  obtain⟨p3_0,p3_1,p3_2,p3_3,-⟩:=(zx HX3 Bz).cz
  have f3_0:=(zx HX3 Bz).frozen 0
  have f3_1:=(zx HX3 Bz).frozen 1
  have f3_2:=(zx HX3 Bz).frozen 2
  have f3_3:=(zx HX3 Bz).frozen 3
  have y3:=(zx HX3 Bz).lt
  obtain⟨p4_0,p4_1,p4_2,p4_3,-⟩:=(zx HX4 Bz).cz
  obtain⟨p5_0,p5_1,p5_2,p5_3,-⟩:=(zx HX5 Bz).cz
  refine hK.out _ _ ⟨p1_2,p1_3,p1_4,p1_5,p4_0,p4_1,p4_2,p4_3,p5_0,p5_1,p5_2,p5_3⟩ (fun _=>?_)
  try simp only[uW,uX,uY,uZ]
  clear hK K
  refine zC 26 rfl rfl (fun K hK=>?_)
  go_simp
  have hz4:=sz_maxQ hz3 (Nat.le_trans sz_zero (Nat.le_add_left 1 _))
  with_reducible refine(max_q (R.below h2.r (by go_grown)) (RN.zero _).r (by have:=sz_zero;omega) (zh (Tab.below hT.out (zAa hB (zAa (b:=w2) Bz (by go_grown)))))).mono ?_
  rintro e w3 ⟨s3,A3,c3,l3,s3r,A3r,c3r,l3r,rfl,h3,b3⟩
  replace b3:=zAa (a:=w2) (by go_grown) b3
  replace Bz:=zAa Bz b3
  clear b3
  clear p1_2 p1_3 p1_4 p1_5 p2_0 p2_1 p2_2 p2_3 f2_0 f2_1 f2_2 f2_3 y2 p3_0 p3_1 p3_2 p3_3 f3_0 f3_1 f3_2 f3_3 y3 p4_0 p4_1 p4_2 p4_3 p5_0 p5_1 p5_2 p5_3
  obtain⟨-,-,p1_2,p1_3,p1_4,p1_5,-⟩:=(zx HX1 Bz).cz
  obtain⟨p2_0,p2_1,p2_2,p2_3,-⟩:=(zx HX2 Bz).cz
  have f2_0:=(zx HX2 Bz).frozen 0
  have f2_1:=(zx HX2 Bz).frozen 1
  have f2_2:=(zx HX2 Bz).frozen 2
  have f2_3:=(zx HX2 Bz).frozen 3
  have y2:=(zx HX2 Bz).lt
  obtain⟨p3_0,p3_1,p3_2,p3_3,-⟩:=(zx HX3 Bz).cz
  have f3_0:=(zx HX3 Bz).frozen 0
  have f3_1:=(zx HX3 Bz).frozen 1
  have f3_2:=(zx HX3 Bz).frozen 2
  have f3_3:=(zx HX3 Bz).frozen 3
  have y3:=(zx HX3 Bz).lt
  obtain⟨p4_0,p4_1,p4_2,p4_3,-⟩:=(zx HX4 Bz).cz
  obtain⟨p5_0,p5_1,p5_2,p5_3,-⟩:=(zx HX5 Bz).cz
  refine hK.out _ _ ⟨p1_2,p1_3,p1_4,p1_5,p4_0,p4_1,p4_2,p4_3,p5_0,p5_1,p5_2,p5_3⟩ (fun _=>?_)
  try simp only[uW,uX,uY,uZ]
  clear hK K
  refine wpPlan_late (o:=⟨none,_,_,_,_,_⟩) rfl rfl (by decide) (fun K hK=>?_)
  go_simp
  refine hK.out _ _ ?_
  try simp only[Act.put,uX,uY,uZ]
  clear hK K
  refine wpPlan_late (o:=⟨none,_,_,_,_,_⟩) rfl rfl (by decide) (fun K hK=>?_)
  go_simp
  refine hK.out _ _ ?_
  try simp only[Act.put,uX,uY,uZ]
  clear hK K
  refine wpPlan_done ?_
  go_wp2_with fail
  have q2_0:w3.cell? ⟨w.heap.size+2,0,none⟩=some (.bool false):=p2_0
  have q2_1:w3.cell? ⟨w.heap.size+2,1,none⟩=some (.slice none 0 0):=p2_1
  have q2_2:w3.cell? ⟨w.heap.size+2,2,none⟩=some (.bool false):=p2_2
  have q2_3:w3.cell? ⟨w.heap.size+2,3,none⟩=some (.slice none 0 0):=p2_3
  have q3_0:w3.cell? ⟨w.heap.size+3,0,none⟩=some (.bool false):=p3_0
  have q3_1:w3.cell? ⟨w.heap.size+3,1,none⟩=some (.slice none 0 0):=p3_1
  have q3_2:w3.cell? ⟨w.heap.size+3,2,none⟩=some (.bool false):=p3_2
  have q3_3:w3.cell? ⟨w.heap.size+3,3,none⟩=some (.slice none 0 0):=p3_3
  (try simp only[Exit.inBlock,Exit.then])
  refine bodyPost_ret (by simp[results,Tryz.results56,go_sem,q2_0,q2_1,q2_2,q2_3,q3_0,q3_1,q3_2,q3_3];try rfl) rfl ?_
  obtain⟨V3,hW,x,kk,far,bel⟩:=store4 (.bool false) (.slice none 0 0) (.bool false) (.slice none 0 0) (zx HX2 Bz) nofun nofun nofun nofun
  rw[←hW]
  clear hW
  replace h3:=h3.k kk
  replace hB:=bel w.heap.size w (by omega) (zAa hB Bz)
  replace HX0:=zh (far _ _ _ (by omega) (zx HX0 Bz))
  replace HX1:=zh (far _ _ _ (by omega) (zx HX1 Bz))
  replace HX3:=zh (far _ _ _ (by omega) (zx HX3 Bz))
  replace HX4:=zh (far _ _ _ (by omega) (zx HX4 Bz))
  replace HX5:=zh (far _ _ _ (by omega) (zx HX5 Bz))
  replace HX6:=zh (far _ _ _ (by omega) (zx HX6 Bz))
  replace HX2:=zh x
  clear x kk far bel Bz
  have Bz:=Below.refl V3.heap.size V3
  obtain⟨V4,hW,x,kk,far,bel⟩:=store4 (.bool s3) (.slice A3 l3 c3) (.bool s3r) (.slice A3r l3r c3r) (zx HX3 Bz) nofun nofun nofun nofun
  rw[←hW]
  clear hW
  replace h3:=h3.k kk
  replace hB:=bel w.heap.size w (by omega) (zAa hB Bz)
  replace HX0:=zh (far _ _ _ (by omega) (zx HX0 Bz))
  replace HX1:=zh (far _ _ _ (by omega) (zx HX1 Bz))
  replace HX2:=zh (far _ _ _ (by omega) (zx HX2 Bz))
  replace HX4:=zh (far _ _ _ (by omega) (zx HX4 Bz))
  replace HX5:=zh (far _ _ _ (by omega) (zx HX5 Bz))
  replace HX6:=zh (far _ _ _ (by omega) (zx HX6 Bz))
  replace HX3:=zh x
  clear x kk far bel Bz
  have Bz:=Below.refl V4.heap.size V4
  have hF:=zAa (c:=V4) hB Bz
  exact⟨zFr,⟨s3,A3,c3,l3,s3r,A3r,c3r,l3r,maxQ (x.b.q-spS minQ (bnds p.V) (prs x.L)) 0,true⟩,rfl,⟨RN.zero _,Nat.le_trans sz_zero (by omega)⟩,⟨RN.below h3 (by go_grown),Nat.le_trans hz4 (by omega)⟩,zAa hF (by go_grown)⟩
 by_cases k3:x.kind=3
 ·have g1:(x.kind==1)=false:=by simp[k3]
  have g2:(x.kind==3)=true:=by simp[k3]
  have e9:slackF p.V x=(minQ (x.b.q-spS maxQ (bnds p.V) (prs x.L)) 0,0):=by unfold slackF;simp[k3]
  rw[e9]
  clear e9 k1 k3
  obtain⟨W,hW,x0,x1,x2,x3,hB⟩:=boxes4 w #[.slice p.vA p.vn p.vc,.slice p.rA p.rn p.rc,.slice p.cA p.cn p.cc] 27 #[.slice x.A x.n x.c,.int .u8 x.kind,.bool x.b.s,.slice x.b.A x.b.l x.b.c,.bool x.b.s',.slice x.b.A' x.b.l' x.b.c'] 35 #[.bool false,.slice none 0 0,.bool false,.slice none 0 0] 33 #[.bool false,.slice none 0 0,.bool false,.slice none 0 0] 33
  have HX0:=zh x0
  have HX1:=zh x1
  have HX2:=zh x2
  have HX3:=zh x3
  clear x0 x1 x2 x3
  have Bz:=Below.refl W.heap.size W
  go_enter Tryz.func56,Tryz.ntmps56
  go_upto_region 1 with(fail)
  rw[←hW]
  clear hW
  go_upto_region 2 with(fail)
  obtain⟨V1,hW,x4,hN⟩:=zAc W #[.bool false,.slice none 0 0,.bool false,.slice none 0 0] 33
  rw[←hW]
  clear hW
  obtain⟨v4,hb4⟩:∃b,b=W.heap.size:=⟨_,rfl⟩
  rw[←hb4] at x4 ⊢
  have o0_4:w.heap.size<v4:=by have:=(zx HX0 Bz).lt;omega
  have o1_4:w.heap.size+1<v4:=by have:=(zx HX1 Bz).lt;omega
  have o2_4:w.heap.size+1+1<v4:=by have:=(zx HX2 Bz).lt;omega
  have o3_4:w.heap.size+1+1+1<v4:=by have:=(zx HX3 Bz).lt;omega
  have ow_4:w.heap.size≤v4:=by have:=zw hB Bz;omega
  replace hB:=zAa (zAa hB Bz) hN
  replace HX0:=zh ((zx HX0 Bz).below hN)
  replace HX1:=zh ((zx HX1 Bz).below hN)
  replace HX2:=zh ((zx HX2 Bz).below hN)
  replace HX3:=zh ((zx HX3 Bz).below hN)
  have HX4:=zh x4
  clear x4 hN Bz hb4
  have Bz:=Below.refl V1.heap.size V1
  obtain⟨p0_0,p0_1,p0_2,-⟩:=(zx HX0 Bz).cz
  have p1_0:=(zx HX1 Bz).cell 0 (.slice x.A x.n x.c) rfl
  go_wp2_with fail
  with_reducible refine(span_q (h.below (zAa hB (zAa (b:=V1) Bz (by go_grown)))) (h2.sl.below (zAa hB (zAa (b:=V1) Bz (by go_grown)))) (zh fun t k=>(h2.fr t k).below (zAa hB (zAa (b:=V1) Bz (by go_grown)))) hm h2.len hK (zh (Tab.below hT.out (zAa hB (zAa (b:=V1) Bz (by go_grown)))))).mono ?_
  rintro e w1 ⟨u1,v1,rfl,hu1,hv1,b1⟩
  replace b1:=zAa (a:=V1) (by go_grown) b1
  replace Bz:=zAa Bz b1
  clear hu1
  clear b1
  clear p0_0 p0_1 p0_2 p1_0
  go_upto_region 3 with(fail)
  obtain⟨V2,hW,x5,x6,hN⟩:=boxes2 w1 #[.bool u1.s,.slice u1.A u1.l u1.c,.bool u1.s',.slice u1.A' u1.l' u1.c'] 33 #[.bool v1.s,.slice v1.A v1.l v1.c,.bool v1.s',.slice v1.A' v1.l' v1.c'] 33
  rw[←hW]
  clear hW
  obtain⟨v6,hb6⟩:∃b,b=w1.heap.size+1:=⟨_,rfl⟩
  rw[←hb6] at x6 ⊢
  obtain⟨v5,hb5⟩:∃b,b=w1.heap.size:=⟨_,rfl⟩
  rw[←hb5] at x5 ⊢
  have o0_5:w.heap.size<v5:=by have:=(zx HX0 Bz).lt;omega
  have o1_5:w.heap.size+1<v5:=by have:=(zx HX1 Bz).lt;omega
  have o2_5:w.heap.size+1+1<v5:=by have:=(zx HX2 Bz).lt;omega
  have o3_5:w.heap.size+1+1+1<v5:=by have:=(zx HX3 Bz).lt;omega
  have o4_5:v4<v5:=by have:=(zx HX4 Bz).lt;omega
  have ow_5:w.heap.size≤v5:=by have:=zw hB Bz;omega
  have o0_6:w.heap.size<v6:=by have:=(zx HX0 Bz).lt;omega
  have o1_6:w.heap.size+1<v6:=by have:=(zx HX1 Bz).lt;omega
  have o2_6:w.heap.size+1+1<v6:=by have:=(zx HX2 Bz).lt;omega
  have o3_6:w.heap.size+1+1+1<v6:=by have:=(zx HX3 Bz).lt;omega
  have o4_6:v4<v6:=by have:=(zx HX4 Bz).lt;omega
  have o5_6:v5<v6:=by omega
  have ow_6:w.heap.size≤v6:=by have:=zw hB Bz;omega
  replace hv1:=hv1.below hN
  replace hB:=zAa (zAa hB Bz) hN
  replace HX0:=zh ((zx HX0 Bz).below hN)
  replace HX1:=zh ((zx HX1 Bz).below hN)
  replace HX2:=zh ((zx HX2 Bz).below hN)
  replace HX3:=zh ((zx HX3 Bz).below hN)
  replace HX4:=zh ((zx HX4 Bz).below hN)
  have HX5:=zh x5
  have HX6:=zh x6
  clear x5 x6 hN Bz hb5 hb6
  have Bz:=Below.refl V2.heap.size V2
  obtain⟨-,p1_1,p1_2,p1_3,p1_4,p1_5,-⟩:=(zx HX1 Bz).cz
  obtain⟨p2_0,p2_1,p2_2,p2_3,-⟩:=(zx HX2 Bz).cz
  have f2_0:=(zx HX2 Bz).frozen 0
  have f2_1:=(zx HX2 Bz).frozen 1
  have f2_2:=(zx HX2 Bz).frozen 2
  have f2_3:=(zx HX2 Bz).frozen 3
  have y2:=(zx HX2 Bz).lt
  obtain⟨p3_0,p3_1,p3_2,p3_3,-⟩:=(zx HX3 Bz).cz
  have f3_0:=(zx HX3 Bz).frozen 0
  have f3_1:=(zx HX3 Bz).frozen 1
  have f3_2:=(zx HX3 Bz).frozen 2
  have f3_3:=(zx HX3 Bz).frozen 3
  have y3:=(zx HX3 Bz).lt
  obtain⟨p4_0,p4_1,p4_2,p4_3,-⟩:=(zx HX4 Bz).cz
  obtain⟨p6_0,p6_1,p6_2,p6_3,-⟩:=(zx HX6 Bz).cz
  go_wp2_with fail
  (try simp only[List.append_eq,List.cons_append,List.nil_append])
  refine wp_region_plan (.pure 0 (.take 1 (.take 2 (.take 4 (.take 6 (.only 3 (.only 5 (.only 7 (.only 8 .done))))))))) [8] (fun w'=>w'.cell? ⟨w.heap.size+1,2,none⟩=some (.bool x.b.s)∧w'.cell? ⟨w.heap.size+1,3,none⟩=some (.slice x.b.A x.b.l x.b.c)∧w'.cell? ⟨w.heap.size+1,4,none⟩=some (.bool x.b.s')∧w'.cell? ⟨w.heap.size+1,5,none⟩=some (.slice x.b.A' x.b.l' x.b.c')∧w'.cell? ⟨v4,0,none⟩=some (.bool false)∧w'.cell? ⟨v4,1,none⟩=some (.slice none 0 0)∧w'.cell? ⟨v4,2,none⟩=some (.bool false)∧w'.cell? ⟨v4,3,none⟩=some (.slice none 0 0)∧w'.cell? ⟨v6,0,none⟩=some (.bool v1.s)∧w'.cell? ⟨v6,1,none⟩=some (.slice v1.A v1.l v1.c)∧w'.cell? ⟨v6,2,none⟩=some (.bool v1.s')∧w'.cell? ⟨v6,3,none⟩=some (.slice v1.A' v1.l' v1.c')) (by kernel_rfl) (by kernel_rfl) ⟨p1_2,p1_3,p1_4,p1_5,p4_0,p4_1,p4_2,p4_3,p6_0,p6_1,p6_2,p6_3⟩ ?_
  refine zP rfl rfl (fun w'=>by go_simp<;>with_reducible rfl) ?_
  try simp only[uW,uX,uY,uZ]
  iterate 4 (refine zT rfl rfl (fun w' ⟨p1_2,p1_3,p1_4,p1_5,p4_0,p4_1,p4_2,p4_3,p6_0,p6_1,p6_2,p6_3⟩=>by go_simp<;>with_reducible rfl) ?_;try simp only[uW,uX,uY,uZ])
  refine zC 32 rfl rfl (fun K hK=>?_)
  go_simp
  have hz3:=sz_sub hsb (hv1).2
  with_reducible refine(sub_q (FrOk.below h2.b (zAa hB (zAa (b:=V2) Bz (by go_grown)))).r (NumIs.rr (NumIs.below hv1 (by go_grown))) (by omega) (zh (Tab.below hT.out (zAa hB (zAa (b:=V2) Bz (by go_grown)))))).mono ?_
  rintro e w2 ⟨s2,A2,c2,l2,s2r,A2r,c2r,l2r,rfl,h2,b2⟩
  replace b2:=zAa (a:=V2) (by go_grown) b2
  replace Bz:=zAa Bz b2
  clear b2
  clear p1_1 p1_2 p1_3 p1_4 p1_5 p2_0 p2_1 p2_2 p2_3 f2_0 f2_1 f2_2 f2_3 y2 p3_0 p3_1 p3_2 p3_3 f3_0 f3_1 f3_2 f3_3 y3 p4_0 p4_1 p4_2 p4_3 p6_0 p6_1 p6_2 p6_3
  obtain⟨-,-,p1_2,p1_3,p1_4,p1_5,-⟩:=(zx HX1 Bz).cz
  obtain⟨p2_0,p2_1,p2_2,p2_3,-⟩:=(zx HX2 Bz).cz
  have f2_0:=(zx HX2 Bz).frozen 0
  have f2_1:=(zx HX2 Bz).frozen 1
  have f2_2:=(zx HX2 Bz).frozen 2
  have f2_3:=(zx HX2 Bz).frozen 3
  have y2:=(zx HX2 Bz).lt
  obtain⟨p3_0,p3_1,p3_2,p3_3,-⟩:=(zx HX3 Bz).cz
  have f3_0:=(zx HX3 Bz).frozen 0
  have f3_1:=(zx HX3 Bz).frozen 1
  have f3_2:=(zx HX3 Bz).frozen 2
  have f3_3:=(zx HX3 Bz).frozen 3
  have y3:=(zx HX3 Bz).lt
  obtain⟨p4_0,p4_1,p4_2,p4_3,-⟩:=(zx HX4 Bz).cz
  obtain⟨p6_0,p6_1,p6_2,p6_3,-⟩:=(zx HX6 Bz).cz
  refine hK.out _ _ ⟨p1_2,p1_3,p1_4,p1_5,p4_0,p4_1,p4_2,p4_3,p6_0,p6_1,p6_2,p6_3⟩ (fun _=>?_)
  try simp only[uW,uX,uY,uZ]
  clear hK K
  refine zC 34 rfl rfl (fun K hK=>?_)
  go_simp
  have hz4:=sz_minQ hz3 (Nat.le_trans sz_zero (Nat.le_add_left 1 _))
  with_reducible refine(min_q (R.below h2.r (by go_grown)) (RN.zero _).r (by have:=sz_zero;omega) (zh (Tab.below hT.out (zAa hB (zAa (b:=w2) Bz (by go_grown)))))).mono ?_
  rintro e w3 ⟨s3,A3,c3,l3,s3r,A3r,c3r,l3r,rfl,h3,b3⟩
  replace b3:=zAa (a:=w2) (by go_grown) b3
  replace Bz:=zAa Bz b3
  clear b3
  clear p1_2 p1_3 p1_4 p1_5 p2_0 p2_1 p2_2 p2_3 f2_0 f2_1 f2_2 f2_3 y2 p3_0 p3_1 p3_2 p3_3 f3_0 f3_1 f3_2 f3_3 y3 p4_0 p4_1 p4_2 p4_3 p6_0 p6_1 p6_2 p6_3
  obtain⟨-,-,p1_2,p1_3,p1_4,p1_5,-⟩:=(zx HX1 Bz).cz
  obtain⟨p2_0,p2_1,p2_2,p2_3,-⟩:=(zx HX2 Bz).cz
  have f2_0:=(zx HX2 Bz).frozen 0
  have f2_1:=(zx HX2 Bz).frozen 1
  have f2_2:=(zx HX2 Bz).frozen 2
  have f2_3:=(zx HX2 Bz).frozen 3
  have y2:=(zx HX2 Bz).lt
  obtain⟨p3_0,p3_1,p3_2,p3_3,-⟩:=(zx HX3 Bz).cz
  have f3_0:=(zx HX3 Bz).frozen 0
  have f3_1:=(zx HX3 Bz).frozen 1
  have f3_2:=(zx HX3 Bz).frozen 2
  have f3_3:=(zx HX3 Bz).frozen 3
  have y3:=(zx HX3 Bz).lt
  obtain⟨p4_0,p4_1,p4_2,p4_3,-⟩:=(zx HX4 Bz).cz
  obtain⟨p6_0,p6_1,p6_2,p6_3,-⟩:=(zx HX6 Bz).cz
  refine hK.out _ _ ⟨p1_2,p1_3,p1_4,p1_5,p4_0,p4_1,p4_2,p4_3,p6_0,p6_1,p6_2,p6_3⟩ (fun _=>?_)
  try simp only[uW,uX,uY,uZ]
  clear hK K
  refine wpPlan_call (o:=⟨none,_,_,_,_,_⟩) rfl rfl (fun K hK=>?_)
  go_simp
  refine hK.out _ _ ⟨(zAf (by omega)).trans p1_2,(zAf (by omega)).trans p1_3,(zAf (by omega)).trans p1_4,(zAf (by omega)).trans p1_5,(zAf (by omega)).trans p4_0,(zAf (by omega)).trans p4_1,(zAf (by omega)).trans p4_2,(zAf (by omega)).trans p4_3,(zAf (by omega)).trans p6_0,(zAf (by omega)).trans p6_1,(zAf (by omega)).trans p6_2,(zAf (by omega)).trans p6_3⟩ (fun _=>?_)
  try simp only[Act.put,uX,uY,uZ]
  clear hK K
  refine wpPlan_late (o:=⟨none,_,_,_,_,_⟩) rfl rfl (by decide) (fun K hK=>?_)
  go_simp
  refine hK.out _ _ ?_
  try simp only[Act.put,uX,uY,uZ]
  clear hK K
  refine wpPlan_done ?_
  go_wp2_with fail
  have q2_0:w3.cell? ⟨w.heap.size+2,0,none⟩=some (.bool false):=p2_0
  have q2_1:w3.cell? ⟨w.heap.size+2,1,none⟩=some (.slice none 0 0):=p2_1
  have q2_2:w3.cell? ⟨w.heap.size+2,2,none⟩=some (.bool false):=p2_2
  have q2_3:w3.cell? ⟨w.heap.size+2,3,none⟩=some (.slice none 0 0):=p2_3
  have q3_0:w3.cell? ⟨w.heap.size+3,0,none⟩=some (.bool false):=p3_0
  have q3_1:w3.cell? ⟨w.heap.size+3,1,none⟩=some (.slice none 0 0):=p3_1
  have q3_2:w3.cell? ⟨w.heap.size+3,2,none⟩=some (.bool false):=p3_2
  have q3_3:w3.cell? ⟨w.heap.size+3,3,none⟩=some (.slice none 0 0):=p3_3
  (try simp only[Exit.inBlock,Exit.then])
  refine bodyPost_ret (by simp[results,Tryz.results56,go_sem,q2_0,q2_1,q2_2,q2_3,q3_0,q3_1,q3_2,q3_3];try rfl) rfl ?_
  obtain⟨V3,hW,x,kk,far,bel⟩:=store4 (.bool s3) (.slice A3 l3 c3) (.bool s3r) (.slice A3r l3r c3r) (zx HX2 Bz) nofun nofun nofun nofun
  rw[←hW]
  clear hW
  replace h3:=h3.k kk
  replace hB:=bel w.heap.size w (by omega) (zAa hB Bz)
  replace HX0:=zh (far _ _ _ (by omega) (zx HX0 Bz))
  replace HX1:=zh (far _ _ _ (by omega) (zx HX1 Bz))
  replace HX3:=zh (far _ _ _ (by omega) (zx HX3 Bz))
  replace HX4:=zh (far _ _ _ (by omega) (zx HX4 Bz))
  replace HX5:=zh (far _ _ _ (by omega) (zx HX5 Bz))
  replace HX6:=zh (far _ _ _ (by omega) (zx HX6 Bz))
  replace HX2:=zh x
  clear x kk far bel Bz
  have Bz:=Below.refl V3.heap.size V3
  obtain⟨V4,hW,x,kk,far,bel⟩:=store4 (.bool false) (.slice none 0 0) (.bool false) (.slice none 0 0) (zx HX3 Bz) nofun nofun nofun nofun
  rw[←hW]
  clear hW
  replace h3:=h3.k kk
  replace hB:=bel w.heap.size w (by omega) (zAa hB Bz)
  replace HX0:=zh (far _ _ _ (by omega) (zx HX0 Bz))
  replace HX1:=zh (far _ _ _ (by omega) (zx HX1 Bz))
  replace HX2:=zh (far _ _ _ (by omega) (zx HX2 Bz))
  replace HX4:=zh (far _ _ _ (by omega) (zx HX4 Bz))
  replace HX5:=zh (far _ _ _ (by omega) (zx HX5 Bz))
  replace HX6:=zh (far _ _ _ (by omega) (zx HX6 Bz))
  replace HX3:=zh x
  clear x kk far bel Bz
  have Bz:=Below.refl V4.heap.size V4
  have hF:=zAa (c:=V4) hB Bz
  exact⟨⟨s3,A3,c3,l3,s3r,A3r,c3r,l3r,minQ (x.b.q-spS maxQ (bnds p.V) (prs x.L)) 0,true⟩,zFr,rfl,⟨RN.below h3 (by go_grown),Nat.le_trans hz4 (by omega)⟩,⟨RN.zero _,Nat.le_trans sz_zero (by omega)⟩,zAa hF (by go_grown)⟩
 ·have g1:(x.kind==1)=false:=by simp[k1]
  have g2:(x.kind==3)=false:=by simp[k3]
  have e9:slackF p.V x=(0,0):=by unfold slackF;simp[k1,k3]
  rw[e9]
  clear e9 k1 k3
  obtain⟨W,hW,x0,x1,x2,x3,hB⟩:=boxes4 w #[.slice p.vA p.vn p.vc,.slice p.rA p.rn p.rc,.slice p.cA p.cn p.cc] 27 #[.slice x.A x.n x.c,.int .u8 x.kind,.bool x.b.s,.slice x.b.A x.b.l x.b.c,.bool x.b.s',.slice x.b.A' x.b.l' x.b.c'] 35 #[.bool false,.slice none 0 0,.bool false,.slice none 0 0] 33 #[.bool false,.slice none 0 0,.bool false,.slice none 0 0] 33
  have HX0:=zh x0
  have HX1:=zh x1
  have HX2:=zh x2
  have HX3:=zh x3
  clear x0 x1 x2 x3
  have Bz:=Below.refl W.heap.size W
  go_enter Tryz.func56,Tryz.ntmps56
  go_upto_region 1 with(fail)
  rw[←hW]
  clear hW
  go_upto_region 2 with(fail)
  obtain⟨V1,hW,x4,hN⟩:=zAc W #[.bool false,.slice none 0 0,.bool false,.slice none 0 0] 33
  rw[←hW]
  clear hW
  obtain⟨v4,hb4⟩:∃b,b=W.heap.size:=⟨_,rfl⟩
  rw[←hb4] at x4 ⊢
  have o0_4:w.heap.size<v4:=by have:=(zx HX0 Bz).lt;omega
  have o1_4:w.heap.size+1<v4:=by have:=(zx HX1 Bz).lt;omega
  have o2_4:w.heap.size+1+1<v4:=by have:=(zx HX2 Bz).lt;omega
  have o3_4:w.heap.size+1+1+1<v4:=by have:=(zx HX3 Bz).lt;omega
  have ow_4:w.heap.size≤v4:=by have:=zw hB Bz;omega
  replace hB:=zAa (zAa hB Bz) hN
  replace HX0:=zh ((zx HX0 Bz).below hN)
  replace HX1:=zh ((zx HX1 Bz).below hN)
  replace HX2:=zh ((zx HX2 Bz).below hN)
  replace HX3:=zh ((zx HX3 Bz).below hN)
  have HX4:=zh x4
  clear x4 hN Bz hb4
  have Bz:=Below.refl V1.heap.size V1
  obtain⟨p0_0,p0_1,p0_2,-⟩:=(zx HX0 Bz).cz
  have p1_0:=(zx HX1 Bz).cell 0 (.slice x.A x.n x.c) rfl
  go_wp2_with fail
  with_reducible refine(span_q (h.below (zAa hB (zAa (b:=V1) Bz (by go_grown)))) (h2.sl.below (zAa hB (zAa (b:=V1) Bz (by go_grown)))) (zh fun t k=>(h2.fr t k).below (zAa hB (zAa (b:=V1) Bz (by go_grown)))) hm h2.len hK (zh (Tab.below hT.out (zAa hB (zAa (b:=V1) Bz (by go_grown)))))).mono ?_
  rintro e w1 ⟨u1,v1,rfl,hu1,hv1,b1⟩
  replace b1:=zAa (a:=V1) (by go_grown) b1
  replace Bz:=zAa Bz b1
  clear hu1
  clear hv1
  clear b1
  clear p0_0 p0_1 p0_2 p1_0
  go_upto_region 3 with(fail)
  obtain⟨V2,hW,x5,x6,hN⟩:=boxes2 w1 #[.bool u1.s,.slice u1.A u1.l u1.c,.bool u1.s',.slice u1.A' u1.l' u1.c'] 33 #[.bool v1.s,.slice v1.A v1.l v1.c,.bool v1.s',.slice v1.A' v1.l' v1.c'] 33
  rw[←hW]
  clear hW
  obtain⟨v6,hb6⟩:∃b,b=w1.heap.size+1:=⟨_,rfl⟩
  rw[←hb6] at x6 ⊢
  obtain⟨v5,hb5⟩:∃b,b=w1.heap.size:=⟨_,rfl⟩
  rw[←hb5] at x5 ⊢
  have o0_5:w.heap.size<v5:=by have:=(zx HX0 Bz).lt;omega
  have o1_5:w.heap.size+1<v5:=by have:=(zx HX1 Bz).lt;omega
  have o2_5:w.heap.size+1+1<v5:=by have:=(zx HX2 Bz).lt;omega
  have o3_5:w.heap.size+1+1+1<v5:=by have:=(zx HX3 Bz).lt;omega
  have o4_5:v4<v5:=by have:=(zx HX4 Bz).lt;omega
  have ow_5:w.heap.size≤v5:=by have:=zw hB Bz;omega
  have o0_6:w.heap.size<v6:=by have:=(zx HX0 Bz).lt;omega
  have o1_6:w.heap.size+1<v6:=by have:=(zx HX1 Bz).lt;omega
  have o2_6:w.heap.size+1+1<v6:=by have:=(zx HX2 Bz).lt;omega
  have o3_6:w.heap.size+1+1+1<v6:=by have:=(zx HX3 Bz).lt;omega
  have o4_6:v4<v6:=by have:=(zx HX4 Bz).lt;omega
  have o5_6:v5<v6:=by omega
  have ow_6:w.heap.size≤v6:=by have:=zw hB Bz;omega
  replace hB:=zAa (zAa hB Bz) hN
  replace HX0:=zh ((zx HX0 Bz).below hN)
  replace HX1:=zh ((zx HX1 Bz).below hN)
  replace HX2:=zh ((zx HX2 Bz).below hN)
  replace HX3:=zh ((zx HX3 Bz).below hN)
  replace HX4:=zh ((zx HX4 Bz).below hN)
  have HX5:=zh x5
  have HX6:=zh x6
  clear x5 x6 hN Bz hb5 hb6
  have Bz:=Below.refl V2.heap.size V2
  have p1_1:=(zx HX1 Bz).cell 1 (.int .u8 x.kind) rfl
  obtain⟨p2_0,p2_1,p2_2,p2_3,-⟩:=(zx HX2 Bz).cz
  have f2_0:=(zx HX2 Bz).frozen 0
  have f2_1:=(zx HX2 Bz).frozen 1
  have f2_2:=(zx HX2 Bz).frozen 2
  have f2_3:=(zx HX2 Bz).frozen 3
  have y2:=(zx HX2 Bz).lt
  obtain⟨p3_0,p3_1,p3_2,p3_3,-⟩:=(zx HX3 Bz).cz
  have f3_0:=(zx HX3 Bz).frozen 0
  have f3_1:=(zx HX3 Bz).frozen 1
  have f3_2:=(zx HX3 Bz).frozen 2
  have f3_3:=(zx HX3 Bz).frozen 3
  have y3:=(zx HX3 Bz).lt
  obtain⟨p4_0,p4_1,p4_2,p4_3,-⟩:=(zx HX4 Bz).cz
  go_wp2_with fail
  (try simp only[List.append_eq,List.cons_append,List.nil_append])
  refine wp_region_plan (.take 0 (.take 1 (.only 2 (.only 3 .done)))) [3] (fun w'=>w'.cell? ⟨v4,0,none⟩=some (.bool false)∧w'.cell? ⟨v4,1,none⟩=some (.slice none 0 0)∧w'.cell? ⟨v4,2,none⟩=some (.bool false)∧w'.cell? ⟨v4,3,none⟩=some (.slice none 0 0)) (by kernel_rfl) (by kernel_rfl) ⟨p4_0,p4_1,p4_2,p4_3⟩ ?_
  iterate 2 (refine zT rfl rfl (fun w' ⟨p4_0,p4_1,p4_2,p4_3⟩=>by go_simp<;>with_reducible rfl) ?_;try simp only[uW,uX,uY,uZ])
  refine wpPlan_call (o:=⟨none,_,_,_,_,_⟩) rfl rfl (fun K hK=>?_)
  go_simp
  refine hK.out _ _ ⟨(zAf (by omega)).trans p4_0,(zAf (by omega)).trans p4_1,(zAf (by omega)).trans p4_2,(zAf (by omega)).trans p4_3⟩ (fun _=>?_)
  try simp only[Act.put,uX,uY,uZ]
  clear hK K
  refine wpPlan_late (o:=⟨none,_,_,_,_,_⟩) rfl rfl (by decide) (fun K hK=>?_)
  go_simp
  refine hK.out _ _ ?_
  try simp only[Act.put,uX,uY,uZ]
  clear hK K
  refine wpPlan_done ?_
  go_wp2_with fail
  have q2_0:V2.cell? ⟨w.heap.size+2,0,none⟩=some (.bool false):=p2_0
  have q2_1:V2.cell? ⟨w.heap.size+2,1,none⟩=some (.slice none 0 0):=p2_1
  have q2_2:V2.cell? ⟨w.heap.size+2,2,none⟩=some (.bool false):=p2_2
  have q2_3:V2.cell? ⟨w.heap.size+2,3,none⟩=some (.slice none 0 0):=p2_3
  have q3_0:V2.cell? ⟨w.heap.size+3,0,none⟩=some (.bool false):=p3_0
  have q3_1:V2.cell? ⟨w.heap.size+3,1,none⟩=some (.slice none 0 0):=p3_1
  have q3_2:V2.cell? ⟨w.heap.size+3,2,none⟩=some (.bool false):=p3_2
  have q3_3:V2.cell? ⟨w.heap.size+3,3,none⟩=some (.slice none 0 0):=p3_3
  (try simp only[Exit.inBlock,Exit.then])
  refine bodyPost_ret (by simp[results,Tryz.results56,go_sem,q2_0,q2_1,q2_2,q2_3,q3_0,q3_1,q3_2,q3_3];try rfl) rfl ?_
  obtain⟨V3,hW,x,kk,far,bel⟩:=store4 (.bool false) (.slice none 0 0) (.bool false) (.slice none 0 0) (zx HX2 Bz) nofun nofun nofun nofun
  rw[←hW]
  clear hW
  replace hB:=bel w.heap.size w (by omega) (zAa hB Bz)
  replace HX0:=zh (far _ _ _ (by omega) (zx HX0 Bz))
  replace HX1:=zh (far _ _ _ (by omega) (zx HX1 Bz))
  replace HX3:=zh (far _ _ _ (by omega) (zx HX3 Bz))
  replace HX4:=zh (far _ _ _ (by omega) (zx HX4 Bz))
  replace HX5:=zh (far _ _ _ (by omega) (zx HX5 Bz))
  replace HX6:=zh (far _ _ _ (by omega) (zx HX6 Bz))
  replace HX2:=zh x
  clear x kk far bel Bz
  have Bz:=Below.refl V3.heap.size V3
  obtain⟨V4,hW,x,kk,far,bel⟩:=store4 (.bool false) (.slice none 0 0) (.bool false) (.slice none 0 0) (zx HX3 Bz) nofun nofun nofun nofun
  rw[←hW]
  clear hW
  replace hB:=bel w.heap.size w (by omega) (zAa hB Bz)
  replace HX0:=zh (far _ _ _ (by omega) (zx HX0 Bz))
  replace HX1:=zh (far _ _ _ (by omega) (zx HX1 Bz))
  replace HX2:=zh (far _ _ _ (by omega) (zx HX2 Bz))
  replace HX4:=zh (far _ _ _ (by omega) (zx HX4 Bz))
  replace HX5:=zh (far _ _ _ (by omega) (zx HX5 Bz))
  replace HX6:=zh (far _ _ _ (by omega) (zx HX6 Bz))
  replace HX3:=zh x
  clear x kk far bel Bz
  have Bz:=Below.refl V4.heap.size V4
  have hF:=zAa (c:=V4) hB Bz
  exact⟨zFr,zFr,rfl,⟨RN.zero _,Nat.le_trans sz_zero (by omega)⟩,⟨RN.zero _,Nat.le_trans sz_zero (by omega)⟩,zAa hF (by go_grown)⟩
end Go.Proofs.YtjkgjiofmgapfaaGreatDoor
