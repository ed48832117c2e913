/-
  ratio.Sub. Written by wip/gen/rats.py.
-/
import Derived.Test.YtjkgjiofmgapfaaGreatDoorYWG
set_option maxHeartbeats 4000000
set_option maxRecDepth 100000
namespace Go.Proofs.YtjkgjiofmgapfaaGreatDoor
open Go.RowKit Tw
section
variable {w:World} {s s' t t':Bool} {A A' B B':Option Addr} {c c' l l' e e' k k':Nat}
theorem sub_1 {n d:Int} (h:I w s A c l n) (h':I w s' A' c' l' d) (hl:l+l'≤800000000000) :
  Calls Tryz.prog 74 #[.agg #[.bool s,.slice A l c],.agg #[.bool s',.slice A' l' c']] w (TellsZ w (n-d) (max l l'+1)):=by
 obtain⟨W,hW,x0,x1,x2,hB⟩:=boxes3 w #[.bool s,.slice A l c] 31 #[.bool s',.slice A' l' c'] 31 #[.bool false,.slice none 0 0] 31
 replace h':=h'.below hB
 replace h:=h.below hB
 have HX0:=zh x0
 have HX1:=zh x1
 have HX2:=zh x2
 clear x0 x1 x2
 have Bz:=Below.refl W.heap.size W
 obtain⟨p0_0,p0_1,-⟩:=(zx HX0 Bz).cz
 obtain⟨p1_0,p1_1,-⟩:=(zx HX1 Bz).cz
 go_enter Tryz.func74,Tryz.ntmps74
 go_wp2_with fail
 rw[←hW]
 clear hW
 go_wp2_with fail
 with_reducible refine(sub_z (I.below h (by go_grown)) (I.below h' (by go_grown)) (by omega)).mono ?_
 rintro e w1 ⟨s1,A1,c1,l1,rfl,h1,m1,b1⟩
 replace b1:=zAa (a:=W) (by go_grown) b1
 replace Bz:=zAa Bz b1
 clear b1
 clear p0_0 p0_1 p1_0 p1_1
 obtain⟨p2_0,p2_1,-⟩:=(zx HX2 Bz).cz
 have f2_0:=(zx HX2 Bz).frozen 0
 have f2_1:=(zx HX2 Bz).frozen 1
 have y2:=(zx HX2 Bz).lt
 go_wp2_with fail
 have q2_0:w1.cell? ⟨w.heap.size+2,0,none⟩=some (.bool false):=p2_0
 have q2_1:w1.cell? ⟨w.heap.size+2,1,none⟩=some (.slice none 0 0):=p2_1
 (try simp only[Exit.inBlock,Exit.then])
 refine bodyPost_ret (by simp[results,Tryz.results74,go_sem,q2_0,q2_1];try rfl) rfl ?_
 obtain⟨V1,hW,x,kk,far,bel⟩:=store2 (.bool s1) (.slice A1 l1 c1) (zx HX2 Bz) nofun nofun
 rw[←hW]
 clear hW
 replace h1:=h1.k kk
 replace hB:=bel w.heap.size w (by omega) (zAa hB Bz)
 replace HX0:=zh (far _ _ _ (by omega) (zx HX0 Bz))
 replace HX1:=zh (far _ _ _ (by omega) (zx HX1 Bz))
 replace HX2:=zh x
 clear x kk far bel Bz
 have Bz:=Below.refl V1.heap.size V1
 have hF:=zAa (c:=V1) hB Bz
 exact⟨s1,A1,c1,l1,rfl,(J.below h1 (by go_grown)),by omega,zAa hF (by go_grown)⟩
theorem sub_both1 (g1:((l':Int)==0)=true) (g2:((e':Int)==0)=true) {n n':Int} (hn:I w s A c l n) (hn':I w t B k e n') (hl:l+e≤40000000000) {q:Rat} (HQ:Hid (qof (n-n') 1=q)) (_hT:Hid (Tab w)) :
  Calls Tryz.prog 66 #[.agg #[.bool s,.slice A l c,.bool s',.slice A' l' c'],.agg #[.bool t,.slice B e k,.bool t',.slice B' e' k'],.func (.func 74) #[] #[]] w (TellsR w q):=by
 obtain⟨W,hW,x0,x1,x2,hB⟩:=boxes3 w #[.bool s,.slice A l c,.bool s',.slice A' l' c'] 33 #[.bool t,.slice B e k,.bool t',.slice B' e' k'] 33 #[.bool false,.slice none 0 0,.bool false,.slice none 0 0] 33
 replace hn:=hn.below hB
 replace hn':=hn'.below hB
 have HX0:=zh x0
 have HX1:=zh x1
 have HX2:=zh x2
 clear x0 x1 x2
 have Bz:=Below.refl W.heap.size W
 obtain⟨p0_0,p0_1,-,p0_3,-⟩:=(zx HX0 Bz).cz
 obtain⟨p1_0,p1_1,-,p1_3,-⟩:=(zx HX1 Bz).cz
 go_enter Tryz.func66,Tryz.ntmps66
 go_wp2_with fail
 rw[←hW]
 clear hW
 go_wp2_with fail
 with_reducible refine(sub_1 (I.below hn (by go_grown)) (I.below hn' (by go_grown)) (by omega)).mono ?_
 rintro e w1 ⟨s1,A1,c1,l1,rfl,h1,m1,b1⟩
 replace b1:=zAa (a:=W) (by go_grown) b1
 replace Bz:=zAa Bz b1
 clear b1
 clear p0_0 p0_1 p0_3 p1_0 p1_1 p1_3
 go_wp2_with fail
 with_reducible refine(whole_q (I.below h1.i (by go_grown)) (by omega)).mono ?_
 rintro e w2 ⟨s2,A2,c2,l2,s2r,A2r,c2r,l2r,rfl,h2,b2⟩
 replace b2:=zAa (a:=w1) (by go_grown) b2
 replace Bz:=zAa Bz b2
 clear b2
 obtain⟨p2_0,p2_1,p2_2,p2_3,-⟩:=(zx HX2 Bz).cz
 have f2_0:=(zx HX2 Bz).frozen 0
 have f2_1:=(zx HX2 Bz).frozen 1
 have f2_2:=(zx HX2 Bz).frozen 2
 have f2_3:=(zx HX2 Bz).frozen 3
 have y2:=(zx HX2 Bz).lt
 go_wp2_with fail
 have q2_0:w2.cell? ⟨w.heap.size+2,0,none⟩=some (.bool false):=p2_0
 have q2_1:w2.cell? ⟨w.heap.size+2,1,none⟩=some (.slice none 0 0):=p2_1
 have q2_2:w2.cell? ⟨w.heap.size+2,2,none⟩=some (.bool false):=p2_2
 have q2_3:w2.cell? ⟨w.heap.size+2,3,none⟩=some (.slice none 0 0):=p2_3
 (try simp only[Exit.inBlock,Exit.then])
 refine bodyPost_ret (by simp[results,Tryz.results66,go_sem,q2_0,q2_1,q2_2,q2_3];try rfl) rfl ?_
 obtain⟨V1,hW,x,kk,far,bel⟩:=store4 (.bool s2) (.slice A2 l2 c2) (.bool s2r) (.slice A2r l2r c2r) (zx HX2 Bz) nofun nofun nofun nofun
 rw[←hW]
 clear hW
 replace h2:=h2.k kk
 replace hB:=bel w.heap.size w (by omega) (zAa hB Bz)
 replace HX0:=zh (far _ _ _ (by omega) (zx HX0 Bz))
 replace HX1:=zh (far _ _ _ (by omega) (zx HX1 Bz))
 replace HX2:=zh x
 clear x kk far bel Bz
 have Bz:=Below.refl V1.heap.size V1
 have hF:=zAa (c:=V1) hB Bz
 exact⟨s2,A2,c2,l2,s2r,A2r,c2r,l2r,rfl,by rw[←HQ.out];exact(RN.below h2 (by go_grown)),zAa hF (by go_grown)⟩
theorem sub_both2 (g1:((l':Int)==0)=true) (g2:((e':Int)==0)=false) {q r:Rat} {m m':Nat} (h:R w s A c l s' A' c' l' q m) (h':R w t B k e t' B' k' e' r m') (hm:m+m'≤40000000000) (hT:Hid (Tab w)) :
  Calls Tryz.prog 66 #[.agg #[.bool s,.slice A l c,.bool s',.slice A' l' c'],.agg #[.bool t,.slice B e k,.bool t',.slice B' e' k'],.func (.func 74) #[] #[]] w (TellsR w (q-r)):=by
 obtain⟨W,hW,x0,x1,x2,hB⟩:=boxes3 w #[.bool s,.slice A l c,.bool s',.slice A' l' c'] 33 #[.bool t,.slice B e k,.bool t',.slice B' e' k'] 33 #[.bool false,.slice none 0 0,.bool false,.slice none 0 0] 33
 replace h:=h.below hB
 replace h':=h'.below hB
 have HX0:=zh x0
 have HX1:=zh x1
 have HX2:=zh x2
 clear x0 x1 x2
 have Bz:=Below.refl W.heap.size W
 obtain⟨p0_0,p0_1,p0_2,p0_3,-⟩:=(zx HX0 Bz).cz
 have p1_3:=(zx HX1 Bz).cell 3 (.slice B' e' k') rfl
 go_enter Tryz.func66,Tryz.ntmps66
 go_wp2_with fail
 rw[←hW]
 clear hW
 go_wp2_with fail
 with_reducible refine(parts_q (R.below h (by go_grown)) (by omega)).mono ?_
 rintro e w1 ⟨n1,d1,s1,A1,c1,l1,s1r,A1r,c1r,l1r,rfl,h1,h1r,e1,q1,m1,m1r,b1⟩
 replace b1:=zAa (a:=W) (by go_grown) b1
 replace h':=h'.below b1
 replace Bz:=zAa Bz b1
 clear b1
 clear p0_0 p0_1 p0_2 p0_3 p1_3
 go_upto_region 4 with(fail)
 obtain⟨V1,hW,x3,x4,hN⟩:=boxes2 w1 #[.bool s1,.slice A1 l1 c1] 31 #[.bool s1r,.slice A1r l1r c1r] 31
 rw[←hW]
 clear hW
 obtain⟨v4,hb4⟩:∃b,b=w1.heap.size+1:=⟨_,rfl⟩
 rw[←hb4] at x4 ⊢
 obtain⟨v3,hb3⟩:∃b,b=w1.heap.size:=⟨_,rfl⟩
 rw[←hb3] at x3 ⊢
 have o0_3:w.heap.size<v3:=by have:=(zx HX0 Bz).lt;omega
 have o1_3:w.heap.size+1<v3:=by have:=(zx HX1 Bz).lt;omega
 have o2_3:w.heap.size+1+1<v3:=by have:=(zx HX2 Bz).lt;omega
 have ow_3:w.heap.size≤v3:=by have:=zw hB Bz;omega
 have o0_4:w.heap.size<v4:=by have:=(zx HX0 Bz).lt;omega
 have o1_4:w.heap.size+1<v4:=by have:=(zx HX1 Bz).lt;omega
 have o2_4:w.heap.size+1+1<v4:=by have:=(zx HX2 Bz).lt;omega
 have o3_4:v3<v4:=by omega
 have ow_4:w.heap.size≤v4:=by have:=zw hB Bz;omega
 replace h1:=h1.below hN
 replace h1r:=h1r.below hN
 replace h':=h'.below hN
 replace hB:=zAa (zAa hB Bz) hN
 replace HX0:=zh ((zx HX0 Bz).below hN)
 replace HX1:=zh ((zx HX1 Bz).below hN)
 replace HX2:=zh ((zx HX2 Bz).below hN)
 have HX3:=zh x3
 have HX4:=zh x4
 clear x3 x4 hN Bz hb3 hb4
 have Bz:=Below.refl V1.heap.size V1
 obtain⟨p1_0,p1_1,p1_2,p1_3,-⟩:=(zx HX1 Bz).cz
 go_wp2_with fail
 with_reducible refine(parts_q (R.below h' (by go_grown)) (by omega)).mono ?_
 rintro e w2 ⟨n2,d2,s2,A2,c2,l2,s2r,A2r,c2r,l2r,rfl,h2,h2r,e2,q2,m2,m2r,b2⟩
 replace b2:=zAa (a:=V1) (by go_grown) b2
 replace h1:=h1.below b2
 replace h1r:=h1r.below b2
 replace Bz:=zAa Bz b2
 clear b2
 clear p1_0 p1_1 p1_2 p1_3
 go_upto_region 5 with(fail)
 obtain⟨V2,hW,x5,x6,hN⟩:=boxes2 w2 #[.bool s2,.slice A2 l2 c2] 31 #[.bool s2r,.slice A2r l2r c2r] 31
 rw[←hW]
 clear hW
 obtain⟨v6,hb6⟩:∃b,b=w2.heap.size+1:=⟨_,rfl⟩
 rw[←hb6] at x6 ⊢
 obtain⟨v5,hb5⟩:∃b,b=w2.heap.size:=⟨_,rfl⟩
 rw[←hb5] at x5 ⊢
 have o0_5:w.heap.size<v5:=by have:=(zx HX0 Bz).lt;omega
 have o1_5:w.heap.size+1<v5:=by have:=(zx HX1 Bz).lt;omega
 have o2_5:w.heap.size+1+1<v5:=by have:=(zx HX2 Bz).lt;omega
 have o3_5:v3<v5:=by have:=(zx HX3 Bz).lt;omega
 have o4_5:v4<v5:=by have:=(zx HX4 Bz).lt;omega
 have ow_5:w.heap.size≤v5:=by have:=zw hB Bz;omega
 have o0_6:w.heap.size<v6:=by have:=(zx HX0 Bz).lt;omega
 have o1_6:w.heap.size+1<v6:=by have:=(zx HX1 Bz).lt;omega
 have o2_6:w.heap.size+1+1<v6:=by have:=(zx HX2 Bz).lt;omega
 have o3_6:v3<v6:=by have:=(zx HX3 Bz).lt;omega
 have o4_6:v4<v6:=by have:=(zx HX4 Bz).lt;omega
 have o5_6:v5<v6:=by omega
 have ow_6:w.heap.size≤v6:=by have:=zw hB Bz;omega
 replace h1:=h1.below hN
 replace h1r:=h1r.below hN
 replace h2:=h2.below hN
 replace h2r:=h2r.below hN
 replace hB:=zAa (zAa hB Bz) hN
 replace HX0:=zh ((zx HX0 Bz).below hN)
 replace HX1:=zh ((zx HX1 Bz).below hN)
 replace HX2:=zh ((zx HX2 Bz).below hN)
 replace HX3:=zh ((zx HX3 Bz).below hN)
 replace HX4:=zh ((zx HX4 Bz).below hN)
 have HX5:=zh x5
 have HX6:=zh x6
 clear x5 x6 hN Bz hb5 hb6
 have Bz:=Below.refl V2.heap.size V2
 obtain⟨p2_0,p2_1,p2_2,p2_3,-⟩:=(zx HX2 Bz).cz
 have f2_0:=(zx HX2 Bz).frozen 0
 have f2_1:=(zx HX2 Bz).frozen 1
 have f2_2:=(zx HX2 Bz).frozen 2
 have f2_3:=(zx HX2 Bz).frozen 3
 have y2:=(zx HX2 Bz).lt
 obtain⟨p3_0,p3_1,-⟩:=(zx HX3 Bz).cz
 obtain⟨p4_0,p4_1,-⟩:=(zx HX4 Bz).cz
 obtain⟨p5_0,p5_1,-⟩:=(zx HX5 Bz).cz
 obtain⟨p6_0,p6_1,-⟩:=(zx HX6 Bz).cz
 go_wp2_with fail
 (try simp only[List.append_eq,List.cons_append,List.nil_append])
 refine wp_region_plan (.pure 0 (.take 1 (.take 2 (.take 4 (.take 5 (.take 8 (.take 9 (.only 3 (.only 6 (.only 7 (.only 10 (.only 11 (.only 12 .done))))))))))))) [12] (fun w'=>w'.cell? ⟨v3,0,none⟩=some (.bool s1)∧w'.cell? ⟨v3,1,none⟩=some (.slice A1 l1 c1)∧w'.cell? ⟨v4,0,none⟩=some (.bool s1r)∧w'.cell? ⟨v4,1,none⟩=some (.slice A1r l1r c1r)∧w'.cell? ⟨v5,0,none⟩=some (.bool s2)∧w'.cell? ⟨v5,1,none⟩=some (.slice A2 l2 c2)∧w'.cell? ⟨v6,0,none⟩=some (.bool s2r)∧w'.cell? ⟨v6,1,none⟩=some (.slice A2r l2r c2r)) (by kernel_rfl) (by kernel_rfl) ⟨p3_0,p3_1,p4_0,p4_1,p5_0,p5_1,p6_0,p6_1⟩ ?_
 refine zP rfl rfl (fun w'=>by go_simp<;>with_reducible rfl) ?_
 try simp only[Act.put,uX,uY,uZ]
 iterate 6 (refine zT rfl rfl (fun w' ⟨p3_0,p3_1,p4_0,p4_1,p5_0,p5_1,p6_0,p6_1⟩=>by go_simp<;>with_reducible rfl) ?_;try simp only[Act.put,uX,uY,uZ])
 refine zC 43 rfl rfl (fun K hK=>?_)
 go_simp
 with_reducible refine(mul_z (I.below h1 (by go_grown)) (I.below h2r (by go_grown)) (by omega)).mono ?_
 rintro e w3 ⟨s3,A3,c3,l3,rfl,h3,m3,b3⟩
 replace b3:=zAa (a:=V2) (by go_grown) b3
 replace h1r:=h1r.below b3
 replace h2:=h2.below b3
 replace h2r:=h2r.below b3
 replace Bz:=zAa Bz b3
 clear b3
 clear p2_0 p2_1 p2_2 p2_3 f2_0 f2_1 f2_2 f2_3 y2 p3_0 p3_1 p4_0 p4_1 p5_0 p5_1 p6_0 p6_1
 obtain⟨p2_0,p2_1,p2_2,p2_3,-⟩:=(zx HX2 Bz).cz
 have f2_0:=(zx HX2 Bz).frozen 0
 have f2_1:=(zx HX2 Bz).frozen 1
 have f2_2:=(zx HX2 Bz).frozen 2
 have f2_3:=(zx HX2 Bz).frozen 3
 have y2:=(zx HX2 Bz).lt
 obtain⟨p3_0,p3_1,-⟩:=(zx HX3 Bz).cz
 obtain⟨p4_0,p4_1,-⟩:=(zx HX4 Bz).cz
 obtain⟨p5_0,p5_1,-⟩:=(zx HX5 Bz).cz
 obtain⟨p6_0,p6_1,-⟩:=(zx HX6 Bz).cz
 refine hK.out _ _ ⟨p3_0,p3_1,p4_0,p4_1,p5_0,p5_1,p6_0,p6_1⟩ (fun _=>?_)
 try simp only[Act.put,uX,uY,uZ]
 clear hK K
 refine zC 46 rfl rfl (fun K hK=>?_)
 go_simp
 with_reducible refine(mul_z (I.below h2 (by go_grown)) (I.below h1r (by go_grown)) (by omega)).mono ?_
 rintro e w4 ⟨s4,A4,c4,l4,rfl,h4,m4,b4⟩
 replace b4:=zAa (a:=w3) (by go_grown) b4
 replace h1r:=h1r.below b4
 replace h2r:=h2r.below b4
 replace h3:=h3.below b4
 replace Bz:=zAa Bz b4
 clear b4
 clear p2_0 p2_1 p2_2 p2_3 f2_0 f2_1 f2_2 f2_3 y2 p3_0 p3_1 p4_0 p4_1 p5_0 p5_1 p6_0 p6_1
 obtain⟨p2_0,p2_1,p2_2,p2_3,-⟩:=(zx HX2 Bz).cz
 have f2_0:=(zx HX2 Bz).frozen 0
 have f2_1:=(zx HX2 Bz).frozen 1
 have f2_2:=(zx HX2 Bz).frozen 2
 have f2_3:=(zx HX2 Bz).frozen 3
 have y2:=(zx HX2 Bz).lt
 obtain⟨p3_0,p3_1,-⟩:=(zx HX3 Bz).cz
 obtain⟨p4_0,p4_1,-⟩:=(zx HX4 Bz).cz
 obtain⟨p5_0,p5_1,-⟩:=(zx HX5 Bz).cz
 obtain⟨p6_0,p6_1,-⟩:=(zx HX6 Bz).cz
 refine hK.out _ _ ⟨p3_0,p3_1,p4_0,p4_1,p5_0,p5_1,p6_0,p6_1⟩ (fun _=>?_)
 try simp only[Act.put,uX,uY,uZ]
 clear hK K
 refine zC 47 rfl rfl (fun K hK=>?_)
 go_simp
 with_reducible refine(sub_1 (I.below h3.i (by go_grown)) (I.below h4.i (by go_grown)) (by omega)).mono ?_
 rintro e w5 ⟨s5,A5,c5,l5,rfl,h5,m5,b5⟩
 replace b5:=zAa (a:=w4) (by go_grown) b5
 replace h1r:=h1r.below b5
 replace h2r:=h2r.below b5
 replace Bz:=zAa Bz b5
 clear b5
 clear p2_0 p2_1 p2_2 p2_3 f2_0 f2_1 f2_2 f2_3 y2 p3_0 p3_1 p4_0 p4_1 p5_0 p5_1 p6_0 p6_1
 obtain⟨p2_0,p2_1,p2_2,p2_3,-⟩:=(zx HX2 Bz).cz
 have f2_0:=(zx HX2 Bz).frozen 0
 have f2_1:=(zx HX2 Bz).frozen 1
 have f2_2:=(zx HX2 Bz).frozen 2
 have f2_3:=(zx HX2 Bz).frozen 3
 have y2:=(zx HX2 Bz).lt
 obtain⟨p3_0,p3_1,-⟩:=(zx HX3 Bz).cz
 obtain⟨p4_0,p4_1,-⟩:=(zx HX4 Bz).cz
 obtain⟨p5_0,p5_1,-⟩:=(zx HX5 Bz).cz
 obtain⟨p6_0,p6_1,-⟩:=(zx HX6 Bz).cz
 refine hK.out _ _ ⟨p3_0,p3_1,p4_0,p4_1,p5_0,p5_1,p6_0,p6_1⟩ (fun _=>?_)
 try simp only[Act.put,uX,uY,uZ]
 clear hK K
 refine zC 50 rfl rfl (fun K hK=>?_)
 go_simp
 with_reducible refine(mul_z (I.below h1r (by go_grown)) (I.below h2r (by go_grown)) (by omega)).mono ?_
 rintro e w6 ⟨s6,A6,c6,l6,rfl,h6,m6,b6⟩
 replace b6:=zAa (a:=w5) (by go_grown) b6
 replace h5:=h5.below b6
 replace Bz:=zAa Bz b6
 clear b6
 clear p2_0 p2_1 p2_2 p2_3 f2_0 f2_1 f2_2 f2_3 y2 p3_0 p3_1 p4_0 p4_1 p5_0 p5_1 p6_0 p6_1
 obtain⟨p2_0,p2_1,p2_2,p2_3,-⟩:=(zx HX2 Bz).cz
 have f2_0:=(zx HX2 Bz).frozen 0
 have f2_1:=(zx HX2 Bz).frozen 1
 have f2_2:=(zx HX2 Bz).frozen 2
 have f2_3:=(zx HX2 Bz).frozen 3
 have y2:=(zx HX2 Bz).lt
 obtain⟨p3_0,p3_1,-⟩:=(zx HX3 Bz).cz
 obtain⟨p4_0,p4_1,-⟩:=(zx HX4 Bz).cz
 obtain⟨p5_0,p5_1,-⟩:=(zx HX5 Bz).cz
 obtain⟨p6_0,p6_1,-⟩:=(zx HX6 Bz).cz
 refine hK.out _ _ ⟨p3_0,p3_1,p4_0,p4_1,p5_0,p5_1,p6_0,p6_1⟩ (fun _=>?_)
 try simp only[Act.put,uX,uY,uZ]
 clear hK K
 refine zC 51 rfl rfl (fun K hK=>?_)
 go_simp
 with_reducible refine(lowest_q (I.below h5.i (by go_grown)) (I.below h6.i (by go_grown)) (by omega) (Int.mul_pos e1 e2) (zh (Tab.below hT.out (zAa hB (zAa (b:=w6) Bz (by go_grown)))))).mono ?_
 rintro e w7 ⟨s7,A7,c7,l7,s7r,A7r,c7r,l7r,rfl,h7,b7⟩
 replace b7:=zAa (a:=w6) (by go_grown) b7
 replace Bz:=zAa Bz b7
 clear b7
 have m7:=h7.len
 clear p2_0 p2_1 p2_2 p2_3 f2_0 f2_1 f2_2 f2_3 y2 p3_0 p3_1 p4_0 p4_1 p5_0 p5_1 p6_0 p6_1
 obtain⟨p2_0,p2_1,p2_2,p2_3,-⟩:=(zx HX2 Bz).cz
 have f2_0:=(zx HX2 Bz).frozen 0
 have f2_1:=(zx HX2 Bz).frozen 1
 have f2_2:=(zx HX2 Bz).frozen 2
 have f2_3:=(zx HX2 Bz).frozen 3
 have y2:=(zx HX2 Bz).lt
 obtain⟨p3_0,p3_1,-⟩:=(zx HX3 Bz).cz
 obtain⟨p4_0,p4_1,-⟩:=(zx HX4 Bz).cz
 obtain⟨p5_0,p5_1,-⟩:=(zx HX5 Bz).cz
 obtain⟨p6_0,p6_1,-⟩:=(zx HX6 Bz).cz
 refine hK.out _ _ ⟨p3_0,p3_1,p4_0,p4_1,p5_0,p5_1,p6_0,p6_1⟩ (fun _=>?_)
 try simp only[Act.put,uX,uY,uZ]
 clear hK K
 refine wpPlan_late (o:=⟨none,_,_,_,_,_⟩) rfl rfl (by decide) (fun K hK=>?_)
 go_simp
 refine hK.out _ _ ?_
 try simp only[Act.put,uX,uY,uZ]
 clear hK K
 refine wpPlan_done ?_
 go_wp2_with fail
 have q2_0:w7.cell? ⟨w.heap.size+2,0,none⟩=some (.bool false):=p2_0
 have q2_1:w7.cell? ⟨w.heap.size+2,1,none⟩=some (.slice none 0 0):=p2_1
 have q2_2:w7.cell? ⟨w.heap.size+2,2,none⟩=some (.bool false):=p2_2
 have q2_3:w7.cell? ⟨w.heap.size+2,3,none⟩=some (.slice none 0 0):=p2_3
 (try simp only[Exit.inBlock,Exit.then])
 refine bodyPost_ret (by simp[results,Tryz.results66,go_sem,q2_0,q2_1,q2_2,q2_3];try rfl) rfl ?_
 obtain⟨V3,hW,x,kk,far,bel⟩:=store4 (.bool s7) (.slice A7 l7 c7) (.bool s7r) (.slice A7r l7r c7r) (zx HX2 Bz) nofun nofun nofun nofun
 rw[←hW]
 clear hW
 replace h7:=h7.k kk
 replace hB:=bel w.heap.size w (by omega) (zAa hB Bz)
 replace HX0:=zh (far _ _ _ (by omega) (zx HX0 Bz))
 replace HX1:=zh (far _ _ _ (by omega) (zx HX1 Bz))
 replace HX3:=zh (far _ _ _ (by omega) (zx HX3 Bz))
 replace HX4:=zh (far _ _ _ (by omega) (zx HX4 Bz))
 replace HX5:=zh (far _ _ _ (by omega) (zx HX5 Bz))
 replace HX6:=zh (far _ _ _ (by omega) (zx HX6 Bz))
 replace HX2:=zh x
 clear x kk far bel Bz
 have Bz:=Below.refl V3.heap.size V3
 have hF:=zAa (c:=V3) hB Bz
 exact⟨s7,A7,c7,l7,s7r,A7r,c7r,l7r,rfl,by rw[←q1,←q2,←qof_sub (by omega) (by omega)];exact(RN.below h7 (by go_grown)),zAa hF (by go_grown)⟩
theorem sub_both3 (g1:((l':Int)==0)=false) {q r:Rat} {m m':Nat} (h:R w s A c l s' A' c' l' q m) (h':R w t B k e t' B' k' e' r m') (hm:m+m'≤40000000000) (hT:Hid (Tab w)) :
  Calls Tryz.prog 66 #[.agg #[.bool s,.slice A l c,.bool s',.slice A' l' c'],.agg #[.bool t,.slice B e k,.bool t',.slice B' e' k'],.func (.func 74) #[] #[]] w (TellsR w (q-r)):=by
 obtain⟨W,hW,x0,x1,x2,hB⟩:=boxes3 w #[.bool s,.slice A l c,.bool s',.slice A' l' c'] 33 #[.bool t,.slice B e k,.bool t',.slice B' e' k'] 33 #[.bool false,.slice none 0 0,.bool false,.slice none 0 0] 33
 replace h:=h.below hB
 replace h':=h'.below hB
 have HX0:=zh x0
 have HX1:=zh x1
 have HX2:=zh x2
 clear x0 x1 x2
 have Bz:=Below.refl W.heap.size W
 obtain⟨p0_0,p0_1,p0_2,p0_3,-⟩:=(zx HX0 Bz).cz
 go_enter Tryz.func66,Tryz.ntmps66
 go_wp2_with fail
 rw[←hW]
 clear hW
 go_wp2_with fail
 with_reducible refine(parts_q (R.below h (by go_grown)) (by omega)).mono ?_
 rintro e w1 ⟨n1,d1,s1,A1,c1,l1,s1r,A1r,c1r,l1r,rfl,h1,h1r,e1,q1,m1,m1r,b1⟩
 replace b1:=zAa (a:=W) (by go_grown) b1
 replace h':=h'.below b1
 replace Bz:=zAa Bz b1
 clear b1
 clear p0_0 p0_1 p0_2 p0_3
 go_upto_region 4 with(fail)
 obtain⟨V1,hW,x3,x4,hN⟩:=boxes2 w1 #[.bool s1,.slice A1 l1 c1] 31 #[.bool s1r,.slice A1r l1r c1r] 31
 rw[←hW]
 clear hW
 obtain⟨v4,hb4⟩:∃b,b=w1.heap.size+1:=⟨_,rfl⟩
 rw[←hb4] at x4 ⊢
 obtain⟨v3,hb3⟩:∃b,b=w1.heap.size:=⟨_,rfl⟩
 rw[←hb3] at x3 ⊢
 have o0_3:w.heap.size<v3:=by have:=(zx HX0 Bz).lt;omega
 have o1_3:w.heap.size+1<v3:=by have:=(zx HX1 Bz).lt;omega
 have o2_3:w.heap.size+1+1<v3:=by have:=(zx HX2 Bz).lt;omega
 have ow_3:w.heap.size≤v3:=by have:=zw hB Bz;omega
 have o0_4:w.heap.size<v4:=by have:=(zx HX0 Bz).lt;omega
 have o1_4:w.heap.size+1<v4:=by have:=(zx HX1 Bz).lt;omega
 have o2_4:w.heap.size+1+1<v4:=by have:=(zx HX2 Bz).lt;omega
 have o3_4:v3<v4:=by omega
 have ow_4:w.heap.size≤v4:=by have:=zw hB Bz;omega
 replace h1:=h1.below hN
 replace h1r:=h1r.below hN
 replace h':=h'.below hN
 replace hB:=zAa (zAa hB Bz) hN
 replace HX0:=zh ((zx HX0 Bz).below hN)
 replace HX1:=zh ((zx HX1 Bz).below hN)
 replace HX2:=zh ((zx HX2 Bz).below hN)
 have HX3:=zh x3
 have HX4:=zh x4
 clear x3 x4 hN Bz hb3 hb4
 have Bz:=Below.refl V1.heap.size V1
 obtain⟨p1_0,p1_1,p1_2,p1_3,-⟩:=(zx HX1 Bz).cz
 go_wp2_with fail
 with_reducible refine(parts_q (R.below h' (by go_grown)) (by omega)).mono ?_
 rintro e w2 ⟨n2,d2,s2,A2,c2,l2,s2r,A2r,c2r,l2r,rfl,h2,h2r,e2,q2,m2,m2r,b2⟩
 replace b2:=zAa (a:=V1) (by go_grown) b2
 replace h1:=h1.below b2
 replace h1r:=h1r.below b2
 replace Bz:=zAa Bz b2
 clear b2
 clear p1_0 p1_1 p1_2 p1_3
 go_upto_region 5 with(fail)
 obtain⟨V2,hW,x5,x6,hN⟩:=boxes2 w2 #[.bool s2,.slice A2 l2 c2] 31 #[.bool s2r,.slice A2r l2r c2r] 31
 rw[←hW]
 clear hW
 obtain⟨v6,hb6⟩:∃b,b=w2.heap.size+1:=⟨_,rfl⟩
 rw[←hb6] at x6 ⊢
 obtain⟨v5,hb5⟩:∃b,b=w2.heap.size:=⟨_,rfl⟩
 rw[←hb5] at x5 ⊢
 have o0_5:w.heap.size<v5:=by have:=(zx HX0 Bz).lt;omega
 have o1_5:w.heap.size+1<v5:=by have:=(zx HX1 Bz).lt;omega
 have o2_5:w.heap.size+1+1<v5:=by have:=(zx HX2 Bz).lt;omega
 have o3_5:v3<v5:=by have:=(zx HX3 Bz).lt;omega
 have o4_5:v4<v5:=by have:=(zx HX4 Bz).lt;omega
 have ow_5:w.heap.size≤v5:=by have:=zw hB Bz;omega
 have o0_6:w.heap.size<v6:=by have:=(zx HX0 Bz).lt;omega
 have o1_6:w.heap.size+1<v6:=by have:=(zx HX1 Bz).lt;omega
 have o2_6:w.heap.size+1+1<v6:=by have:=(zx HX2 Bz).lt;omega
 have o3_6:v3<v6:=by have:=(zx HX3 Bz).lt;omega
 have o4_6:v4<v6:=by have:=(zx HX4 Bz).lt;omega
 have o5_6:v5<v6:=by omega
 have ow_6:w.heap.size≤v6:=by have:=zw hB Bz;omega
 replace h1:=h1.below hN
 replace h1r:=h1r.below hN
 replace h2:=h2.below hN
 replace h2r:=h2r.below hN
 replace hB:=zAa (zAa hB Bz) hN
 replace HX0:=zh ((zx HX0 Bz).below hN)
 replace HX1:=zh ((zx HX1 Bz).below hN)
 replace HX2:=zh ((zx HX2 Bz).below hN)
 replace HX3:=zh ((zx HX3 Bz).below hN)
 replace HX4:=zh ((zx HX4 Bz).below hN)
 have HX5:=zh x5
 have HX6:=zh x6
 clear x5 x6 hN Bz hb5 hb6
 have Bz:=Below.refl V2.heap.size V2
 obtain⟨p2_0,p2_1,p2_2,p2_3,-⟩:=(zx HX2 Bz).cz
 have f2_0:=(zx HX2 Bz).frozen 0
 have f2_1:=(zx HX2 Bz).frozen 1
 have f2_2:=(zx HX2 Bz).frozen 2
 have f2_3:=(zx HX2 Bz).frozen 3
 have y2:=(zx HX2 Bz).lt
 obtain⟨p3_0,p3_1,-⟩:=(zx HX3 Bz).cz
 obtain⟨p4_0,p4_1,-⟩:=(zx HX4 Bz).cz
 obtain⟨p5_0,p5_1,-⟩:=(zx HX5 Bz).cz
 obtain⟨p6_0,p6_1,-⟩:=(zx HX6 Bz).cz
 go_wp2_with fail
 (try simp only[List.append_eq,List.cons_append,List.nil_append])
 refine wp_region_plan (.pure 0 (.take 1 (.take 2 (.take 4 (.take 5 (.take 8 (.take 9 (.only 3 (.only 6 (.only 7 (.only 10 (.only 11 (.only 12 .done))))))))))))) [12] (fun w'=>w'.cell? ⟨v3,0,none⟩=some (.bool s1)∧w'.cell? ⟨v3,1,none⟩=some (.slice A1 l1 c1)∧w'.cell? ⟨v4,0,none⟩=some (.bool s1r)∧w'.cell? ⟨v4,1,none⟩=some (.slice A1r l1r c1r)∧w'.cell? ⟨v5,0,none⟩=some (.bool s2)∧w'.cell? ⟨v5,1,none⟩=some (.slice A2 l2 c2)∧w'.cell? ⟨v6,0,none⟩=some (.bool s2r)∧w'.cell? ⟨v6,1,none⟩=some (.slice A2r l2r c2r)) (by kernel_rfl) (by kernel_rfl) ⟨p3_0,p3_1,p4_0,p4_1,p5_0,p5_1,p6_0,p6_1⟩ ?_
 refine zP rfl rfl (fun w'=>by go_simp<;>with_reducible rfl) ?_
 try simp only[Act.put,uX,uY,uZ]
 iterate 6 (refine zT rfl rfl (fun w' ⟨p3_0,p3_1,p4_0,p4_1,p5_0,p5_1,p6_0,p6_1⟩=>by go_simp<;>with_reducible rfl) ?_;try simp only[Act.put,uX,uY,uZ])
 refine zC 43 rfl rfl (fun K hK=>?_)
 go_simp
 with_reducible refine(mul_z (I.below h1 (by go_grown)) (I.below h2r (by go_grown)) (by omega)).mono ?_
 rintro e w3 ⟨s3,A3,c3,l3,rfl,h3,m3,b3⟩
 replace b3:=zAa (a:=V2) (by go_grown) b3
 replace h1r:=h1r.below b3
 replace h2:=h2.below b3
 replace h2r:=h2r.below b3
 replace Bz:=zAa Bz b3
 clear b3
 clear p2_0 p2_1 p2_2 p2_3 f2_0 f2_1 f2_2 f2_3 y2 p3_0 p3_1 p4_0 p4_1 p5_0 p5_1 p6_0 p6_1
 obtain⟨p2_0,p2_1,p2_2,p2_3,-⟩:=(zx HX2 Bz).cz
 have f2_0:=(zx HX2 Bz).frozen 0
 have f2_1:=(zx HX2 Bz).frozen 1
 have f2_2:=(zx HX2 Bz).frozen 2
 have f2_3:=(zx HX2 Bz).frozen 3
 have y2:=(zx HX2 Bz).lt
 obtain⟨p3_0,p3_1,-⟩:=(zx HX3 Bz).cz
 obtain⟨p4_0,p4_1,-⟩:=(zx HX4 Bz).cz
 obtain⟨p5_0,p5_1,-⟩:=(zx HX5 Bz).cz
 obtain⟨p6_0,p6_1,-⟩:=(zx HX6 Bz).cz
 refine hK.out _ _ ⟨p3_0,p3_1,p4_0,p4_1,p5_0,p5_1,p6_0,p6_1⟩ (fun _=>?_)
 try simp only[Act.put,uX,uY,uZ]
 clear hK K
 refine zC 46 rfl rfl (fun K hK=>?_)
 go_simp
 with_reducible refine(mul_z (I.below h2 (by go_grown)) (I.below h1r (by go_grown)) (by omega)).mono ?_
 rintro e w4 ⟨s4,A4,c4,l4,rfl,h4,m4,b4⟩
 replace b4:=zAa (a:=w3) (by go_grown) b4
 replace h1r:=h1r.below b4
 replace h2r:=h2r.below b4
 replace h3:=h3.below b4
 replace Bz:=zAa Bz b4
 clear b4
 clear p2_0 p2_1 p2_2 p2_3 f2_0 f2_1 f2_2 f2_3 y2 p3_0 p3_1 p4_0 p4_1 p5_0 p5_1 p6_0 p6_1
 obtain⟨p2_0,p2_1,p2_2,p2_3,-⟩:=(zx HX2 Bz).cz
 have f2_0:=(zx HX2 Bz).frozen 0
 have f2_1:=(zx HX2 Bz).frozen 1
 have f2_2:=(zx HX2 Bz).frozen 2
 have f2_3:=(zx HX2 Bz).frozen 3
 have y2:=(zx HX2 Bz).lt
 obtain⟨p3_0,p3_1,-⟩:=(zx HX3 Bz).cz
 obtain⟨p4_0,p4_1,-⟩:=(zx HX4 Bz).cz
 obtain⟨p5_0,p5_1,-⟩:=(zx HX5 Bz).cz
 obtain⟨p6_0,p6_1,-⟩:=(zx HX6 Bz).cz
 refine hK.out _ _ ⟨p3_0,p3_1,p4_0,p4_1,p5_0,p5_1,p6_0,p6_1⟩ (fun _=>?_)
 try simp only[Act.put,uX,uY,uZ]
 clear hK K
 refine zC 47 rfl rfl (fun K hK=>?_)
 go_simp
 with_reducible refine(sub_1 (I.below h3.i (by go_grown)) (I.below h4.i (by go_grown)) (by omega)).mono ?_
 rintro e w5 ⟨s5,A5,c5,l5,rfl,h5,m5,b5⟩
 replace b5:=zAa (a:=w4) (by go_grown) b5
 replace h1r:=h1r.below b5
 replace h2r:=h2r.below b5
 replace Bz:=zAa Bz b5
 clear b5
 clear p2_0 p2_1 p2_2 p2_3 f2_0 f2_1 f2_2 f2_3 y2 p3_0 p3_1 p4_0 p4_1 p5_0 p5_1 p6_0 p6_1
 obtain⟨p2_0,p2_1,p2_2,p2_3,-⟩:=(zx HX2 Bz).cz
 have f2_0:=(zx HX2 Bz).frozen 0
 have f2_1:=(zx HX2 Bz).frozen 1
 have f2_2:=(zx HX2 Bz).frozen 2
 have f2_3:=(zx HX2 Bz).frozen 3
 have y2:=(zx HX2 Bz).lt
 obtain⟨p3_0,p3_1,-⟩:=(zx HX3 Bz).cz
 obtain⟨p4_0,p4_1,-⟩:=(zx HX4 Bz).cz
 obtain⟨p5_0,p5_1,-⟩:=(zx HX5 Bz).cz
 obtain⟨p6_0,p6_1,-⟩:=(zx HX6 Bz).cz
 refine hK.out _ _ ⟨p3_0,p3_1,p4_0,p4_1,p5_0,p5_1,p6_0,p6_1⟩ (fun _=>?_)
 try simp only[Act.put,uX,uY,uZ]
 clear hK K
 refine zC 50 rfl rfl (fun K hK=>?_)
 go_simp
 with_reducible refine(mul_z (I.below h1r (by go_grown)) (I.below h2r (by go_grown)) (by omega)).mono ?_
 rintro e w6 ⟨s6,A6,c6,l6,rfl,h6,m6,b6⟩
 replace b6:=zAa (a:=w5) (by go_grown) b6
 replace h5:=h5.below b6
 replace Bz:=zAa Bz b6
 clear b6
 clear p2_0 p2_1 p2_2 p2_3 f2_0 f2_1 f2_2 f2_3 y2 p3_0 p3_1 p4_0 p4_1 p5_0 p5_1 p6_0 p6_1
 obtain⟨p2_0,p2_1,p2_2,p2_3,-⟩:=(zx HX2 Bz).cz
 have f2_0:=(zx HX2 Bz).frozen 0
 have f2_1:=(zx HX2 Bz).frozen 1
 have f2_2:=(zx HX2 Bz).frozen 2
 have f2_3:=(zx HX2 Bz).frozen 3
 have y2:=(zx HX2 Bz).lt
 obtain⟨p3_0,p3_1,-⟩:=(zx HX3 Bz).cz
 obtain⟨p4_0,p4_1,-⟩:=(zx HX4 Bz).cz
 obtain⟨p5_0,p5_1,-⟩:=(zx HX5 Bz).cz
 obtain⟨p6_0,p6_1,-⟩:=(zx HX6 Bz).cz
 refine hK.out _ _ ⟨p3_0,p3_1,p4_0,p4_1,p5_0,p5_1,p6_0,p6_1⟩ (fun _=>?_)
 try simp only[Act.put,uX,uY,uZ]
 clear hK K
 refine zC 51 rfl rfl (fun K hK=>?_)
 go_simp
 with_reducible refine(lowest_q (I.below h5.i (by go_grown)) (I.below h6.i (by go_grown)) (by omega) (Int.mul_pos e1 e2) (zh (Tab.below hT.out (zAa hB (zAa (b:=w6) Bz (by go_grown)))))).mono ?_
 rintro e w7 ⟨s7,A7,c7,l7,s7r,A7r,c7r,l7r,rfl,h7,b7⟩
 replace b7:=zAa (a:=w6) (by go_grown) b7
 replace Bz:=zAa Bz b7
 clear b7
 have m7:=h7.len
 clear p2_0 p2_1 p2_2 p2_3 f2_0 f2_1 f2_2 f2_3 y2 p3_0 p3_1 p4_0 p4_1 p5_0 p5_1 p6_0 p6_1
 obtain⟨p2_0,p2_1,p2_2,p2_3,-⟩:=(zx HX2 Bz).cz
 have f2_0:=(zx HX2 Bz).frozen 0
 have f2_1:=(zx HX2 Bz).frozen 1
 have f2_2:=(zx HX2 Bz).frozen 2
 have f2_3:=(zx HX2 Bz).frozen 3
 have y2:=(zx HX2 Bz).lt
 obtain⟨p3_0,p3_1,-⟩:=(zx HX3 Bz).cz
 obtain⟨p4_0,p4_1,-⟩:=(zx HX4 Bz).cz
 obtain⟨p5_0,p5_1,-⟩:=(zx HX5 Bz).cz
 obtain⟨p6_0,p6_1,-⟩:=(zx HX6 Bz).cz
 refine hK.out _ _ ⟨p3_0,p3_1,p4_0,p4_1,p5_0,p5_1,p6_0,p6_1⟩ (fun _=>?_)
 try simp only[Act.put,uX,uY,uZ]
 clear hK K
 refine wpPlan_late (o:=⟨none,_,_,_,_,_⟩) rfl rfl (by decide) (fun K hK=>?_)
 go_simp
 refine hK.out _ _ ?_
 try simp only[Act.put,uX,uY,uZ]
 clear hK K
 refine wpPlan_done ?_
 go_wp2_with fail
 have q2_0:w7.cell? ⟨w.heap.size+2,0,none⟩=some (.bool false):=p2_0
 have q2_1:w7.cell? ⟨w.heap.size+2,1,none⟩=some (.slice none 0 0):=p2_1
 have q2_2:w7.cell? ⟨w.heap.size+2,2,none⟩=some (.bool false):=p2_2
 have q2_3:w7.cell? ⟨w.heap.size+2,3,none⟩=some (.slice none 0 0):=p2_3
 (try simp only[Exit.inBlock,Exit.then])
 refine bodyPost_ret (by simp[results,Tryz.results66,go_sem,q2_0,q2_1,q2_2,q2_3];try rfl) rfl ?_
 obtain⟨V3,hW,x,kk,far,bel⟩:=store4 (.bool s7) (.slice A7 l7 c7) (.bool s7r) (.slice A7r l7r c7r) (zx HX2 Bz) nofun nofun nofun nofun
 rw[←hW]
 clear hW
 replace h7:=h7.k kk
 replace hB:=bel w.heap.size w (by omega) (zAa hB Bz)
 replace HX0:=zh (far _ _ _ (by omega) (zx HX0 Bz))
 replace HX1:=zh (far _ _ _ (by omega) (zx HX1 Bz))
 replace HX3:=zh (far _ _ _ (by omega) (zx HX3 Bz))
 replace HX4:=zh (far _ _ _ (by omega) (zx HX4 Bz))
 replace HX5:=zh (far _ _ _ (by omega) (zx HX5 Bz))
 replace HX6:=zh (far _ _ _ (by omega) (zx HX6 Bz))
 replace HX2:=zh x
 clear x kk far bel Bz
 have Bz:=Below.refl V3.heap.size V3
 have hF:=zAa (c:=V3) hB Bz
 exact⟨s7,A7,c7,l7,s7r,A7r,c7r,l7r,rfl,by rw[←q1,←q2,←qof_sub (by omega) (by omega)];exact(RN.below h7 (by go_grown)),zAa hF (by go_grown)⟩
theorem sub_both {q r:Rat} {m m':Nat} (h:R w s A c l s' A' c' l' q m) (h':R w t B k e t' B' k' e' r m') (hm:m+m'≤40000000000) (hT:Hid (Tab w)) :
  Calls Tryz.prog 66 #[.agg #[.bool s,.slice A l c,.bool s',.slice A' l' c'],.agg #[.bool t,.slice B e k,.bool t',.slice B' e' k'],.func (.func 74) #[] #[]] w (TellsR w (q-r)):=by
 have hl:=h.len
 have hl':=h'.len
 by_cases g1:l'=0
 ·by_cases g2:e'=0
  ·obtain⟨n,d,h1,h2,rfl,h4,h5⟩:=h
   obtain⟨n',d',h1',h2',rfl,h4',h5'⟩:=h'
   refine sub_both1 (by simp;omega) (by simp;omega) h1 h1' (by omega) (zh ?_) hT
   rw[if_pos g1,if_pos g2,qof_one,qof_one,qof_one,Rat.intCast_sub]
  ·exact sub_both2 (by simp;omega) (by simp;omega) h h' hm hT
 ·exact sub_both3 (by simp;omega) h h' hm hT
theorem sub_q {q r:Rat} {m m':Nat} (h:R w s A c l s' A' c' l' q m) (h':R w t B k e t' B' k' e' r m') (hm:m+m'≤40000000000) (hT:Hid (Tab w)) :
  Calls Tryz.prog 21 #[.agg #[.bool s,.slice A l c,.bool s',.slice A' l' c'],.agg #[.bool t,.slice B e k,.bool t',.slice B' e' k']] w (TellsR w (q-r)):=by
 obtain⟨W,hW,x0,x1,x2,hB⟩:=boxes3 w #[.bool s,.slice A l c,.bool s',.slice A' l' c'] 33 #[.bool t,.slice B e k,.bool t',.slice B' e' k'] 33 #[.bool false,.slice none 0 0,.bool false,.slice none 0 0] 33
 replace h:=h.below hB
 replace h':=h'.below hB
 have HX0:=zh x0
 have HX1:=zh x1
 have HX2:=zh x2
 clear x0 x1 x2
 have Bz:=Below.refl W.heap.size W
 obtain⟨p0_0,p0_1,p0_2,p0_3,-⟩:=(zx HX0 Bz).cz
 obtain⟨p1_0,p1_1,p1_2,p1_3,-⟩:=(zx HX1 Bz).cz
 go_enter Tryz.func21,Tryz.ntmps21
 go_wp2_with fail
 rw[←hW]
 clear hW
 go_wp2_with fail
 with_reducible refine(sub_both (R.below h (by go_grown)) (R.below h' (by go_grown)) (by omega) (zh (Tab.below hT.out (zAa hB (zAa (b:=W) Bz (by go_grown)))))).mono ?_
 rintro e w1 ⟨s1,A1,c1,l1,s1r,A1r,c1r,l1r,rfl,h1,b1⟩
 replace b1:=zAa (a:=W) (by go_grown) b1
 replace Bz:=zAa Bz b1
 clear b1
 have m1:=h1.len
 clear p0_0 p0_1 p0_2 p0_3 p1_0 p1_1 p1_2 p1_3
 obtain⟨p2_0,p2_1,p2_2,p2_3,-⟩:=(zx HX2 Bz).cz
 have f2_0:=(zx HX2 Bz).frozen 0
 have f2_1:=(zx HX2 Bz).frozen 1
 have f2_2:=(zx HX2 Bz).frozen 2
 have f2_3:=(zx HX2 Bz).frozen 3
 have y2:=(zx HX2 Bz).lt
 go_wp2_with fail
 have q2_0:w1.cell? ⟨w.heap.size+2,0,none⟩=some (.bool false):=p2_0
 have q2_1:w1.cell? ⟨w.heap.size+2,1,none⟩=some (.slice none 0 0):=p2_1
 have q2_2:w1.cell? ⟨w.heap.size+2,2,none⟩=some (.bool false):=p2_2
 have q2_3:w1.cell? ⟨w.heap.size+2,3,none⟩=some (.slice none 0 0):=p2_3
 (try simp only[Exit.inBlock,Exit.then])
 refine bodyPost_ret (by simp[results,Tryz.results21,go_sem,q2_0,q2_1,q2_2,q2_3];try rfl) rfl ?_
 obtain⟨V1,hW,x,kk,far,bel⟩:=store4 (.bool s1) (.slice A1 l1 c1) (.bool s1r) (.slice A1r l1r c1r) (zx HX2 Bz) nofun nofun nofun nofun
 rw[←hW]
 clear hW
 replace h1:=h1.k kk
 replace hB:=bel w.heap.size w (by omega) (zAa hB Bz)
 replace HX0:=zh (far _ _ _ (by omega) (zx HX0 Bz))
 replace HX1:=zh (far _ _ _ (by omega) (zx HX1 Bz))
 replace HX2:=zh x
 clear x kk far bel Bz
 have Bz:=Below.refl V1.heap.size V1
 have hF:=zAa (c:=V1) hB Bz
 exact⟨s1,A1,c1,l1,s1r,A1r,c1r,l1r,rfl,(RN.below h1 (by go_grown)),zAa hF (by go_grown)⟩
end
end Go.Proofs.YtjkgjiofmgapfaaGreatDoor
