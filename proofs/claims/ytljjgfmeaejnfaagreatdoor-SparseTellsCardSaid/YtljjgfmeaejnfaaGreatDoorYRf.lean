/-
  The reference of layer 4: fractions. Written by wip/gen/ref4.py.
-/
import Derived.Test.YtljjgfmeaejnfaaGreatDoorYWG
import Derived.Test.YtljjgfmeaejnfaaGreatDoorYZQ
set_option maxHeartbeats 4000000
set_option maxRecDepth 100000
namespace Go.Proofs.YtljjgfmeaejnfaaGreatDoor
open Go.RowKit Tw
section
variable {w:World} {s s' t t':Bool} {A A' B B':Option Addr} {c c' l l' e e' k k':Nat}
theorem J.neg_of {z:Int} (h:J w s A c l z) (hz:z<0):s=true:=by rw[h.2];simpa using hz
theorem J.pos_of {z:Int} (h:J w s A c l z) (hz:0≤z):s=false:=by rw[h.2];simpa using hz
theorem parts_r_one {n d:Int} {m:Nat} (hn:I w s A c l n) (hd:I w s' A' c' l' d) (hl:l≤m) (hl':l'≤m) (hm:m≤10000) (h0:((l':Int)==0)=true) :
  Calls Tryz.prog 120 #[.agg #[.bool s,.slice A l c,.bool s',.slice A' l' c']] w (TellsP w (qof n 1) (m+2) (m+3)):=by
 obtain⟨t0,ht⟩:∃t:Int,t=1:=⟨_,rfl⟩
 have HT:Hid ((1:Int).sign=t0):=zh (by rw[ht];exact rfl)
 have g1:(t0==0)=false:=by rw[ht];rfl
 clear ht
 obtain⟨W,hW,x0,x1,x2,hB⟩:=boxes3 w #[.bool s,.slice A l c,.bool s',.slice A' l' c'] 50 #[.bool false,.slice none 0 0] 48 #[.bool false,.slice none 0 0] 48
 replace hd:=hd.below hB
 replace hn:=hn.below hB
 have HX0:=zh x0
 have HX1:=zh x1
 have HX2:=zh x2
 clear x0 x1 x2
 have Bz:=Below.refl W.heap.size W
 obtain⟨p0_0,p0_1,-⟩:=(zxb HX0 Bz).cz
 go_enter Tryz.func120,Tryz.ntmps120
 go_wp2_with fail
 rw[←hW]
 clear hW
 go_wp2_with fail
 with_reducible refine(norm_r (I.below hn (by go_grown)) (by omega)).mono ?_
 rintro e w1 ⟨s1,A1,c1,l1,rfl,h1,m1,b1⟩
 replace b1:=zAa (a:=W) (by go_grown) b1
 replace hd:=hd.below b1
 replace Bz:=zAa Bz b1
 clear b1
 clear p0_0 p0_1
 go_upto_region 2 with(fail)
 obtain⟨V1,hW,x3,hN⟩:=zAe w1 #[.bool s1,.slice A1 l1 c1] 48
 rw[←hW]
 clear hW
 obtain⟨v3,hb3⟩:∃b,b=w1.heap.size:=⟨_,rfl⟩
 rw[←hb3] at x3 ⊢
 have o0_3:w.heap.size<v3:=by have:=(zxb HX0 Bz).lt;omega
 have o1_3:w.heap.size+1<v3:=by have:=(zxb HX1 Bz).lt;omega
 have o2_3:w.heap.size+1+1<v3:=by have:=(zxb HX2 Bz).lt;omega
 have ow_3:w.heap.size≤v3:=by have:=zw hB Bz;omega
 replace hd:=hd.below hN
 replace h1:=h1.below hN
 replace hB:=zAa (zAa hB Bz) hN
 replace HX0:=zh ((zxb HX0 Bz).below hN)
 replace HX1:=zh ((zxb HX1 Bz).below hN)
 replace HX2:=zh ((zxb HX2 Bz).below hN)
 have HX3:=zh x3
 clear x3 hN Bz hb3
 have Bz:=Below.refl V1.heap.size V1
 obtain⟨-,-,p0_2,p0_3,-⟩:=(zxb HX0 Bz).cz
 go_wp2_with fail
 with_reducible refine(norm_r (I.below hd (by go_grown)) (by omega)).mono ?_
 rintro e w2 ⟨s2,A2,c2,l2,rfl,h2,m2,b2⟩
 replace b2:=zAa (a:=V1) (by go_grown) b2
 replace h1:=h1.below b2
 replace Bz:=zAa Bz b2
 clear h2
 clear b2
 clear p0_2 p0_3
 go_upto_region 3 with(fail)
 obtain⟨V2,hW,x4,hN⟩:=zAe w2 #[.bool s2,.slice A2 l2 c2] 48
 rw[←hW]
 clear hW
 obtain⟨v4,hb4⟩:∃b,b=w2.heap.size:=⟨_,rfl⟩
 rw[←hb4] at x4 ⊢
 have o0_4:w.heap.size<v4:=by have:=(zxb HX0 Bz).lt;omega
 have o1_4:w.heap.size+1<v4:=by have:=(zxb HX1 Bz).lt;omega
 have o2_4:w.heap.size+1+1<v4:=by have:=(zxb HX2 Bz).lt;omega
 have o3_4:v3<v4:=by have:=(zxb HX3 Bz).lt;omega
 have ow_4:w.heap.size≤v4:=by have:=zw hB Bz;omega
 replace h1:=h1.below hN
 replace hB:=zAa (zAa hB Bz) hN
 replace HX0:=zh ((zxb HX0 Bz).below hN)
 replace HX1:=zh ((zxb HX1 Bz).below hN)
 replace HX2:=zh ((zxb HX2 Bz).below hN)
 replace HX3:=zh ((zxb HX3 Bz).below hN)
 have HX4:=zh x4
 clear x4 hN Bz hb4
 have Bz:=Below.refl V2.heap.size V2
 have p0_3:=(zxb HX0 Bz).cell 3 (.slice A' l' c') rfl
 go_wp2_with fail
 with_reducible refine(ofq 1 (zh (by omega))).mono ?_
 rintro e w3 ⟨s3,A3,c3,l3,rfl,h3,m3,b3⟩
 replace b3:=zAa (a:=V2) (by go_grown) b3
 replace h1:=h1.below b3
 replace Bz:=zAa Bz b3
 clear b3
 obtain rfl:=J.pos_of h3 (by omega)
 clear p0_3
 obtain⟨p4_0,p4_1,-⟩:=(zxb HX4 Bz).cz
 have f4_0:=(zxb HX4 Bz).frozen 0
 have f4_1:=(zxb HX4 Bz).frozen 1
 have y4:=(zxb HX4 Bz).lt
 go_upto_region 5 with(fail)
 obtain⟨V3,hW,x,kk,far,bel⟩:=zAm (.bool false) (.slice A3 l3 c3) (zxb HX4 Bz) nofun nofun
 rw[←hW]
 clear hW
 replace h1:=h1.k kk
 replace h3:=h3.k kk
 replace hB:=bel w.heap.size w (by omega) (zAa hB Bz)
 replace HX0:=zh (far _ _ _ (by omega) (zxb HX0 Bz))
 replace HX1:=zh (far _ _ _ (by omega) (zxb HX1 Bz))
 replace HX2:=zh (far _ _ _ (by omega) (zxb HX2 Bz))
 replace HX3:=zh (far _ _ _ (by omega) (zxb HX3 Bz))
 replace HX4:=zh x
 clear x kk far bel Bz
 have Bz:=Below.refl V3.heap.size V3
 clear p4_0 p4_1 f4_0 f4_1 y4
 obtain⟨p4_0,p4_1,-⟩:=(zxb HX4 Bz).cz
 go_wp2_with fail
 with_reducible refine(sign_r (I.below h3.i (by go_grown)) (by omega) t0 HT.out).mono ?_
 rintro e w4 ⟨rfl,b4⟩
 replace b4:=zAa (a:=V3) (by go_grown) b4
 replace h1:=h1.below b4
 replace h3:=h3.below b4
 replace Bz:=zAa Bz b4
 clear b4
 clear p4_0 p4_1
 obtain⟨p1_0,p1_1,-⟩:=(zxb HX1 Bz).cz
 have f1_0:=(zxb HX1 Bz).frozen 0
 have f1_1:=(zxb HX1 Bz).frozen 1
 have y1:=(zxb HX1 Bz).lt
 obtain⟨p2_0,p2_1,-⟩:=(zxb HX2 Bz).cz
 have f2_0:=(zxb HX2 Bz).frozen 0
 have f2_1:=(zxb HX2 Bz).frozen 1
 have y2:=(zxb HX2 Bz).lt
 obtain⟨p3_0,p3_1,-⟩:=(zxb HX3 Bz).cz
 obtain⟨p4_0,p4_1,-⟩:=(zxb HX4 Bz).cz
 go_wp2_with fail
 (try simp only[List.append_eq,List.cons_append,List.nil_append])
 refine zAb (.take 0 (.take 1 (.only 2 (.only 3 .done)))) [3] (fun w'=>w'.cell? ⟨v3,0,none⟩=some (.bool s1)∧w'.cell? ⟨v3,1,none⟩=some (.slice A1 l1 c1)∧w'.cell? ⟨v4,0,none⟩=some (.bool false)∧w'.cell? ⟨v4,1,none⟩=some (.slice A3 l3 c3)) (by kernel_rfl) (by kernel_rfl) ⟨p3_0,p3_1,p4_0,p4_1⟩ ?_
 iterate 2 (refine zT rfl rfl (fun w' ⟨p3_0,p3_1,p4_0,p4_1⟩=>by go_simp<;>with_reducible rfl) ?_;try simp only[Act.put,uX,uY,uZ])
 refine wpPlan_call (o:=⟨none,_,_,_,_,_⟩) rfl rfl (fun K hK=>?_)
 go_simp
 refine hK.out _ _ ⟨(zAg (by omega)).trans p3_0,(zAg (by omega)).trans p3_1,(zAg (by omega)).trans p4_0,(zAg (by omega)).trans p4_1⟩ (fun _=>?_)
 try simp only[Act.put,uX,uY,uZ]
 clear hK K
 refine zAf (o:=⟨none,_,_,_,_,_⟩) rfl rfl (by decide) (fun K hK=>?_)
 go_simp
 refine hK.out _ _ ?_
 try simp only[Act.put,uX,uY,uZ]
 clear hK K
 refine zAc ?_
 go_wp2_with fail
 have q2_0:w4.cell? ⟨w.heap.size+2,0,none⟩=some (.bool false):=p2_0
 have q2_1:w4.cell? ⟨w.heap.size+2,1,none⟩=some (.slice none 0 0):=p2_1
 (try simp only[Exit.inBlock,Exit.then])
 refine bodyPost_ret (by simp[results,Tryz.results120,go_sem,p1_0,p1_1,q2_0,q2_1];try rfl) rfl ?_
 obtain⟨V4,hW,x,kk,far,bel⟩:=zAm (.bool s1) (.slice A1 l1 c1) (zxb HX1 Bz) nofun nofun
 rw[←hW]
 clear hW
 replace h1:=h1.k kk
 replace h3:=h3.k kk
 replace hB:=bel w.heap.size w (by omega) (zAa hB Bz)
 replace HX0:=zh (far _ _ _ (by omega) (zxb HX0 Bz))
 replace HX2:=zh (far _ _ _ (by omega) (zxb HX2 Bz))
 replace HX3:=zh (far _ _ _ (by omega) (zxb HX3 Bz))
 replace HX4:=zh (far _ _ _ (by omega) (zxb HX4 Bz))
 replace HX1:=zh x
 clear x kk far bel Bz
 have Bz:=Below.refl V4.heap.size V4
 obtain⟨V5,hW,x,kk,far,bel⟩:=zAm (.bool false) (.slice A3 l3 c3) (zxb HX2 Bz) nofun nofun
 rw[←hW]
 clear hW
 replace h1:=h1.k kk
 replace h3:=h3.k kk
 replace hB:=bel w.heap.size w (by omega) (zAa hB Bz)
 replace HX0:=zh (far _ _ _ (by omega) (zxb HX0 Bz))
 replace HX1:=zh (far _ _ _ (by omega) (zxb HX1 Bz))
 replace HX3:=zh (far _ _ _ (by omega) (zxb HX3 Bz))
 replace HX4:=zh (far _ _ _ (by omega) (zxb HX4 Bz))
 replace HX2:=zh x
 clear x kk far bel Bz
 have Bz:=Below.refl V5.heap.size V5
 have hF:=zAa (c:=V5) hB Bz
 exact⟨n,1,s1,A1,c1,l1,false,A3,c3,l3,rfl,(I.below h1.i (by go_grown)),(I.below h3.i (by go_grown)),by omega,rfl,by omega,by omega,zAa hF (by go_grown)⟩
theorem parts_r_zero {n d:Int} {m:Nat} (hn:I w s A c l n) (hd:I w s' A' c' l' d) (hl:l≤m) (hl':l'≤m) (hm:m≤10000) (h0:((l':Int)==0)=false) (hd0:Hid (d=0)) :
  Calls Tryz.prog 120 #[.agg #[.bool s,.slice A l c,.bool s',.slice A' l' c']] w (TellsP w (qof n d) (m+2) (m+3)):=by
 obtain⟨t0,ht⟩:∃t:Int,t=0:=⟨_,rfl⟩
 have HT:Hid ((d:Int).sign=t0):=zh (by rw[ht];exact by rw[hd0.out];rfl)
 have g1:(t0==0)=true:=by rw[ht];rfl
 clear ht
 obtain⟨W,hW,x0,x1,x2,hB⟩:=boxes3 w #[.bool s,.slice A l c,.bool s',.slice A' l' c'] 50 #[.bool false,.slice none 0 0] 48 #[.bool false,.slice none 0 0] 48
 replace hd:=hd.below hB
 replace hn:=hn.below hB
 have HX0:=zh x0
 have HX1:=zh x1
 have HX2:=zh x2
 clear x0 x1 x2
 have Bz:=Below.refl W.heap.size W
 obtain⟨p0_0,p0_1,-⟩:=(zxb HX0 Bz).cz
 go_enter Tryz.func120,Tryz.ntmps120
 go_wp2_with fail
 rw[←hW]
 clear hW
 go_wp2_with fail
 with_reducible refine(norm_r (I.below hn (by go_grown)) (by omega)).mono ?_
 rintro e w1 ⟨s1,A1,c1,l1,rfl,h1,m1,b1⟩
 replace b1:=zAa (a:=W) (by go_grown) b1
 replace hd:=hd.below b1
 replace Bz:=zAa Bz b1
 clear h1
 clear b1
 clear p0_0 p0_1
 go_upto_region 2 with(fail)
 obtain⟨V1,hW,x3,hN⟩:=zAe w1 #[.bool s1,.slice A1 l1 c1] 48
 rw[←hW]
 clear hW
 obtain⟨v3,hb3⟩:∃b,b=w1.heap.size:=⟨_,rfl⟩
 rw[←hb3] at x3 ⊢
 have o0_3:w.heap.size<v3:=by have:=(zxb HX0 Bz).lt;omega
 have o1_3:w.heap.size+1<v3:=by have:=(zxb HX1 Bz).lt;omega
 have o2_3:w.heap.size+1+1<v3:=by have:=(zxb HX2 Bz).lt;omega
 have ow_3:w.heap.size≤v3:=by have:=zw hB Bz;omega
 replace hd:=hd.below hN
 replace hB:=zAa (zAa hB Bz) hN
 replace HX0:=zh ((zxb HX0 Bz).below hN)
 replace HX1:=zh ((zxb HX1 Bz).below hN)
 replace HX2:=zh ((zxb HX2 Bz).below hN)
 have HX3:=zh x3
 clear x3 hN Bz hb3
 have Bz:=Below.refl V1.heap.size V1
 obtain⟨-,-,p0_2,p0_3,-⟩:=(zxb HX0 Bz).cz
 go_wp2_with fail
 with_reducible refine(norm_r (I.below hd (by go_grown)) (by omega)).mono ?_
 rintro e w2 ⟨s2,A2,c2,l2,rfl,h2,m2,b2⟩
 replace b2:=zAa (a:=V1) (by go_grown) b2
 replace Bz:=zAa Bz b2
 clear b2
 clear p0_2 p0_3
 go_upto_region 3 with(fail)
 obtain⟨V2,hW,x4,hN⟩:=zAe w2 #[.bool s2,.slice A2 l2 c2] 48
 rw[←hW]
 clear hW
 obtain⟨v4,hb4⟩:∃b,b=w2.heap.size:=⟨_,rfl⟩
 rw[←hb4] at x4 ⊢
 have o0_4:w.heap.size<v4:=by have:=(zxb HX0 Bz).lt;omega
 have o1_4:w.heap.size+1<v4:=by have:=(zxb HX1 Bz).lt;omega
 have o2_4:w.heap.size+1+1<v4:=by have:=(zxb HX2 Bz).lt;omega
 have o3_4:v3<v4:=by have:=(zxb HX3 Bz).lt;omega
 have ow_4:w.heap.size≤v4:=by have:=zw hB Bz;omega
 replace h2:=h2.below hN
 replace hB:=zAa (zAa hB Bz) hN
 replace HX0:=zh ((zxb HX0 Bz).below hN)
 replace HX1:=zh ((zxb HX1 Bz).below hN)
 replace HX2:=zh ((zxb HX2 Bz).below hN)
 replace HX3:=zh ((zxb HX3 Bz).below hN)
 have HX4:=zh x4
 clear x4 hN Bz hb4
 have Bz:=Below.refl V2.heap.size V2
 have p0_3:=(zxb HX0 Bz).cell 3 (.slice A' l' c') rfl
 obtain⟨p4_0,p4_1,-⟩:=(zxb HX4 Bz).cz
 go_wp2_with fail
 with_reducible refine(sign_r (I.below h2.i (by go_grown)) (by omega) t0 HT.out).mono ?_
 rintro e w3 ⟨rfl,b3⟩
 replace b3:=zAa (a:=V2) (by go_grown) b3
 replace Bz:=zAa Bz b3
 clear b3
 clear p0_3 p4_0 p4_1
 go_wp2_with fail
 with_reducible refine(ofq 1 (zh (by omega))).mono ?_
 rintro e w4 ⟨s4,A4,c4,l4,rfl,h4,m4,b4⟩
 replace b4:=zAa (a:=w3) (by go_grown) b4
 replace Bz:=zAa Bz b4
 clear b4
 obtain⟨p1_0,p1_1,-⟩:=(zxb HX1 Bz).cz
 have f1_0:=(zxb HX1 Bz).frozen 0
 have f1_1:=(zxb HX1 Bz).frozen 1
 have y1:=(zxb HX1 Bz).lt
 obtain⟨p2_0,p2_1,-⟩:=(zxb HX2 Bz).cz
 have f2_0:=(zxb HX2 Bz).frozen 0
 have f2_1:=(zxb HX2 Bz).frozen 1
 have y2:=(zxb HX2 Bz).lt
 go_wp2_with fail
 have q2_0:w4.cell? ⟨w.heap.size+2,0,none⟩=some (.bool false):=p2_0
 have q2_1:w4.cell? ⟨w.heap.size+2,1,none⟩=some (.slice none 0 0):=p2_1
 (try simp only[Exit.inBlock,Exit.then])
 refine bodyPost_ret (by simp[results,Tryz.results120,go_sem,p1_0,p1_1,q2_0,q2_1];try rfl) rfl ?_
 obtain⟨V3,hW,x,kk,far,bel⟩:=zAm (.bool false) (.slice none 0 0) (zxb HX1 Bz) nofun nofun
 rw[←hW]
 clear hW
 replace h4:=h4.k kk
 replace hB:=bel w.heap.size w (by omega) (zAa hB Bz)
 replace HX0:=zh (far _ _ _ (by omega) (zxb HX0 Bz))
 replace HX2:=zh (far _ _ _ (by omega) (zxb HX2 Bz))
 replace HX3:=zh (far _ _ _ (by omega) (zxb HX3 Bz))
 replace HX4:=zh (far _ _ _ (by omega) (zxb HX4 Bz))
 replace HX1:=zh x
 clear x kk far bel Bz
 have Bz:=Below.refl V3.heap.size V3
 obtain⟨V4,hW,x,kk,far,bel⟩:=zAm (.bool s4) (.slice A4 l4 c4) (zxb HX2 Bz) nofun nofun
 rw[←hW]
 clear hW
 replace h4:=h4.k kk
 replace hB:=bel w.heap.size w (by omega) (zAa hB Bz)
 replace HX0:=zh (far _ _ _ (by omega) (zxb HX0 Bz))
 replace HX1:=zh (far _ _ _ (by omega) (zxb HX1 Bz))
 replace HX3:=zh (far _ _ _ (by omega) (zxb HX3 Bz))
 replace HX4:=zh (far _ _ _ (by omega) (zxb HX4 Bz))
 replace HX2:=zh x
 clear x kk far bel Bz
 have Bz:=Below.refl V4.heap.size V4
 have hF:=zAa (c:=V4) hB Bz
 exact⟨0,1,false,none,0,0,s4,A4,c4,l4,rfl,J.i (J.zero _),(I.below h4.i (by go_grown)),by omega,(by rw[hd0.out,qof_zero,qof_one];rfl),by omega,by omega,zAa hF (by go_grown)⟩
theorem parts_r_neg {n d:Int} {m:Nat} (hn:I w s A c l n) (hd:I w s' A' c' l' d) (hl:l≤m) (hl':l'≤m) (hm:m≤10000) (h0:((l':Int)==0)=false) (hd0:d<0) :
  Calls Tryz.prog 120 #[.agg #[.bool s,.slice A l c,.bool s',.slice A' l' c']] w (TellsP w (qof n d) (m+2) (m+3)):=by
 obtain⟨t0,ht⟩:∃t:Int,t = -1:=⟨_,rfl⟩
 have HT:Hid ((d:Int).sign=t0):=zh (by rw[ht];exact Int.sign_eq_neg_one_of_neg hd0)
 have g1:(t0==0)=false:=by rw[ht];rfl
 clear ht
 obtain⟨W,hW,x0,x1,x2,hB⟩:=boxes3 w #[.bool s,.slice A l c,.bool s',.slice A' l' c'] 50 #[.bool false,.slice none 0 0] 48 #[.bool false,.slice none 0 0] 48
 replace hd:=hd.below hB
 replace hn:=hn.below hB
 have HX0:=zh x0
 have HX1:=zh x1
 have HX2:=zh x2
 clear x0 x1 x2
 have Bz:=Below.refl W.heap.size W
 obtain⟨p0_0,p0_1,-⟩:=(zxb HX0 Bz).cz
 go_enter Tryz.func120,Tryz.ntmps120
 go_wp2_with fail
 rw[←hW]
 clear hW
 go_wp2_with fail
 with_reducible refine(norm_r (I.below hn (by go_grown)) (by omega)).mono ?_
 rintro e w1 ⟨s1,A1,c1,l1,rfl,h1,m1,b1⟩
 replace b1:=zAa (a:=W) (by go_grown) b1
 replace hd:=hd.below b1
 replace Bz:=zAa Bz b1
 clear b1
 clear p0_0 p0_1
 go_upto_region 2 with(fail)
 obtain⟨V1,hW,x3,hN⟩:=zAe w1 #[.bool s1,.slice A1 l1 c1] 48
 rw[←hW]
 clear hW
 obtain⟨v3,hb3⟩:∃b,b=w1.heap.size:=⟨_,rfl⟩
 rw[←hb3] at x3 ⊢
 have o0_3:w.heap.size<v3:=by have:=(zxb HX0 Bz).lt;omega
 have o1_3:w.heap.size+1<v3:=by have:=(zxb HX1 Bz).lt;omega
 have o2_3:w.heap.size+1+1<v3:=by have:=(zxb HX2 Bz).lt;omega
 have ow_3:w.heap.size≤v3:=by have:=zw hB Bz;omega
 replace hd:=hd.below hN
 replace h1:=h1.below hN
 replace hB:=zAa (zAa hB Bz) hN
 replace HX0:=zh ((zxb HX0 Bz).below hN)
 replace HX1:=zh ((zxb HX1 Bz).below hN)
 replace HX2:=zh ((zxb HX2 Bz).below hN)
 have HX3:=zh x3
 clear x3 hN Bz hb3
 have Bz:=Below.refl V1.heap.size V1
 obtain⟨-,-,p0_2,p0_3,-⟩:=(zxb HX0 Bz).cz
 go_wp2_with fail
 with_reducible refine(norm_r (I.below hd (by go_grown)) (by omega)).mono ?_
 rintro e w2 ⟨s2,A2,c2,l2,rfl,h2,m2,b2⟩
 replace b2:=zAa (a:=V1) (by go_grown) b2
 replace h1:=h1.below b2
 replace Bz:=zAa Bz b2
 clear b2
 obtain rfl:=J.neg_of h2 (by omega)
 clear p0_2 p0_3
 go_upto_region 3 with(fail)
 obtain⟨V2,hW,x4,hN⟩:=zAe w2 #[.bool true,.slice A2 l2 c2] 48
 rw[←hW]
 clear hW
 obtain⟨v4,hb4⟩:∃b,b=w2.heap.size:=⟨_,rfl⟩
 rw[←hb4] at x4 ⊢
 have o0_4:w.heap.size<v4:=by have:=(zxb HX0 Bz).lt;omega
 have o1_4:w.heap.size+1<v4:=by have:=(zxb HX1 Bz).lt;omega
 have o2_4:w.heap.size+1+1<v4:=by have:=(zxb HX2 Bz).lt;omega
 have o3_4:v3<v4:=by have:=(zxb HX3 Bz).lt;omega
 have ow_4:w.heap.size≤v4:=by have:=zw hB Bz;omega
 replace h1:=h1.below hN
 replace h2:=h2.below hN
 replace hB:=zAa (zAa hB Bz) hN
 replace HX0:=zh ((zxb HX0 Bz).below hN)
 replace HX1:=zh ((zxb HX1 Bz).below hN)
 replace HX2:=zh ((zxb HX2 Bz).below hN)
 replace HX3:=zh ((zxb HX3 Bz).below hN)
 have HX4:=zh x4
 clear x4 hN Bz hb4
 have Bz:=Below.refl V2.heap.size V2
 have p0_3:=(zxb HX0 Bz).cell 3 (.slice A' l' c') rfl
 obtain⟨p4_0,p4_1,-⟩:=(zxb HX4 Bz).cz
 go_wp2_with fail
 with_reducible refine(sign_r (I.below h2.i (by go_grown)) (by omega) t0 HT.out).mono ?_
 rintro e w3 ⟨rfl,b3⟩
 replace b3:=zAa (a:=V2) (by go_grown) b3
 replace h1:=h1.below b3
 replace h2:=h2.below b3
 replace Bz:=zAa Bz b3
 clear b3
 clear p0_3 p4_0 p4_1
 obtain⟨p3_0,p3_1,-⟩:=(zxb HX3 Bz).cz
 have p4_0:=(zxb HX4 Bz).cell 0 (.bool true) rfl
 go_wp2_with fail
 with_reducible refine(neg_r (I.below h1.i (by go_grown)) (by omega)).mono ?_
 rintro e w4 ⟨s4,A4,c4,l4,rfl,h4,m4,b4⟩
 replace b4:=zAa (a:=w3) (by go_grown) b4
 replace h2:=h2.below b4
 replace Bz:=zAa Bz b4
 clear b4
 clear p3_0 p3_1 p4_0
 obtain⟨p3_0,p3_1,-⟩:=(zxb HX3 Bz).cz
 have f3_0:=(zxb HX3 Bz).frozen 0
 have f3_1:=(zxb HX3 Bz).frozen 1
 have y3:=(zxb HX3 Bz).lt
 go_upto_region 9 with(fail)
 obtain⟨V3,hW,x,kk,far,bel⟩:=zAm (.bool s4) (.slice A4 l4 c4) (zxb HX3 Bz) nofun nofun
 rw[←hW]
 clear hW
 replace h2:=h2.k kk
 replace h4:=h4.k kk
 replace hB:=bel w.heap.size w (by omega) (zAa hB Bz)
 replace HX0:=zh (far _ _ _ (by omega) (zxb HX0 Bz))
 replace HX1:=zh (far _ _ _ (by omega) (zxb HX1 Bz))
 replace HX2:=zh (far _ _ _ (by omega) (zxb HX2 Bz))
 replace HX4:=zh (far _ _ _ (by omega) (zxb HX4 Bz))
 replace HX3:=zh x
 clear x kk far bel Bz
 have Bz:=Below.refl V3.heap.size V3
 clear p3_0 p3_1 f3_0 f3_1 y3
 obtain⟨p4_0,p4_1,-⟩:=(zxb HX4 Bz).cz
 go_wp2_with fail
 with_reducible refine(neg_r (I.below h2.i (by go_grown)) (by omega)).mono ?_
 rintro e w5 ⟨s5,A5,c5,l5,rfl,h5,m5,b5⟩
 replace b5:=zAa (a:=V3) (by go_grown) b5
 replace h4:=h4.below b5
 replace Bz:=zAa Bz b5
 clear b5
 clear p4_0 p4_1
 obtain⟨p4_0,p4_1,-⟩:=(zxb HX4 Bz).cz
 have f4_0:=(zxb HX4 Bz).frozen 0
 have f4_1:=(zxb HX4 Bz).frozen 1
 have y4:=(zxb HX4 Bz).lt
 go_upto_region 10 with(fail)
 obtain⟨V4,hW,x,kk,far,bel⟩:=zAm (.bool s5) (.slice A5 l5 c5) (zxb HX4 Bz) nofun nofun
 rw[←hW]
 clear hW
 replace h4:=h4.k kk
 replace h5:=h5.k kk
 replace hB:=bel w.heap.size w (by omega) (zAa hB Bz)
 replace HX0:=zh (far _ _ _ (by omega) (zxb HX0 Bz))
 replace HX1:=zh (far _ _ _ (by omega) (zxb HX1 Bz))
 replace HX2:=zh (far _ _ _ (by omega) (zxb HX2 Bz))
 replace HX3:=zh (far _ _ _ (by omega) (zxb HX3 Bz))
 replace HX4:=zh x
 clear x kk far bel Bz
 have Bz:=Below.refl V4.heap.size V4
 clear p4_0 p4_1 f4_0 f4_1 y4
 obtain⟨p1_0,p1_1,-⟩:=(zxb HX1 Bz).cz
 have f1_0:=(zxb HX1 Bz).frozen 0
 have f1_1:=(zxb HX1 Bz).frozen 1
 have y1:=(zxb HX1 Bz).lt
 obtain⟨p2_0,p2_1,-⟩:=(zxb HX2 Bz).cz
 have f2_0:=(zxb HX2 Bz).frozen 0
 have f2_1:=(zxb HX2 Bz).frozen 1
 have y2:=(zxb HX2 Bz).lt
 obtain⟨p3_0,p3_1,-⟩:=(zxb HX3 Bz).cz
 obtain⟨p4_0,p4_1,-⟩:=(zxb HX4 Bz).cz
 go_wp2_with fail
 (try simp only[List.append_eq,List.cons_append,List.nil_append])
 refine zAb (.take 0 (.take 1 (.only 2 (.only 3 .done)))) [3] (fun w'=>w'.cell? ⟨v3,0,none⟩=some (.bool s4)∧w'.cell? ⟨v3,1,none⟩=some (.slice A4 l4 c4)∧w'.cell? ⟨v4,0,none⟩=some (.bool s5)∧w'.cell? ⟨v4,1,none⟩=some (.slice A5 l5 c5)) (by kernel_rfl) (by kernel_rfl) ⟨p3_0,p3_1,p4_0,p4_1⟩ ?_
 iterate 2 (refine zT rfl rfl (fun w' ⟨p3_0,p3_1,p4_0,p4_1⟩=>by go_simp<;>with_reducible rfl) ?_;try simp only[Act.put,uX,uY,uZ])
 refine wpPlan_call (o:=⟨none,_,_,_,_,_⟩) rfl rfl (fun K hK=>?_)
 go_simp
 refine hK.out _ _ ⟨(zAg (by omega)).trans p3_0,(zAg (by omega)).trans p3_1,(zAg (by omega)).trans p4_0,(zAg (by omega)).trans p4_1⟩ (fun _=>?_)
 try simp only[Act.put,uX,uY,uZ]
 clear hK K
 refine zAf (o:=⟨none,_,_,_,_,_⟩) rfl rfl (by decide) (fun K hK=>?_)
 go_simp
 refine hK.out _ _ ?_
 try simp only[Act.put,uX,uY,uZ]
 clear hK K
 refine zAc ?_
 go_wp2_with fail
 have q2_0:V4.cell? ⟨w.heap.size+2,0,none⟩=some (.bool false):=p2_0
 have q2_1:V4.cell? ⟨w.heap.size+2,1,none⟩=some (.slice none 0 0):=p2_1
 (try simp only[Exit.inBlock,Exit.then])
 refine bodyPost_ret (by simp[results,Tryz.results120,go_sem,p1_0,p1_1,q2_0,q2_1];try rfl) rfl ?_
 obtain⟨V5,hW,x,kk,far,bel⟩:=zAm (.bool s4) (.slice A4 l4 c4) (zxb HX1 Bz) nofun nofun
 rw[←hW]
 clear hW
 replace h4:=h4.k kk
 replace h5:=h5.k kk
 replace hB:=bel w.heap.size w (by omega) (zAa hB Bz)
 replace HX0:=zh (far _ _ _ (by omega) (zxb HX0 Bz))
 replace HX2:=zh (far _ _ _ (by omega) (zxb HX2 Bz))
 replace HX3:=zh (far _ _ _ (by omega) (zxb HX3 Bz))
 replace HX4:=zh (far _ _ _ (by omega) (zxb HX4 Bz))
 replace HX1:=zh x
 clear x kk far bel Bz
 have Bz:=Below.refl V5.heap.size V5
 obtain⟨V6,hW,x,kk,far,bel⟩:=zAm (.bool s5) (.slice A5 l5 c5) (zxb HX2 Bz) nofun nofun
 rw[←hW]
 clear hW
 replace h4:=h4.k kk
 replace h5:=h5.k kk
 replace hB:=bel w.heap.size w (by omega) (zAa hB Bz)
 replace HX0:=zh (far _ _ _ (by omega) (zxb HX0 Bz))
 replace HX1:=zh (far _ _ _ (by omega) (zxb HX1 Bz))
 replace HX3:=zh (far _ _ _ (by omega) (zxb HX3 Bz))
 replace HX4:=zh (far _ _ _ (by omega) (zxb HX4 Bz))
 replace HX2:=zh x
 clear x kk far bel Bz
 have Bz:=Below.refl V6.heap.size V6
 have hF:=zAa (c:=V6) hB Bz
 exact⟨-n,-d,s4,A4,c4,l4,s5,A5,c5,l5,rfl,(I.below h4.i (by go_grown)),(I.below h5.i (by go_grown)),by omega,qof_neg n d,by omega,by omega,zAa hF (by go_grown)⟩
theorem parts_r_pos {n d:Int} {m:Nat} (hn:I w s A c l n) (hd:I w s' A' c' l' d) (hl:l≤m) (hl':l'≤m) (hm:m≤10000) (h0:((l':Int)==0)=false) (hd0:0<d) :
  Calls Tryz.prog 120 #[.agg #[.bool s,.slice A l c,.bool s',.slice A' l' c']] w (TellsP w (qof n d) (m+2) (m+3)):=by
 obtain⟨t0,ht⟩:∃t:Int,t=1:=⟨_,rfl⟩
 have HT:Hid ((d:Int).sign=t0):=zh (by rw[ht];exact Int.sign_eq_one_of_pos hd0)
 have g1:(t0==0)=false:=by rw[ht];rfl
 clear ht
 obtain⟨W,hW,x0,x1,x2,hB⟩:=boxes3 w #[.bool s,.slice A l c,.bool s',.slice A' l' c'] 50 #[.bool false,.slice none 0 0] 48 #[.bool false,.slice none 0 0] 48
 replace hd:=hd.below hB
 replace hn:=hn.below hB
 have HX0:=zh x0
 have HX1:=zh x1
 have HX2:=zh x2
 clear x0 x1 x2
 have Bz:=Below.refl W.heap.size W
 obtain⟨p0_0,p0_1,-⟩:=(zxb HX0 Bz).cz
 go_enter Tryz.func120,Tryz.ntmps120
 go_wp2_with fail
 rw[←hW]
 clear hW
 go_wp2_with fail
 with_reducible refine(norm_r (I.below hn (by go_grown)) (by omega)).mono ?_
 rintro e w1 ⟨s1,A1,c1,l1,rfl,h1,m1,b1⟩
 replace b1:=zAa (a:=W) (by go_grown) b1
 replace hd:=hd.below b1
 replace Bz:=zAa Bz b1
 clear b1
 clear p0_0 p0_1
 go_upto_region 2 with(fail)
 obtain⟨V1,hW,x3,hN⟩:=zAe w1 #[.bool s1,.slice A1 l1 c1] 48
 rw[←hW]
 clear hW
 obtain⟨v3,hb3⟩:∃b,b=w1.heap.size:=⟨_,rfl⟩
 rw[←hb3] at x3 ⊢
 have o0_3:w.heap.size<v3:=by have:=(zxb HX0 Bz).lt;omega
 have o1_3:w.heap.size+1<v3:=by have:=(zxb HX1 Bz).lt;omega
 have o2_3:w.heap.size+1+1<v3:=by have:=(zxb HX2 Bz).lt;omega
 have ow_3:w.heap.size≤v3:=by have:=zw hB Bz;omega
 replace hd:=hd.below hN
 replace h1:=h1.below hN
 replace hB:=zAa (zAa hB Bz) hN
 replace HX0:=zh ((zxb HX0 Bz).below hN)
 replace HX1:=zh ((zxb HX1 Bz).below hN)
 replace HX2:=zh ((zxb HX2 Bz).below hN)
 have HX3:=zh x3
 clear x3 hN Bz hb3
 have Bz:=Below.refl V1.heap.size V1
 obtain⟨-,-,p0_2,p0_3,-⟩:=(zxb HX0 Bz).cz
 go_wp2_with fail
 with_reducible refine(norm_r (I.below hd (by go_grown)) (by omega)).mono ?_
 rintro e w2 ⟨s2,A2,c2,l2,rfl,h2,m2,b2⟩
 replace b2:=zAa (a:=V1) (by go_grown) b2
 replace h1:=h1.below b2
 replace Bz:=zAa Bz b2
 clear b2
 obtain rfl:=J.pos_of h2 (by omega)
 clear p0_2 p0_3
 go_upto_region 3 with(fail)
 obtain⟨V2,hW,x4,hN⟩:=zAe w2 #[.bool false,.slice A2 l2 c2] 48
 rw[←hW]
 clear hW
 obtain⟨v4,hb4⟩:∃b,b=w2.heap.size:=⟨_,rfl⟩
 rw[←hb4] at x4 ⊢
 have o0_4:w.heap.size<v4:=by have:=(zxb HX0 Bz).lt;omega
 have o1_4:w.heap.size+1<v4:=by have:=(zxb HX1 Bz).lt;omega
 have o2_4:w.heap.size+1+1<v4:=by have:=(zxb HX2 Bz).lt;omega
 have o3_4:v3<v4:=by have:=(zxb HX3 Bz).lt;omega
 have ow_4:w.heap.size≤v4:=by have:=zw hB Bz;omega
 replace h1:=h1.below hN
 replace h2:=h2.below hN
 replace hB:=zAa (zAa hB Bz) hN
 replace HX0:=zh ((zxb HX0 Bz).below hN)
 replace HX1:=zh ((zxb HX1 Bz).below hN)
 replace HX2:=zh ((zxb HX2 Bz).below hN)
 replace HX3:=zh ((zxb HX3 Bz).below hN)
 have HX4:=zh x4
 clear x4 hN Bz hb4
 have Bz:=Below.refl V2.heap.size V2
 have p0_3:=(zxb HX0 Bz).cell 3 (.slice A' l' c') rfl
 obtain⟨p4_0,p4_1,-⟩:=(zxb HX4 Bz).cz
 go_wp2_with fail
 with_reducible refine(sign_r (I.below h2.i (by go_grown)) (by omega) t0 HT.out).mono ?_
 rintro e w3 ⟨rfl,b3⟩
 replace b3:=zAa (a:=V2) (by go_grown) b3
 replace h1:=h1.below b3
 replace h2:=h2.below b3
 replace Bz:=zAa Bz b3
 clear b3
 clear p0_3 p4_0 p4_1
 obtain⟨p1_0,p1_1,-⟩:=(zxb HX1 Bz).cz
 have f1_0:=(zxb HX1 Bz).frozen 0
 have f1_1:=(zxb HX1 Bz).frozen 1
 have y1:=(zxb HX1 Bz).lt
 obtain⟨p2_0,p2_1,-⟩:=(zxb HX2 Bz).cz
 have f2_0:=(zxb HX2 Bz).frozen 0
 have f2_1:=(zxb HX2 Bz).frozen 1
 have y2:=(zxb HX2 Bz).lt
 obtain⟨p3_0,p3_1,-⟩:=(zxb HX3 Bz).cz
 obtain⟨p4_0,p4_1,-⟩:=(zxb HX4 Bz).cz
 go_wp2_with fail
 (try simp only[List.append_eq,List.cons_append,List.nil_append])
 refine zAb (.take 0 (.take 1 (.only 2 (.only 3 .done)))) [3] (fun w'=>w'.cell? ⟨v3,0,none⟩=some (.bool s1)∧w'.cell? ⟨v3,1,none⟩=some (.slice A1 l1 c1)∧w'.cell? ⟨v4,0,none⟩=some (.bool false)∧w'.cell? ⟨v4,1,none⟩=some (.slice A2 l2 c2)) (by kernel_rfl) (by kernel_rfl) ⟨p3_0,p3_1,p4_0,p4_1⟩ ?_
 iterate 2 (refine zT rfl rfl (fun w' ⟨p3_0,p3_1,p4_0,p4_1⟩=>by go_simp<;>with_reducible rfl) ?_;try simp only[Act.put,uX,uY,uZ])
 refine wpPlan_call (o:=⟨none,_,_,_,_,_⟩) rfl rfl (fun K hK=>?_)
 go_simp
 refine hK.out _ _ ⟨(zAg (by omega)).trans p3_0,(zAg (by omega)).trans p3_1,(zAg (by omega)).trans p4_0,(zAg (by omega)).trans p4_1⟩ (fun _=>?_)
 try simp only[Act.put,uX,uY,uZ]
 clear hK K
 refine zAf (o:=⟨none,_,_,_,_,_⟩) rfl rfl (by decide) (fun K hK=>?_)
 go_simp
 refine hK.out _ _ ?_
 try simp only[Act.put,uX,uY,uZ]
 clear hK K
 refine zAc ?_
 go_wp2_with fail
 have q2_0:w3.cell? ⟨w.heap.size+2,0,none⟩=some (.bool false):=p2_0
 have q2_1:w3.cell? ⟨w.heap.size+2,1,none⟩=some (.slice none 0 0):=p2_1
 (try simp only[Exit.inBlock,Exit.then])
 refine bodyPost_ret (by simp[results,Tryz.results120,go_sem,p1_0,p1_1,q2_0,q2_1];try rfl) rfl ?_
 obtain⟨V3,hW,x,kk,far,bel⟩:=zAm (.bool s1) (.slice A1 l1 c1) (zxb HX1 Bz) nofun nofun
 rw[←hW]
 clear hW
 replace h1:=h1.k kk
 replace h2:=h2.k kk
 replace hB:=bel w.heap.size w (by omega) (zAa hB Bz)
 replace HX0:=zh (far _ _ _ (by omega) (zxb HX0 Bz))
 replace HX2:=zh (far _ _ _ (by omega) (zxb HX2 Bz))
 replace HX3:=zh (far _ _ _ (by omega) (zxb HX3 Bz))
 replace HX4:=zh (far _ _ _ (by omega) (zxb HX4 Bz))
 replace HX1:=zh x
 clear x kk far bel Bz
 have Bz:=Below.refl V3.heap.size V3
 obtain⟨V4,hW,x,kk,far,bel⟩:=zAm (.bool false) (.slice A2 l2 c2) (zxb HX2 Bz) nofun nofun
 rw[←hW]
 clear hW
 replace h1:=h1.k kk
 replace h2:=h2.k kk
 replace hB:=bel w.heap.size w (by omega) (zAa hB Bz)
 replace HX0:=zh (far _ _ _ (by omega) (zxb HX0 Bz))
 replace HX1:=zh (far _ _ _ (by omega) (zxb HX1 Bz))
 replace HX3:=zh (far _ _ _ (by omega) (zxb HX3 Bz))
 replace HX4:=zh (far _ _ _ (by omega) (zxb HX4 Bz))
 replace HX2:=zh x
 clear x kk far bel Bz
 have Bz:=Below.refl V4.heap.size V4
 have hF:=zAa (c:=V4) hB Bz
 exact⟨n,d,s1,A1,c1,l1,false,A2,c2,l2,rfl,(I.below h1.i (by go_grown)),(I.below h2.i (by go_grown)),by omega,rfl,by omega,by omega,zAa hF (by go_grown)⟩
theorem parts_r {q:Rat} {m:Nat} (h:R w s A c l s' A' c' l' q m) (hm:m≤10000) :
  Calls Tryz.prog 120 #[.agg #[.bool s,.slice A l c,.bool s',.slice A' l' c']] w (TellsP w q (m+2) (m+3)):=by
 obtain⟨n,d,hn,hd,hq,hl,hl'⟩:=h
 by_cases h0:l'=0
 ·rw[if_pos h0] at hq
  subst hq
  exact parts_r_one hn hd hl hl' hm (by simp;omega)
 ·rw[if_neg h0] at hq
  subst hq
  rcases Int.lt_trichotomy d 0 with h1 | h1 | h1
  ·exact parts_r_neg hn hd hl hl' hm (by simp;omega) h1
  ·exact parts_r_zero hn hd hl hl' hm (by simp;omega) (zh h1)
  ·exact parts_r_pos hn hd hl hl' hm (by simp;omega) h1
theorem lowest_r_one {n d z:Int} {q:Rat} (h:I w s A c l n) (h':I w s' A' c' l' d) (hl:l≤2000) (hl':l'≤2000) (hg0:(Int.gcd n d:Int)≠0) (HG:Hid (nl (Int.gcd n d:Int).natAbs≤l')) (HN:Hid (q.num=n / (Int.gcd n d:Int))) (HD:Hid (dn q=0)) (HZ:Hid (cmpI (d / (Int.gcd n d:Int)) 1=z)) (hz:(z==0)=true) :
  Calls Tryz.prog 138 #[.agg #[.bool s,.slice A l c],.agg #[.bool s',.slice A' l' c']] w (TellsR w q):=by
 obtain⟨W,hW,x0,x1,x2,hB⟩:=boxes3 w #[.bool s,.slice A l c] 48 #[.bool s',.slice A' l' c'] 48 #[.bool false,.slice none 0 0,.bool false,.slice none 0 0] 50
 replace h':=h'.below hB
 replace h:=h.below hB
 have HX0:=zh x0
 have HX1:=zh x1
 have HX2:=zh x2
 clear x0 x1 x2
 have Bz:=Below.refl W.heap.size W
 obtain⟨p0_0,p0_1,-⟩:=(zxb HX0 Bz).cz
 obtain⟨p1_0,p1_1,-⟩:=(zxb HX1 Bz).cz
 go_enter Tryz.func138,Tryz.ntmps138
 go_wp2_with fail
 rw[←hW]
 clear hW
 go_wp2_with fail
 with_reducible refine(gcdq (I.below h (by go_grown)) (I.below h' (by go_grown)) (by omega) (by omega)).mono ?_
 rintro e w1 ⟨s1,A1,c1,l1,rfl,h1,m1,b1⟩
 replace b1:=zAa (a:=W) (by go_grown) b1
 replace h':=h'.below b1
 replace h:=h.below b1
 replace Bz:=zAa Bz b1
 clear b1
 have lg:=h1.len
 replace lg:l1≤l':=by rw[lg];have:=HG.out;omega
 clear p0_0 p0_1 p1_0 p1_1
 go_upto_region 2 with(fail)
 obtain⟨V1,hW,x3,hN⟩:=zAe w1 #[.bool s1,.slice A1 l1 c1] 48
 rw[←hW]
 clear hW
 obtain⟨v3,hb3⟩:∃b,b=w1.heap.size:=⟨_,rfl⟩
 rw[←hb3] at x3 ⊢
 have o0_3:w.heap.size<v3:=by have:=(zxb HX0 Bz).lt;omega
 have o1_3:w.heap.size+1<v3:=by have:=(zxb HX1 Bz).lt;omega
 have o2_3:w.heap.size+1+1<v3:=by have:=(zxb HX2 Bz).lt;omega
 have ow_3:w.heap.size≤v3:=by have:=zw hB Bz;omega
 replace h':=h'.below hN
 replace h1:=h1.below hN
 replace h:=h.below hN
 replace hB:=zAa (zAa hB Bz) hN
 replace HX0:=zh ((zxb HX0 Bz).below hN)
 replace HX1:=zh ((zxb HX1 Bz).below hN)
 replace HX2:=zh ((zxb HX2 Bz).below hN)
 have HX3:=zh x3
 clear x3 hN Bz hb3
 have Bz:=Below.refl V1.heap.size V1
 obtain⟨p0_0,p0_1,-⟩:=(zxb HX0 Bz).cz
 obtain⟨p3_0,p3_1,-⟩:=(zxb HX3 Bz).cz
 go_wp2_with fail
 with_reducible refine(divmodq (I.below h (by go_grown)) (I.below h1.i (by go_grown)) (by omega) (by omega) hg0).mono ?_
 rintro e w2 ⟨s2,A2,c2,l2,s2r,A2r,c2r,l2r,rfl,h2,h2r,m2,m2r,b2⟩
 replace b2:=zAa (a:=V1) (by go_grown) b2
 replace h':=h'.below b2
 replace h1:=h1.below b2
 replace Bz:=zAa Bz b2
 clear h2r
 clear b2
 clear p0_0 p0_1 p3_0 p3_1
 obtain⟨p0_0,p0_1,-⟩:=(zxb HX0 Bz).cz
 have f0_0:=(zxb HX0 Bz).frozen 0
 have f0_1:=(zxb HX0 Bz).frozen 1
 have y0:=(zxb HX0 Bz).lt
 go_upto_region 3 with(fail)
 obtain⟨V2,hW,x,kk,far,bel⟩:=zAm (.bool s2) (.slice A2 l2 c2) (zxb HX0 Bz) nofun nofun
 rw[←hW]
 clear hW
 replace h':=h'.k kk
 replace h1:=h1.k kk
 replace h2:=h2.k kk
 replace hB:=bel w.heap.size w (by omega) (zAa hB Bz)
 replace HX1:=zh (far _ _ _ (by omega) (zxb HX1 Bz))
 replace HX2:=zh (far _ _ _ (by omega) (zxb HX2 Bz))
 replace HX3:=zh (far _ _ _ (by omega) (zxb HX3 Bz))
 replace HX0:=zh x
 clear x kk far bel Bz
 have Bz:=Below.refl V2.heap.size V2
 clear p0_0 p0_1 f0_0 f0_1 y0
 obtain⟨p1_0,p1_1,-⟩:=(zxb HX1 Bz).cz
 obtain⟨p3_0,p3_1,-⟩:=(zxb HX3 Bz).cz
 go_wp2_with fail
 with_reducible refine(divmodq (I.below h' (by go_grown)) (I.below h1.i (by go_grown)) (by omega) (by omega) hg0).mono ?_
 rintro e w3 ⟨s3,A3,c3,l3,s3r,A3r,c3r,l3r,rfl,h3,h3r,m3,m3r,b3⟩
 replace b3:=zAa (a:=V2) (by go_grown) b3
 replace h2:=h2.below b3
 replace Bz:=zAa Bz b3
 clear h3r
 clear b3
 clear p1_0 p1_1 p3_0 p3_1
 obtain⟨p1_0,p1_1,-⟩:=(zxb HX1 Bz).cz
 have f1_0:=(zxb HX1 Bz).frozen 0
 have f1_1:=(zxb HX1 Bz).frozen 1
 have y1:=(zxb HX1 Bz).lt
 go_upto_region 4 with(fail)
 obtain⟨V3,hW,x,kk,far,bel⟩:=zAm (.bool s3) (.slice A3 l3 c3) (zxb HX1 Bz) nofun nofun
 rw[←hW]
 clear hW
 replace h2:=h2.k kk
 replace h3:=h3.k kk
 replace hB:=bel w.heap.size w (by omega) (zAa hB Bz)
 replace HX0:=zh (far _ _ _ (by omega) (zxb HX0 Bz))
 replace HX2:=zh (far _ _ _ (by omega) (zxb HX2 Bz))
 replace HX3:=zh (far _ _ _ (by omega) (zxb HX3 Bz))
 replace HX1:=zh x
 clear x kk far bel Bz
 have Bz:=Below.refl V3.heap.size V3
 clear p1_0 p1_1 f1_0 f1_1 y1
 obtain⟨p1_0,p1_1,-⟩:=(zxb HX1 Bz).cz
 go_wp2_with fail
 (try simp only[List.append_eq,List.cons_append,List.nil_append])
 refine zAb (.take 0 (.only 1 (.only 2 (.take 3 .done)))) [] (fun w'=>w'.cell? ⟨w.heap.size+1,0,none⟩=some (.bool s3)∧w'.cell? ⟨w.heap.size+1,1,none⟩=some (.slice A3 l3 c3)) (by kernel_rfl) (by kernel_rfl) ⟨p1_0,p1_1⟩ ?_
 refine zT rfl rfl (fun w' ⟨p1_0,p1_1⟩=>by go_simp<;>with_reducible rfl) ?_
 try simp only[Act.put,uX,uY,uZ]
 refine zC 22 rfl rfl (fun K hK=>?_)
 go_simp
 with_reducible refine(ofq 1 (zh (by omega))).mono ?_
 rintro e w4 ⟨s4,A4,c4,l4,rfl,h4,m4,b4⟩
 replace b4:=zAa (a:=V3) (by go_grown) b4
 replace h2:=h2.below b4
 replace h3:=h3.below b4
 replace Bz:=zAa Bz b4
 clear b4
 clear p1_0 p1_1
 obtain⟨p1_0,p1_1,-⟩:=(zxb HX1 Bz).cz
 refine hK.out _ _ ⟨p1_0,p1_1⟩ (fun _=>?_)
 try simp only[Act.put,uX,uY,uZ]
 clear hK K
 refine zC 23 rfl rfl (fun K hK=>?_)
 go_simp
 with_reducible refine(cmpq (I.below h3.i (by go_grown)) (I.below h4.i (by go_grown)) (by omega) (by omega) z HZ.out).mono ?_
 rintro e w5 ⟨rfl,b5⟩
 replace b5:=zAa (a:=w4) (by go_grown) b5
 replace h2:=h2.below b5
 replace Bz:=zAa Bz b5
 clear b5
 clear p1_0 p1_1
 obtain⟨p1_0,p1_1,-⟩:=(zxb HX1 Bz).cz
 have f1_0:=(zxb HX1 Bz).frozen 0
 have f1_1:=(zxb HX1 Bz).frozen 1
 have y1:=(zxb HX1 Bz).lt
 refine hK.out _ _ ⟨p1_0,p1_1⟩ (fun _=>?_)
 try simp only[Act.put,uX,uY,uZ]
 clear hK K
 refine zT rfl rfl (fun w' ⟨p1_0,p1_1⟩=>by go_simp<;>with_reducible rfl) ?_
 try simp only[Act.put,uX,uY,uZ]
 refine zAc ?_
 go_upto_region 6 with(fail)
 obtain⟨V4,hW,x,kk,far,bel⟩:=zAm (.bool false) (.slice none 0 0) (zxb HX1 Bz) nofun nofun
 rw[←hW]
 clear hW
 replace h2:=h2.k kk
 replace hB:=bel w.heap.size w (by omega) (zAa hB Bz)
 replace HX0:=zh (far _ _ _ (by omega) (zxb HX0 Bz))
 replace HX2:=zh (far _ _ _ (by omega) (zxb HX2 Bz))
 replace HX3:=zh (far _ _ _ (by omega) (zxb HX3 Bz))
 replace HX1:=zh x
 clear x kk far bel Bz
 have Bz:=Below.refl V4.heap.size V4
 clear p1_0 p1_1 f1_0 f1_1 y1
 obtain⟨p0_0,p0_1,-⟩:=(zxb HX0 Bz).cz
 obtain⟨p1_0,p1_1,-⟩:=(zxb HX1 Bz).cz
 obtain⟨p2_0,p2_1,p2_2,p2_3,-⟩:=(zxb HX2 Bz).cz
 have f2_0:=(zxb HX2 Bz).frozen 0
 have f2_1:=(zxb HX2 Bz).frozen 1
 have f2_2:=(zxb HX2 Bz).frozen 2
 have f2_3:=(zxb HX2 Bz).frozen 3
 have y2:=(zxb HX2 Bz).lt
 go_wp2_with fail
 have q2_0:V4.cell? ⟨w.heap.size+2,0,none⟩=some (.bool false):=p2_0
 have q2_1:V4.cell? ⟨w.heap.size+2,1,none⟩=some (.slice none 0 0):=p2_1
 have q2_2:V4.cell? ⟨w.heap.size+2,2,none⟩=some (.bool false):=p2_2
 have q2_3:V4.cell? ⟨w.heap.size+2,3,none⟩=some (.slice none 0 0):=p2_3
 (try simp only[Exit.inBlock,Exit.then])
 refine bodyPost_ret (by simp[results,Tryz.results138,go_sem,q2_0,q2_1,q2_2,q2_3];try rfl) rfl ?_
 obtain⟨V5,hW,x,kk,far,bel⟩:=store4 (.bool s2) (.slice A2 l2 c2) (.bool false) (.slice none 0 0) (zxb HX2 Bz) nofun nofun nofun nofun
 rw[←hW]
 clear hW
 replace h2:=h2.k kk
 replace hB:=bel w.heap.size w (by omega) (zAa hB Bz)
 replace HX0:=zh (far _ _ _ (by omega) (zxb HX0 Bz))
 replace HX1:=zh (far _ _ _ (by omega) (zxb HX1 Bz))
 replace HX3:=zh (far _ _ _ (by omega) (zxb HX3 Bz))
 replace HX2:=zh x
 clear x kk far bel Bz
 have Bz:=Below.refl V5.heap.size V5
 have hF:=zAa (c:=V5) hB Bz
 exact⟨s2,A2,c2,l2,false,none,0,0,rfl,⟨by rw[HN.out];exact(J.below h2 (by go_grown)),by rw[HD.out];exact J.zero _⟩,zAa hF (by go_grown)⟩
theorem lowest_r_more {n d z:Int} {q:Rat} (h:I w s A c l n) (h':I w s' A' c' l' d) (hl:l≤2000) (hl':l'≤2000) (hg0:(Int.gcd n d:Int)≠0) (HG:Hid (nl (Int.gcd n d:Int).natAbs≤l')) (HN:Hid (q.num=n / (Int.gcd n d:Int))) (HD:Hid (dn q=d / (Int.gcd n d:Int))) (HZ:Hid (cmpI (d / (Int.gcd n d:Int)) 1=z)) (hz:(z==0)=false) :
  Calls Tryz.prog 138 #[.agg #[.bool s,.slice A l c],.agg #[.bool s',.slice A' l' c']] w (TellsR w q):=by
 obtain⟨W,hW,x0,x1,x2,hB⟩:=boxes3 w #[.bool s,.slice A l c] 48 #[.bool s',.slice A' l' c'] 48 #[.bool false,.slice none 0 0,.bool false,.slice none 0 0] 50
 replace h':=h'.below hB
 replace h:=h.below hB
 have HX0:=zh x0
 have HX1:=zh x1
 have HX2:=zh x2
 clear x0 x1 x2
 have Bz:=Below.refl W.heap.size W
 obtain⟨p0_0,p0_1,-⟩:=(zxb HX0 Bz).cz
 obtain⟨p1_0,p1_1,-⟩:=(zxb HX1 Bz).cz
 go_enter Tryz.func138,Tryz.ntmps138
 go_wp2_with fail
 rw[←hW]
 clear hW
 go_wp2_with fail
 with_reducible refine(gcdq (I.below h (by go_grown)) (I.below h' (by go_grown)) (by omega) (by omega)).mono ?_
 rintro e w1 ⟨s1,A1,c1,l1,rfl,h1,m1,b1⟩
 replace b1:=zAa (a:=W) (by go_grown) b1
 replace h':=h'.below b1
 replace h:=h.below b1
 replace Bz:=zAa Bz b1
 clear b1
 have lg:=h1.len
 replace lg:l1≤l':=by rw[lg];have:=HG.out;omega
 clear p0_0 p0_1 p1_0 p1_1
 go_upto_region 2 with(fail)
 obtain⟨V1,hW,x3,hN⟩:=zAe w1 #[.bool s1,.slice A1 l1 c1] 48
 rw[←hW]
 clear hW
 obtain⟨v3,hb3⟩:∃b,b=w1.heap.size:=⟨_,rfl⟩
 rw[←hb3] at x3 ⊢
 have o0_3:w.heap.size<v3:=by have:=(zxb HX0 Bz).lt;omega
 have o1_3:w.heap.size+1<v3:=by have:=(zxb HX1 Bz).lt;omega
 have o2_3:w.heap.size+1+1<v3:=by have:=(zxb HX2 Bz).lt;omega
 have ow_3:w.heap.size≤v3:=by have:=zw hB Bz;omega
 replace h':=h'.below hN
 replace h1:=h1.below hN
 replace h:=h.below hN
 replace hB:=zAa (zAa hB Bz) hN
 replace HX0:=zh ((zxb HX0 Bz).below hN)
 replace HX1:=zh ((zxb HX1 Bz).below hN)
 replace HX2:=zh ((zxb HX2 Bz).below hN)
 have HX3:=zh x3
 clear x3 hN Bz hb3
 have Bz:=Below.refl V1.heap.size V1
 obtain⟨p0_0,p0_1,-⟩:=(zxb HX0 Bz).cz
 obtain⟨p3_0,p3_1,-⟩:=(zxb HX3 Bz).cz
 go_wp2_with fail
 with_reducible refine(divmodq (I.below h (by go_grown)) (I.below h1.i (by go_grown)) (by omega) (by omega) hg0).mono ?_
 rintro e w2 ⟨s2,A2,c2,l2,s2r,A2r,c2r,l2r,rfl,h2,h2r,m2,m2r,b2⟩
 replace b2:=zAa (a:=V1) (by go_grown) b2
 replace h':=h'.below b2
 replace h1:=h1.below b2
 replace Bz:=zAa Bz b2
 clear h2r
 clear b2
 clear p0_0 p0_1 p3_0 p3_1
 obtain⟨p0_0,p0_1,-⟩:=(zxb HX0 Bz).cz
 have f0_0:=(zxb HX0 Bz).frozen 0
 have f0_1:=(zxb HX0 Bz).frozen 1
 have y0:=(zxb HX0 Bz).lt
 go_upto_region 3 with(fail)
 obtain⟨V2,hW,x,kk,far,bel⟩:=zAm (.bool s2) (.slice A2 l2 c2) (zxb HX0 Bz) nofun nofun
 rw[←hW]
 clear hW
 replace h':=h'.k kk
 replace h1:=h1.k kk
 replace h2:=h2.k kk
 replace hB:=bel w.heap.size w (by omega) (zAa hB Bz)
 replace HX1:=zh (far _ _ _ (by omega) (zxb HX1 Bz))
 replace HX2:=zh (far _ _ _ (by omega) (zxb HX2 Bz))
 replace HX3:=zh (far _ _ _ (by omega) (zxb HX3 Bz))
 replace HX0:=zh x
 clear x kk far bel Bz
 have Bz:=Below.refl V2.heap.size V2
 clear p0_0 p0_1 f0_0 f0_1 y0
 obtain⟨p1_0,p1_1,-⟩:=(zxb HX1 Bz).cz
 obtain⟨p3_0,p3_1,-⟩:=(zxb HX3 Bz).cz
 go_wp2_with fail
 with_reducible refine(divmodq (I.below h' (by go_grown)) (I.below h1.i (by go_grown)) (by omega) (by omega) hg0).mono ?_
 rintro e w3 ⟨s3,A3,c3,l3,s3r,A3r,c3r,l3r,rfl,h3,h3r,m3,m3r,b3⟩
 replace b3:=zAa (a:=V2) (by go_grown) b3
 replace h2:=h2.below b3
 replace Bz:=zAa Bz b3
 clear h3r
 clear b3
 clear p1_0 p1_1 p3_0 p3_1
 obtain⟨p1_0,p1_1,-⟩:=(zxb HX1 Bz).cz
 have f1_0:=(zxb HX1 Bz).frozen 0
 have f1_1:=(zxb HX1 Bz).frozen 1
 have y1:=(zxb HX1 Bz).lt
 go_upto_region 4 with(fail)
 obtain⟨V3,hW,x,kk,far,bel⟩:=zAm (.bool s3) (.slice A3 l3 c3) (zxb HX1 Bz) nofun nofun
 rw[←hW]
 clear hW
 replace h2:=h2.k kk
 replace h3:=h3.k kk
 replace hB:=bel w.heap.size w (by omega) (zAa hB Bz)
 replace HX0:=zh (far _ _ _ (by omega) (zxb HX0 Bz))
 replace HX2:=zh (far _ _ _ (by omega) (zxb HX2 Bz))
 replace HX3:=zh (far _ _ _ (by omega) (zxb HX3 Bz))
 replace HX1:=zh x
 clear x kk far bel Bz
 have Bz:=Below.refl V3.heap.size V3
 clear p1_0 p1_1 f1_0 f1_1 y1
 obtain⟨p1_0,p1_1,-⟩:=(zxb HX1 Bz).cz
 go_wp2_with fail
 (try simp only[List.append_eq,List.cons_append,List.nil_append])
 refine zAb (.take 0 (.only 1 (.only 2 (.take 3 .done)))) [] (fun w'=>w'.cell? ⟨w.heap.size+1,0,none⟩=some (.bool s3)∧w'.cell? ⟨w.heap.size+1,1,none⟩=some (.slice A3 l3 c3)) (by kernel_rfl) (by kernel_rfl) ⟨p1_0,p1_1⟩ ?_
 refine zT rfl rfl (fun w' ⟨p1_0,p1_1⟩=>by go_simp<;>with_reducible rfl) ?_
 try simp only[Act.put,uX,uY,uZ]
 refine zC 22 rfl rfl (fun K hK=>?_)
 go_simp
 with_reducible refine(ofq 1 (zh (by omega))).mono ?_
 rintro e w4 ⟨s4,A4,c4,l4,rfl,h4,m4,b4⟩
 replace b4:=zAa (a:=V3) (by go_grown) b4
 replace h2:=h2.below b4
 replace h3:=h3.below b4
 replace Bz:=zAa Bz b4
 clear b4
 clear p1_0 p1_1
 obtain⟨p1_0,p1_1,-⟩:=(zxb HX1 Bz).cz
 refine hK.out _ _ ⟨p1_0,p1_1⟩ (fun _=>?_)
 try simp only[Act.put,uX,uY,uZ]
 clear hK K
 refine zC 23 rfl rfl (fun K hK=>?_)
 go_simp
 with_reducible refine(cmpq (I.below h3.i (by go_grown)) (I.below h4.i (by go_grown)) (by omega) (by omega) z HZ.out).mono ?_
 rintro e w5 ⟨rfl,b5⟩
 replace b5:=zAa (a:=w4) (by go_grown) b5
 replace h2:=h2.below b5
 replace h3:=h3.below b5
 replace Bz:=zAa Bz b5
 clear b5
 clear p1_0 p1_1
 obtain⟨p0_0,p0_1,-⟩:=(zxb HX0 Bz).cz
 obtain⟨p1_0,p1_1,-⟩:=(zxb HX1 Bz).cz
 obtain⟨p2_0,p2_1,p2_2,p2_3,-⟩:=(zxb HX2 Bz).cz
 have f2_0:=(zxb HX2 Bz).frozen 0
 have f2_1:=(zxb HX2 Bz).frozen 1
 have f2_2:=(zxb HX2 Bz).frozen 2
 have f2_3:=(zxb HX2 Bz).frozen 3
 have y2:=(zxb HX2 Bz).lt
 refine hK.out _ _ ⟨p1_0,p1_1⟩ (fun _=>?_)
 try simp only[Act.put,uX,uY,uZ]
 clear hK K
 refine zT rfl rfl (fun w' ⟨p1_0,p1_1⟩=>by go_simp<;>with_reducible rfl) ?_
 try simp only[Act.put,uX,uY,uZ]
 refine zAc ?_
 go_wp2_with fail
 have q2_0:w5.cell? ⟨w.heap.size+2,0,none⟩=some (.bool false):=p2_0
 have q2_1:w5.cell? ⟨w.heap.size+2,1,none⟩=some (.slice none 0 0):=p2_1
 have q2_2:w5.cell? ⟨w.heap.size+2,2,none⟩=some (.bool false):=p2_2
 have q2_3:w5.cell? ⟨w.heap.size+2,3,none⟩=some (.slice none 0 0):=p2_3
 (try simp only[Exit.inBlock,Exit.then])
 refine bodyPost_ret (by simp[results,Tryz.results138,go_sem,q2_0,q2_1,q2_2,q2_3];try rfl) rfl ?_
 obtain⟨V4,hW,x,kk,far,bel⟩:=store4 (.bool s2) (.slice A2 l2 c2) (.bool s3) (.slice A3 l3 c3) (zxb HX2 Bz) nofun nofun nofun nofun
 rw[←hW]
 clear hW
 replace h2:=h2.k kk
 replace h3:=h3.k kk
 replace hB:=bel w.heap.size w (by omega) (zAa hB Bz)
 replace HX0:=zh (far _ _ _ (by omega) (zxb HX0 Bz))
 replace HX1:=zh (far _ _ _ (by omega) (zxb HX1 Bz))
 replace HX3:=zh (far _ _ _ (by omega) (zxb HX3 Bz))
 replace HX2:=zh x
 clear x kk far bel Bz
 have Bz:=Below.refl V4.heap.size V4
 have hF:=zAa (c:=V4) hB Bz
 exact⟨s2,A2,c2,l2,s3,A3,c3,l3,rfl,⟨by rw[HN.out];exact(J.below h2 (by go_grown)),by rw[HD.out];exact(J.below h3 (by go_grown))⟩,zAa hF (by go_grown)⟩
theorem cmpI_zero {a b:Int}:cmpI a b=0↔a=b:=by unfold cmpI;split<;>(try split)<;>omega
theorem lowest_r {n d:Int} (h:I w s A c l n) (h':I w s' A' c' l' d) (hl:l≤2000) (hl':l'≤2000) (hd:0<d) :
  Calls Tryz.prog 138 #[.agg #[.bool s,.slice A l c],.agg #[.bool s',.slice A' l' c']] w (TellsR w (qof n d)):=by
 have hg0:(Int.gcd n d:Int)≠0:=by
  intro e
  have:=Int.gcd_eq_zero_iff.1 (by omega:Int.gcd n d=0)
  omega
 have hn:=qof_num (n:=n) hd
 have hdn:=dn_qof (n:=n) hd rfl
 have hG:nl (Int.gcd n d:Int).natAbs≤l':=by
  refine Nat.le_trans (nl_mono (b:=d.natAbs) ?_) h'.nl
  rw[Int.natAbs_natCast]
  exact Nat.le_of_dvd (by omega) (Int.ofNat_dvd.1 (Int.dvd_natAbs.2 (Int.gcd_dvd_right ..)))
 by_cases hr:d / (Int.gcd n d:Int)=1
 ·exact lowest_r_one h h' hl hl' hg0 (zh hG) (zh hn) (zh (by rw[hdn,if_pos hr])) (zh rfl) (by rw[cmpI_zero.2 hr];rfl)
 ·exact lowest_r_more h h' hl hl' hg0 (zh hG) (zh hn) (zh (by rw[hdn,if_neg hr])) (zh rfl) (by have:=mt cmpI_zero.1 hr;simpa using this)
theorem norm_r4 {q:Rat} {m:Nat} (h:R w s A c l s' A' c' l' q m) (hm:m≤1900) :
  Calls Tryz.prog 109 #[.agg #[.bool s,.slice A l c,.bool s',.slice A' l' c']] w (TellsR w q):=by
 obtain⟨W,hW,x0,x1,hB⟩:=boxes2 w #[.bool s,.slice A l c,.bool s',.slice A' l' c'] 50 #[.bool false,.slice none 0 0,.bool false,.slice none 0 0] 50
 replace h:=h.below hB
 have HX0:=zh x0
 have HX1:=zh x1
 clear x0 x1
 have Bz:=Below.refl W.heap.size W
 obtain⟨p0_0,p0_1,p0_2,p0_3,-⟩:=(zxb HX0 Bz).cz
 go_enter Tryz.func109,Tryz.ntmps109
 go_wp2_with fail
 rw[←hW]
 clear hW
 go_wp2_with fail
 with_reducible refine(parts_r (R.below h (by go_grown)) (by omega)).mono ?_
 rintro e w1 ⟨n1,d1,s1,A1,c1,l1,s1r,A1r,c1r,l1r,rfl,h1,h1r,e1,q1,m1,m1r,b1⟩
 replace b1:=zAa (a:=W) (by go_grown) b1
 replace Bz:=zAa Bz b1
 clear b1
 clear p0_0 p0_1 p0_2 p0_3
 go_upto_region 2 with(fail)
 obtain⟨V1,hW,x2,x3,hN⟩:=boxes2 w1 #[.bool s1,.slice A1 l1 c1] 48 #[.bool s1r,.slice A1r l1r c1r] 48
 rw[←hW]
 clear hW
 obtain⟨v3,hb3⟩:∃b,b=w1.heap.size+1:=⟨_,rfl⟩
 rw[←hb3] at x3 ⊢
 obtain⟨v2,hb2⟩:∃b,b=w1.heap.size:=⟨_,rfl⟩
 rw[←hb2] at x2 ⊢
 have o0_2:w.heap.size<v2:=by have:=(zxb HX0 Bz).lt;omega
 have o1_2:w.heap.size+1<v2:=by have:=(zxb HX1 Bz).lt;omega
 have ow_2:w.heap.size≤v2:=by have:=zw hB Bz;omega
 have o0_3:w.heap.size<v3:=by have:=(zxb HX0 Bz).lt;omega
 have o1_3:w.heap.size+1<v3:=by have:=(zxb HX1 Bz).lt;omega
 have o2_3:v2<v3:=by omega
 have ow_3:w.heap.size≤v3:=by have:=zw hB Bz;omega
 replace h1:=h1.below hN
 replace h1r:=h1r.below hN
 replace hB:=zAa (zAa hB Bz) hN
 replace HX0:=zh ((zxb HX0 Bz).below hN)
 replace HX1:=zh ((zxb HX1 Bz).below hN)
 have HX2:=zh x2
 have HX3:=zh x3
 clear x2 x3 hN Bz hb2 hb3
 have Bz:=Below.refl V1.heap.size V1
 obtain⟨p2_0,p2_1,-⟩:=(zxb HX2 Bz).cz
 obtain⟨p3_0,p3_1,-⟩:=(zxb HX3 Bz).cz
 go_wp2_with fail
 with_reducible refine(lowest_r (I.below h1 (by go_grown)) (I.below h1r (by go_grown)) (by omega) (by omega) e1).mono ?_
 rintro e w2 ⟨s2,A2,c2,l2,s2r,A2r,c2r,l2r,rfl,h2,b2⟩
 replace b2:=zAa (a:=V1) (by go_grown) b2
 replace Bz:=zAa Bz b2
 clear b2
 have m2:=h2.len
 clear p2_0 p2_1 p3_0 p3_1
 obtain⟨p1_0,p1_1,p1_2,p1_3,-⟩:=(zxb HX1 Bz).cz
 have f1_0:=(zxb HX1 Bz).frozen 0
 have f1_1:=(zxb HX1 Bz).frozen 1
 have f1_2:=(zxb HX1 Bz).frozen 2
 have f1_3:=(zxb HX1 Bz).frozen 3
 have y1:=(zxb HX1 Bz).lt
 go_wp2_with fail
 (try simp only[Exit.inBlock,Exit.then])
 refine bodyPost_ret (by simp[results,Tryz.results109,go_sem,p1_0,p1_1,p1_2,p1_3];try rfl) rfl ?_
 obtain⟨V2,hW,x,kk,far,bel⟩:=store4 (.bool s2) (.slice A2 l2 c2) (.bool s2r) (.slice A2r l2r c2r) (zxb HX1 Bz) nofun nofun nofun nofun
 rw[←hW]
 clear hW
 replace h2:=h2.k kk
 replace hB:=bel w.heap.size w (by omega) (zAa hB Bz)
 replace HX0:=zh (far _ _ _ (by omega) (zxb HX0 Bz))
 replace HX2:=zh (far _ _ _ (by omega) (zxb HX2 Bz))
 replace HX3:=zh (far _ _ _ (by omega) (zxb HX3 Bz))
 replace HX1:=zh x
 clear x kk far bel Bz
 have Bz:=Below.refl V2.heap.size V2
 have hF:=zAa (c:=V2) hB Bz
 exact⟨s2,A2,c2,l2,s2r,A2r,c2r,l2r,rfl,by rw[←q1];exact(RN.below h2 (by go_grown)),zAa hF (by go_grown)⟩
theorem cmp_r4 {q r:Rat} {m m':Nat} (h:R w s A c l s' A' c' l' q m) (h':R w t B k e t' B' k' e' r m') (hm:m+m'≤900) (z:Int) (hz:Hid (cmpQ q r=z)) :
  Calls Tryz.prog 79 #[.agg #[.bool s,.slice A l c,.bool s',.slice A' l' c'],.agg #[.bool t,.slice B e k,.bool t',.slice B' e' k']] w fun e w'=>e=.returned (.int .i64 z)∧Below w.heap.size w w':=by
 obtain⟨W,hW,x0,x1,hB⟩:=boxes2 w #[.bool s,.slice A l c,.bool s',.slice A' l' c'] 50 #[.bool t,.slice B e k,.bool t',.slice B' e' k'] 50
 replace h:=h.below hB
 replace h':=h'.below hB
 have HX0:=zh x0
 have HX1:=zh x1
 clear x0 x1
 have Bz:=Below.refl W.heap.size W
 obtain⟨p0_0,p0_1,p0_2,p0_3,-⟩:=(zxb HX0 Bz).cz
 go_enter Tryz.func79,Tryz.ntmps79
 go_wp2_with fail
 rw[←hW]
 clear hW
 go_wp2_with fail
 with_reducible refine(parts_r (R.below h (by go_grown)) (by omega)).mono ?_
 rintro e w1 ⟨n1,d1,s1,A1,c1,l1,s1r,A1r,c1r,l1r,rfl,h1,h1r,e1,q1,m1,m1r,b1⟩
 replace b1:=zAa (a:=W) (by go_grown) b1
 replace h':=h'.below b1
 replace Bz:=zAa Bz b1
 clear b1
 clear p0_0 p0_1 p0_2 p0_3
 go_upto_region 2 with(fail)
 obtain⟨V1,hW,x2,x3,hN⟩:=boxes2 w1 #[.bool s1,.slice A1 l1 c1] 48 #[.bool s1r,.slice A1r l1r c1r] 48
 rw[←hW]
 clear hW
 obtain⟨v3,hb3⟩:∃b,b=w1.heap.size+1:=⟨_,rfl⟩
 rw[←hb3] at x3 ⊢
 obtain⟨v2,hb2⟩:∃b,b=w1.heap.size:=⟨_,rfl⟩
 rw[←hb2] at x2 ⊢
 have o0_2:w.heap.size<v2:=by have:=(zxb HX0 Bz).lt;omega
 have o1_2:w.heap.size+1<v2:=by have:=(zxb HX1 Bz).lt;omega
 have ow_2:w.heap.size≤v2:=by have:=zw hB Bz;omega
 have o0_3:w.heap.size<v3:=by have:=(zxb HX0 Bz).lt;omega
 have o1_3:w.heap.size+1<v3:=by have:=(zxb HX1 Bz).lt;omega
 have o2_3:v2<v3:=by omega
 have ow_3:w.heap.size≤v3:=by have:=zw hB Bz;omega
 replace h1:=h1.below hN
 replace h1r:=h1r.below hN
 replace h':=h'.below hN
 replace hB:=zAa (zAa hB Bz) hN
 replace HX0:=zh ((zxb HX0 Bz).below hN)
 replace HX1:=zh ((zxb HX1 Bz).below hN)
 have HX2:=zh x2
 have HX3:=zh x3
 clear x2 x3 hN Bz hb2 hb3
 have Bz:=Below.refl V1.heap.size V1
 obtain⟨p1_0,p1_1,p1_2,p1_3,-⟩:=(zxb HX1 Bz).cz
 go_wp2_with fail
 with_reducible refine(parts_r (R.below h' (by go_grown)) (by omega)).mono ?_
 rintro e w2 ⟨n2,d2,s2,A2,c2,l2,s2r,A2r,c2r,l2r,rfl,h2,h2r,e2,q2,m2,m2r,b2⟩
 replace b2:=zAa (a:=V1) (by go_grown) b2
 replace h1:=h1.below b2
 replace h1r:=h1r.below b2
 replace Bz:=zAa Bz b2
 clear b2
 clear p1_0 p1_1 p1_2 p1_3
 go_upto_region 3 with(fail)
 obtain⟨V2,hW,x4,x5,hN⟩:=boxes2 w2 #[.bool s2,.slice A2 l2 c2] 48 #[.bool s2r,.slice A2r l2r c2r] 48
 rw[←hW]
 clear hW
 obtain⟨v5,hb5⟩:∃b,b=w2.heap.size+1:=⟨_,rfl⟩
 rw[←hb5] at x5 ⊢
 obtain⟨v4,hb4⟩:∃b,b=w2.heap.size:=⟨_,rfl⟩
 rw[←hb4] at x4 ⊢
 have o0_4:w.heap.size<v4:=by have:=(zxb HX0 Bz).lt;omega
 have o1_4:w.heap.size+1<v4:=by have:=(zxb HX1 Bz).lt;omega
 have o2_4:v2<v4:=by have:=(zxb HX2 Bz).lt;omega
 have o3_4:v3<v4:=by have:=(zxb HX3 Bz).lt;omega
 have ow_4:w.heap.size≤v4:=by have:=zw hB Bz;omega
 have o0_5:w.heap.size<v5:=by have:=(zxb HX0 Bz).lt;omega
 have o1_5:w.heap.size+1<v5:=by have:=(zxb HX1 Bz).lt;omega
 have o2_5:v2<v5:=by have:=(zxb HX2 Bz).lt;omega
 have o3_5:v3<v5:=by have:=(zxb HX3 Bz).lt;omega
 have o4_5:v4<v5:=by omega
 have ow_5:w.heap.size≤v5:=by have:=zw hB Bz;omega
 replace h1:=h1.below hN
 replace h1r:=h1r.below hN
 replace h2:=h2.below hN
 replace h2r:=h2r.below hN
 replace hB:=zAa (zAa hB Bz) hN
 replace HX0:=zh ((zxb HX0 Bz).below hN)
 replace HX1:=zh ((zxb HX1 Bz).below hN)
 replace HX2:=zh ((zxb HX2 Bz).below hN)
 replace HX3:=zh ((zxb HX3 Bz).below hN)
 have HX4:=zh x4
 have HX5:=zh x5
 clear x4 x5 hN Bz hb4 hb5
 have Bz:=Below.refl V2.heap.size V2
 obtain⟨p2_0,p2_1,-⟩:=(zxb HX2 Bz).cz
 obtain⟨p3_0,p3_1,-⟩:=(zxb HX3 Bz).cz
 obtain⟨p4_0,p4_1,-⟩:=(zxb HX4 Bz).cz
 obtain⟨p5_0,p5_1,-⟩:=(zxb HX5 Bz).cz
 go_wp2_with fail
 (try simp only[List.append_eq,List.cons_append,List.nil_append])
 refine zAb (.take 0 (.take 1 (.take 3 (.take 4 (.only 2 (.only 5 (.only 6 (.take 7 .done)))))))) [] (fun w'=>w'.cell? ⟨v2,0,none⟩=some (.bool s1)∧w'.cell? ⟨v2,1,none⟩=some (.slice A1 l1 c1)∧w'.cell? ⟨v3,0,none⟩=some (.bool s1r)∧w'.cell? ⟨v3,1,none⟩=some (.slice A1r l1r c1r)∧w'.cell? ⟨v4,0,none⟩=some (.bool s2)∧w'.cell? ⟨v4,1,none⟩=some (.slice A2 l2 c2)∧w'.cell? ⟨v5,0,none⟩=some (.bool s2r)∧w'.cell? ⟨v5,1,none⟩=some (.slice A2r l2r c2r)) (by kernel_rfl) (by kernel_rfl) ⟨p2_0,p2_1,p3_0,p3_1,p4_0,p4_1,p5_0,p5_1⟩ ?_
 iterate 4 (refine zT rfl rfl (fun w' ⟨p2_0,p2_1,p3_0,p3_1,p4_0,p4_1,p5_0,p5_1⟩=>by go_simp<;>with_reducible rfl) ?_;try simp only[Act.put,uX,uY,uZ])
 refine zC 21 rfl rfl (fun K hK=>?_)
 go_simp
 with_reducible refine(mulq (I.below h1 (by go_grown)) (I.below h2r (by go_grown)) (by omega) (by omega)).mono ?_
 rintro e w3 ⟨s3,A3,c3,l3,rfl,h3,m3,b3⟩
 replace b3:=zAa (a:=V2) (by go_grown) b3
 replace h1r:=h1r.below b3
 replace h2:=h2.below b3
 replace Bz:=zAa Bz b3
 clear b3
 clear p2_0 p2_1 p3_0 p3_1 p4_0 p4_1 p5_0 p5_1
 obtain⟨p2_0,p2_1,-⟩:=(zxb HX2 Bz).cz
 obtain⟨p3_0,p3_1,-⟩:=(zxb HX3 Bz).cz
 obtain⟨p4_0,p4_1,-⟩:=(zxb HX4 Bz).cz
 obtain⟨p5_0,p5_1,-⟩:=(zxb HX5 Bz).cz
 refine hK.out _ _ ⟨p2_0,p2_1,p3_0,p3_1,p4_0,p4_1,p5_0,p5_1⟩ (fun _=>?_)
 try simp only[Act.put,uX,uY,uZ]
 clear hK K
 refine zC 24 rfl rfl (fun K hK=>?_)
 go_simp
 with_reducible refine(mulq (I.below h2 (by go_grown)) (I.below h1r (by go_grown)) (by omega) (by omega)).mono ?_
 rintro e w4 ⟨s4,A4,c4,l4,rfl,h4,m4,b4⟩
 replace b4:=zAa (a:=w3) (by go_grown) b4
 replace h3:=h3.below b4
 replace Bz:=zAa Bz b4
 clear b4
 clear p2_0 p2_1 p3_0 p3_1 p4_0 p4_1 p5_0 p5_1
 obtain⟨p2_0,p2_1,-⟩:=(zxb HX2 Bz).cz
 obtain⟨p3_0,p3_1,-⟩:=(zxb HX3 Bz).cz
 obtain⟨p4_0,p4_1,-⟩:=(zxb HX4 Bz).cz
 obtain⟨p5_0,p5_1,-⟩:=(zxb HX5 Bz).cz
 refine hK.out _ _ ⟨p2_0,p2_1,p3_0,p3_1,p4_0,p4_1,p5_0,p5_1⟩ (fun _=>?_)
 try simp only[Act.put,uX,uY,uZ]
 clear hK K
 refine zC 25 rfl rfl (fun K hK=>?_)
 go_simp
 have HK:Hid (cmpI (n1*d2) (n2*d1)=z):=by show _=_;rw[cmpI_qof e1 e2,q1,q2];exact hz.out
 with_reducible refine(cmpq (I.below h3.i (by go_grown)) (I.below h4.i (by go_grown)) (by omega) (by omega) z HK.out).mono ?_
 rintro e w5 ⟨rfl,b5⟩
 replace b5:=zAa (a:=w4) (by go_grown) b5
 replace Bz:=zAa Bz b5
 clear b5
 clear p2_0 p2_1 p3_0 p3_1 p4_0 p4_1 p5_0 p5_1
 obtain⟨p2_0,p2_1,-⟩:=(zxb HX2 Bz).cz
 obtain⟨p3_0,p3_1,-⟩:=(zxb HX3 Bz).cz
 obtain⟨p4_0,p4_1,-⟩:=(zxb HX4 Bz).cz
 obtain⟨p5_0,p5_1,-⟩:=(zxb HX5 Bz).cz
 refine hK.out _ _ ⟨p2_0,p2_1,p3_0,p3_1,p4_0,p4_1,p5_0,p5_1⟩ (fun _=>?_)
 try simp only[Act.put,uX,uY,uZ]
 clear hK K
 refine zT rfl rfl (fun w' ⟨p2_0,p2_1,p3_0,p3_1,p4_0,p4_1,p5_0,p5_1⟩=>by go_simp<;>with_reducible rfl) ?_
 try simp only[Act.put,uX,uY,uZ]
 refine zAc ?_
 go_wp2_with fail
 go_ret
 have hF:=zAa (c:=w5) hB Bz
 exact⟨rfl,zAa hF (by go_grown)⟩
theorem mul_r4 {q r:Rat} {m m':Nat} (h:R w s A c l s' A' c' l' q m) (h':R w t B k e t' B' k' e' r m') (hm:m+m'≤900) :
  Calls Tryz.prog 98 #[.agg #[.bool s,.slice A l c,.bool s',.slice A' l' c'],.agg #[.bool t,.slice B e k,.bool t',.slice B' e' k']] w (TellsR w (q*r)):=by
 obtain⟨W,hW,x0,x1,x2,hB⟩:=boxes3 w #[.bool s,.slice A l c,.bool s',.slice A' l' c'] 50 #[.bool t,.slice B e k,.bool t',.slice B' e' k'] 50 #[.bool false,.slice none 0 0,.bool false,.slice none 0 0] 50
 replace h:=h.below hB
 replace h':=h'.below hB
 have HX0:=zh x0
 have HX1:=zh x1
 have HX2:=zh x2
 clear x0 x1 x2
 have Bz:=Below.refl W.heap.size W
 obtain⟨p0_0,p0_1,p0_2,p0_3,-⟩:=(zxb HX0 Bz).cz
 go_enter Tryz.func98,Tryz.ntmps98
 go_wp2_with fail
 rw[←hW]
 clear hW
 go_wp2_with fail
 with_reducible refine(parts_r (R.below h (by go_grown)) (by omega)).mono ?_
 rintro e w1 ⟨n1,d1,s1,A1,c1,l1,s1r,A1r,c1r,l1r,rfl,h1,h1r,e1,q1,m1,m1r,b1⟩
 replace b1:=zAa (a:=W) (by go_grown) b1
 replace h':=h'.below b1
 replace Bz:=zAa Bz b1
 clear b1
 clear p0_0 p0_1 p0_2 p0_3
 go_upto_region 2 with(fail)
 obtain⟨V1,hW,x3,x4,hN⟩:=boxes2 w1 #[.bool s1,.slice A1 l1 c1] 48 #[.bool s1r,.slice A1r l1r c1r] 48
 rw[←hW]
 clear hW
 obtain⟨v4,hb4⟩:∃b,b=w1.heap.size+1:=⟨_,rfl⟩
 rw[←hb4] at x4 ⊢
 obtain⟨v3,hb3⟩:∃b,b=w1.heap.size:=⟨_,rfl⟩
 rw[←hb3] at x3 ⊢
 have o0_3:w.heap.size<v3:=by have:=(zxb HX0 Bz).lt;omega
 have o1_3:w.heap.size+1<v3:=by have:=(zxb HX1 Bz).lt;omega
 have o2_3:w.heap.size+1+1<v3:=by have:=(zxb HX2 Bz).lt;omega
 have ow_3:w.heap.size≤v3:=by have:=zw hB Bz;omega
 have o0_4:w.heap.size<v4:=by have:=(zxb HX0 Bz).lt;omega
 have o1_4:w.heap.size+1<v4:=by have:=(zxb HX1 Bz).lt;omega
 have o2_4:w.heap.size+1+1<v4:=by have:=(zxb HX2 Bz).lt;omega
 have o3_4:v3<v4:=by omega
 have ow_4:w.heap.size≤v4:=by have:=zw hB Bz;omega
 replace h1:=h1.below hN
 replace h1r:=h1r.below hN
 replace h':=h'.below hN
 replace hB:=zAa (zAa hB Bz) hN
 replace HX0:=zh ((zxb HX0 Bz).below hN)
 replace HX1:=zh ((zxb HX1 Bz).below hN)
 replace HX2:=zh ((zxb HX2 Bz).below hN)
 have HX3:=zh x3
 have HX4:=zh x4
 clear x3 x4 hN Bz hb3 hb4
 have Bz:=Below.refl V1.heap.size V1
 obtain⟨p1_0,p1_1,p1_2,p1_3,-⟩:=(zxb HX1 Bz).cz
 go_wp2_with fail
 with_reducible refine(parts_r (R.below h' (by go_grown)) (by omega)).mono ?_
 rintro e w2 ⟨n2,d2,s2,A2,c2,l2,s2r,A2r,c2r,l2r,rfl,h2,h2r,e2,q2,m2,m2r,b2⟩
 replace b2:=zAa (a:=V1) (by go_grown) b2
 replace h1:=h1.below b2
 replace h1r:=h1r.below b2
 replace Bz:=zAa Bz b2
 clear b2
 clear p1_0 p1_1 p1_2 p1_3
 go_upto_region 3 with(fail)
 obtain⟨V2,hW,x5,x6,hN⟩:=boxes2 w2 #[.bool s2,.slice A2 l2 c2] 48 #[.bool s2r,.slice A2r l2r c2r] 48
 rw[←hW]
 clear hW
 obtain⟨v6,hb6⟩:∃b,b=w2.heap.size+1:=⟨_,rfl⟩
 rw[←hb6] at x6 ⊢
 obtain⟨v5,hb5⟩:∃b,b=w2.heap.size:=⟨_,rfl⟩
 rw[←hb5] at x5 ⊢
 have o0_5:w.heap.size<v5:=by have:=(zxb HX0 Bz).lt;omega
 have o1_5:w.heap.size+1<v5:=by have:=(zxb HX1 Bz).lt;omega
 have o2_5:w.heap.size+1+1<v5:=by have:=(zxb HX2 Bz).lt;omega
 have o3_5:v3<v5:=by have:=(zxb HX3 Bz).lt;omega
 have o4_5:v4<v5:=by have:=(zxb HX4 Bz).lt;omega
 have ow_5:w.heap.size≤v5:=by have:=zw hB Bz;omega
 have o0_6:w.heap.size<v6:=by have:=(zxb HX0 Bz).lt;omega
 have o1_6:w.heap.size+1<v6:=by have:=(zxb HX1 Bz).lt;omega
 have o2_6:w.heap.size+1+1<v6:=by have:=(zxb HX2 Bz).lt;omega
 have o3_6:v3<v6:=by have:=(zxb HX3 Bz).lt;omega
 have o4_6:v4<v6:=by have:=(zxb HX4 Bz).lt;omega
 have o5_6:v5<v6:=by omega
 have ow_6:w.heap.size≤v6:=by have:=zw hB Bz;omega
 replace h1:=h1.below hN
 replace h1r:=h1r.below hN
 replace h2:=h2.below hN
 replace h2r:=h2r.below hN
 replace hB:=zAa (zAa hB Bz) hN
 replace HX0:=zh ((zxb HX0 Bz).below hN)
 replace HX1:=zh ((zxb HX1 Bz).below hN)
 replace HX2:=zh ((zxb HX2 Bz).below hN)
 replace HX3:=zh ((zxb HX3 Bz).below hN)
 replace HX4:=zh ((zxb HX4 Bz).below hN)
 have HX5:=zh x5
 have HX6:=zh x6
 clear x5 x6 hN Bz hb5 hb6
 have Bz:=Below.refl V2.heap.size V2
 obtain⟨p2_0,p2_1,p2_2,p2_3,-⟩:=(zxb HX2 Bz).cz
 have f2_0:=(zxb HX2 Bz).frozen 0
 have f2_1:=(zxb HX2 Bz).frozen 1
 have f2_2:=(zxb HX2 Bz).frozen 2
 have f2_3:=(zxb HX2 Bz).frozen 3
 have y2:=(zxb HX2 Bz).lt
 obtain⟨p3_0,p3_1,-⟩:=(zxb HX3 Bz).cz
 obtain⟨p4_0,p4_1,-⟩:=(zxb HX4 Bz).cz
 obtain⟨p5_0,p5_1,-⟩:=(zxb HX5 Bz).cz
 obtain⟨p6_0,p6_1,-⟩:=(zxb HX6 Bz).cz
 go_wp2_with fail
 (try simp only[List.append_eq,List.cons_append,List.nil_append])
 refine zAb (.take 0 (.take 1 (.take 3 (.take 4 (.only 2 (.only 5 (.only 6 (.only 7 .done)))))))) [7] (fun w'=>w'.cell? ⟨v3,0,none⟩=some (.bool s1)∧w'.cell? ⟨v3,1,none⟩=some (.slice A1 l1 c1)∧w'.cell? ⟨v4,0,none⟩=some (.bool s1r)∧w'.cell? ⟨v4,1,none⟩=some (.slice A1r l1r c1r)∧w'.cell? ⟨v5,0,none⟩=some (.bool s2)∧w'.cell? ⟨v5,1,none⟩=some (.slice A2 l2 c2)∧w'.cell? ⟨v6,0,none⟩=some (.bool s2r)∧w'.cell? ⟨v6,1,none⟩=some (.slice A2r l2r c2r)) (by kernel_rfl) (by kernel_rfl) ⟨p3_0,p3_1,p4_0,p4_1,p5_0,p5_1,p6_0,p6_1⟩ ?_
 iterate 4 (refine zT rfl rfl (fun w' ⟨p3_0,p3_1,p4_0,p4_1,p5_0,p5_1,p6_0,p6_1⟩=>by go_simp<;>with_reducible rfl) ?_;try simp only[Act.put,uX,uY,uZ])
 refine zC 21 rfl rfl (fun K hK=>?_)
 go_simp
 with_reducible refine(mulq (I.below h1 (by go_grown)) (I.below h2 (by go_grown)) (by omega) (by omega)).mono ?_
 rintro e w3 ⟨s3,A3,c3,l3,rfl,h3,m3,b3⟩
 replace b3:=zAa (a:=V2) (by go_grown) b3
 replace h1r:=h1r.below b3
 replace h2r:=h2r.below b3
 replace Bz:=zAa Bz b3
 clear b3
 clear p2_0 p2_1 p2_2 p2_3 f2_0 f2_1 f2_2 f2_3 y2 p3_0 p3_1 p4_0 p4_1 p5_0 p5_1 p6_0 p6_1
 obtain⟨p2_0,p2_1,p2_2,p2_3,-⟩:=(zxb HX2 Bz).cz
 have f2_0:=(zxb HX2 Bz).frozen 0
 have f2_1:=(zxb HX2 Bz).frozen 1
 have f2_2:=(zxb HX2 Bz).frozen 2
 have f2_3:=(zxb HX2 Bz).frozen 3
 have y2:=(zxb HX2 Bz).lt
 obtain⟨p3_0,p3_1,-⟩:=(zxb HX3 Bz).cz
 obtain⟨p4_0,p4_1,-⟩:=(zxb HX4 Bz).cz
 obtain⟨p5_0,p5_1,-⟩:=(zxb HX5 Bz).cz
 obtain⟨p6_0,p6_1,-⟩:=(zxb HX6 Bz).cz
 refine hK.out _ _ ⟨p3_0,p3_1,p4_0,p4_1,p5_0,p5_1,p6_0,p6_1⟩ (fun _=>?_)
 try simp only[Act.put,uX,uY,uZ]
 clear hK K
 refine zC 24 rfl rfl (fun K hK=>?_)
 go_simp
 with_reducible refine(mulq (I.below h1r (by go_grown)) (I.below h2r (by go_grown)) (by omega) (by omega)).mono ?_
 rintro e w4 ⟨s4,A4,c4,l4,rfl,h4,m4,b4⟩
 replace b4:=zAa (a:=w3) (by go_grown) b4
 replace h3:=h3.below b4
 replace Bz:=zAa Bz b4
 clear b4
 clear p2_0 p2_1 p2_2 p2_3 f2_0 f2_1 f2_2 f2_3 y2 p3_0 p3_1 p4_0 p4_1 p5_0 p5_1 p6_0 p6_1
 obtain⟨p2_0,p2_1,p2_2,p2_3,-⟩:=(zxb HX2 Bz).cz
 have f2_0:=(zxb HX2 Bz).frozen 0
 have f2_1:=(zxb HX2 Bz).frozen 1
 have f2_2:=(zxb HX2 Bz).frozen 2
 have f2_3:=(zxb HX2 Bz).frozen 3
 have y2:=(zxb HX2 Bz).lt
 obtain⟨p3_0,p3_1,-⟩:=(zxb HX3 Bz).cz
 obtain⟨p4_0,p4_1,-⟩:=(zxb HX4 Bz).cz
 obtain⟨p5_0,p5_1,-⟩:=(zxb HX5 Bz).cz
 obtain⟨p6_0,p6_1,-⟩:=(zxb HX6 Bz).cz
 refine hK.out _ _ ⟨p3_0,p3_1,p4_0,p4_1,p5_0,p5_1,p6_0,p6_1⟩ (fun _=>?_)
 try simp only[Act.put,uX,uY,uZ]
 clear hK K
 refine zC 25 rfl rfl (fun K hK=>?_)
 go_simp
 with_reducible refine(lowest_r (I.below h3.i (by go_grown)) (I.below h4.i (by go_grown)) (by omega) (by omega) (Int.mul_pos e1 e2)).mono ?_
 rintro e w5 ⟨s5,A5,c5,l5,s5r,A5r,c5r,l5r,rfl,h5,b5⟩
 replace b5:=zAa (a:=w4) (by go_grown) b5
 replace Bz:=zAa Bz b5
 clear b5
 have m5:=h5.len
 clear p2_0 p2_1 p2_2 p2_3 f2_0 f2_1 f2_2 f2_3 y2 p3_0 p3_1 p4_0 p4_1 p5_0 p5_1 p6_0 p6_1
 obtain⟨p2_0,p2_1,p2_2,p2_3,-⟩:=(zxb HX2 Bz).cz
 have f2_0:=(zxb HX2 Bz).frozen 0
 have f2_1:=(zxb HX2 Bz).frozen 1
 have f2_2:=(zxb HX2 Bz).frozen 2
 have f2_3:=(zxb HX2 Bz).frozen 3
 have y2:=(zxb HX2 Bz).lt
 obtain⟨p3_0,p3_1,-⟩:=(zxb HX3 Bz).cz
 obtain⟨p4_0,p4_1,-⟩:=(zxb HX4 Bz).cz
 obtain⟨p5_0,p5_1,-⟩:=(zxb HX5 Bz).cz
 obtain⟨p6_0,p6_1,-⟩:=(zxb HX6 Bz).cz
 refine hK.out _ _ ⟨p3_0,p3_1,p4_0,p4_1,p5_0,p5_1,p6_0,p6_1⟩ (fun _=>?_)
 try simp only[Act.put,uX,uY,uZ]
 clear hK K
 refine zAf (o:=⟨none,_,_,_,_,_⟩) rfl rfl (by decide) (fun K hK=>?_)
 go_simp
 refine hK.out _ _ ?_
 try simp only[Act.put,uX,uY,uZ]
 clear hK K
 refine zAc ?_
 go_wp2_with fail
 have q2_0:w5.cell? ⟨w.heap.size+2,0,none⟩=some (.bool false):=p2_0
 have q2_1:w5.cell? ⟨w.heap.size+2,1,none⟩=some (.slice none 0 0):=p2_1
 have q2_2:w5.cell? ⟨w.heap.size+2,2,none⟩=some (.bool false):=p2_2
 have q2_3:w5.cell? ⟨w.heap.size+2,3,none⟩=some (.slice none 0 0):=p2_3
 (try simp only[Exit.inBlock,Exit.then])
 refine bodyPost_ret (by simp[results,Tryz.results98,go_sem,q2_0,q2_1,q2_2,q2_3];try rfl) rfl ?_
 obtain⟨V3,hW,x,kk,far,bel⟩:=store4 (.bool s5) (.slice A5 l5 c5) (.bool s5r) (.slice A5r l5r c5r) (zxb HX2 Bz) nofun nofun nofun nofun
 rw[←hW]
 clear hW
 replace h5:=h5.k kk
 replace hB:=bel w.heap.size w (by omega) (zAa hB Bz)
 replace HX0:=zh (far _ _ _ (by omega) (zxb HX0 Bz))
 replace HX1:=zh (far _ _ _ (by omega) (zxb HX1 Bz))
 replace HX3:=zh (far _ _ _ (by omega) (zxb HX3 Bz))
 replace HX4:=zh (far _ _ _ (by omega) (zxb HX4 Bz))
 replace HX5:=zh (far _ _ _ (by omega) (zxb HX5 Bz))
 replace HX6:=zh (far _ _ _ (by omega) (zxb HX6 Bz))
 replace HX2:=zh x
 clear x kk far bel Bz
 have Bz:=Below.refl V3.heap.size V3
 have hF:=zAa (c:=V3) hB Bz
 exact⟨s5,A5,c5,l5,s5r,A5r,c5r,l5r,rfl,by rw[←q1,←q2,←qof_mul];exact(RN.below h5 (by go_grown)),zAa hF (by go_grown)⟩
theorem add_r4 {q r:Rat} {m m':Nat} (h:R w s A c l s' A' c' l' q m) (h':R w t B k e t' B' k' e' r m') (hm:m+m'≤900) :
  Calls Tryz.prog 97 #[.agg #[.bool s,.slice A l c,.bool s',.slice A' l' c'],.agg #[.bool t,.slice B e k,.bool t',.slice B' e' k']] w (TellsR w (q+r)):=by
 obtain⟨W,hW,x0,x1,x2,hB⟩:=boxes3 w #[.bool s,.slice A l c,.bool s',.slice A' l' c'] 50 #[.bool t,.slice B e k,.bool t',.slice B' e' k'] 50 #[.bool false,.slice none 0 0,.bool false,.slice none 0 0] 50
 replace h:=h.below hB
 replace h':=h'.below hB
 have HX0:=zh x0
 have HX1:=zh x1
 have HX2:=zh x2
 clear x0 x1 x2
 have Bz:=Below.refl W.heap.size W
 obtain⟨p0_0,p0_1,p0_2,p0_3,-⟩:=(zxb HX0 Bz).cz
 go_enter Tryz.func97,Tryz.ntmps97
 go_wp2_with fail
 rw[←hW]
 clear hW
 go_wp2_with fail
 with_reducible refine(parts_r (R.below h (by go_grown)) (by omega)).mono ?_
 rintro e w1 ⟨n1,d1,s1,A1,c1,l1,s1r,A1r,c1r,l1r,rfl,h1,h1r,e1,q1,m1,m1r,b1⟩
 replace b1:=zAa (a:=W) (by go_grown) b1
 replace h':=h'.below b1
 replace Bz:=zAa Bz b1
 clear b1
 clear p0_0 p0_1 p0_2 p0_3
 go_upto_region 2 with(fail)
 obtain⟨V1,hW,x3,x4,hN⟩:=boxes2 w1 #[.bool s1,.slice A1 l1 c1] 48 #[.bool s1r,.slice A1r l1r c1r] 48
 rw[←hW]
 clear hW
 obtain⟨v4,hb4⟩:∃b,b=w1.heap.size+1:=⟨_,rfl⟩
 rw[←hb4] at x4 ⊢
 obtain⟨v3,hb3⟩:∃b,b=w1.heap.size:=⟨_,rfl⟩
 rw[←hb3] at x3 ⊢
 have o0_3:w.heap.size<v3:=by have:=(zxb HX0 Bz).lt;omega
 have o1_3:w.heap.size+1<v3:=by have:=(zxb HX1 Bz).lt;omega
 have o2_3:w.heap.size+1+1<v3:=by have:=(zxb HX2 Bz).lt;omega
 have ow_3:w.heap.size≤v3:=by have:=zw hB Bz;omega
 have o0_4:w.heap.size<v4:=by have:=(zxb HX0 Bz).lt;omega
 have o1_4:w.heap.size+1<v4:=by have:=(zxb HX1 Bz).lt;omega
 have o2_4:w.heap.size+1+1<v4:=by have:=(zxb HX2 Bz).lt;omega
 have o3_4:v3<v4:=by omega
 have ow_4:w.heap.size≤v4:=by have:=zw hB Bz;omega
 replace h1:=h1.below hN
 replace h1r:=h1r.below hN
 replace h':=h'.below hN
 replace hB:=zAa (zAa hB Bz) hN
 replace HX0:=zh ((zxb HX0 Bz).below hN)
 replace HX1:=zh ((zxb HX1 Bz).below hN)
 replace HX2:=zh ((zxb HX2 Bz).below hN)
 have HX3:=zh x3
 have HX4:=zh x4
 clear x3 x4 hN Bz hb3 hb4
 have Bz:=Below.refl V1.heap.size V1
 obtain⟨p1_0,p1_1,p1_2,p1_3,-⟩:=(zxb HX1 Bz).cz
 go_wp2_with fail
 with_reducible refine(parts_r (R.below h' (by go_grown)) (by omega)).mono ?_
 rintro e w2 ⟨n2,d2,s2,A2,c2,l2,s2r,A2r,c2r,l2r,rfl,h2,h2r,e2,q2,m2,m2r,b2⟩
 replace b2:=zAa (a:=V1) (by go_grown) b2
 replace h1:=h1.below b2
 replace h1r:=h1r.below b2
 replace Bz:=zAa Bz b2
 clear b2
 clear p1_0 p1_1 p1_2 p1_3
 go_upto_region 3 with(fail)
 obtain⟨V2,hW,x5,x6,hN⟩:=boxes2 w2 #[.bool s2,.slice A2 l2 c2] 48 #[.bool s2r,.slice A2r l2r c2r] 48
 rw[←hW]
 clear hW
 obtain⟨v6,hb6⟩:∃b,b=w2.heap.size+1:=⟨_,rfl⟩
 rw[←hb6] at x6 ⊢
 obtain⟨v5,hb5⟩:∃b,b=w2.heap.size:=⟨_,rfl⟩
 rw[←hb5] at x5 ⊢
 have o0_5:w.heap.size<v5:=by have:=(zxb HX0 Bz).lt;omega
 have o1_5:w.heap.size+1<v5:=by have:=(zxb HX1 Bz).lt;omega
 have o2_5:w.heap.size+1+1<v5:=by have:=(zxb HX2 Bz).lt;omega
 have o3_5:v3<v5:=by have:=(zxb HX3 Bz).lt;omega
 have o4_5:v4<v5:=by have:=(zxb HX4 Bz).lt;omega
 have ow_5:w.heap.size≤v5:=by have:=zw hB Bz;omega
 have o0_6:w.heap.size<v6:=by have:=(zxb HX0 Bz).lt;omega
 have o1_6:w.heap.size+1<v6:=by have:=(zxb HX1 Bz).lt;omega
 have o2_6:w.heap.size+1+1<v6:=by have:=(zxb HX2 Bz).lt;omega
 have o3_6:v3<v6:=by have:=(zxb HX3 Bz).lt;omega
 have o4_6:v4<v6:=by have:=(zxb HX4 Bz).lt;omega
 have o5_6:v5<v6:=by omega
 have ow_6:w.heap.size≤v6:=by have:=zw hB Bz;omega
 replace h1:=h1.below hN
 replace h1r:=h1r.below hN
 replace h2:=h2.below hN
 replace h2r:=h2r.below hN
 replace hB:=zAa (zAa hB Bz) hN
 replace HX0:=zh ((zxb HX0 Bz).below hN)
 replace HX1:=zh ((zxb HX1 Bz).below hN)
 replace HX2:=zh ((zxb HX2 Bz).below hN)
 replace HX3:=zh ((zxb HX3 Bz).below hN)
 replace HX4:=zh ((zxb HX4 Bz).below hN)
 have HX5:=zh x5
 have HX6:=zh x6
 clear x5 x6 hN Bz hb5 hb6
 have Bz:=Below.refl V2.heap.size V2
 obtain⟨p2_0,p2_1,p2_2,p2_3,-⟩:=(zxb HX2 Bz).cz
 have f2_0:=(zxb HX2 Bz).frozen 0
 have f2_1:=(zxb HX2 Bz).frozen 1
 have f2_2:=(zxb HX2 Bz).frozen 2
 have f2_3:=(zxb HX2 Bz).frozen 3
 have y2:=(zxb HX2 Bz).lt
 obtain⟨p3_0,p3_1,-⟩:=(zxb HX3 Bz).cz
 obtain⟨p4_0,p4_1,-⟩:=(zxb HX4 Bz).cz
 obtain⟨p5_0,p5_1,-⟩:=(zxb HX5 Bz).cz
 obtain⟨p6_0,p6_1,-⟩:=(zxb HX6 Bz).cz
 go_wp2_with fail
 (try simp only[List.append_eq,List.cons_append,List.nil_append])
 refine zAb (.take 0 (.take 1 (.take 3 (.take 4 (.take 7 (.take 8 (.only 2 (.only 5 (.only 6 (.only 9 (.only 10 (.only 11 .done)))))))))))) [11] (fun w'=>w'.cell? ⟨v3,0,none⟩=some (.bool s1)∧w'.cell? ⟨v3,1,none⟩=some (.slice A1 l1 c1)∧w'.cell? ⟨v4,0,none⟩=some (.bool s1r)∧w'.cell? ⟨v4,1,none⟩=some (.slice A1r l1r c1r)∧w'.cell? ⟨v5,0,none⟩=some (.bool s2)∧w'.cell? ⟨v5,1,none⟩=some (.slice A2 l2 c2)∧w'.cell? ⟨v6,0,none⟩=some (.bool s2r)∧w'.cell? ⟨v6,1,none⟩=some (.slice A2r l2r c2r)) (by kernel_rfl) (by kernel_rfl) ⟨p3_0,p3_1,p4_0,p4_1,p5_0,p5_1,p6_0,p6_1⟩ ?_
 iterate 6 (refine zT rfl rfl (fun w' ⟨p3_0,p3_1,p4_0,p4_1,p5_0,p5_1,p6_0,p6_1⟩=>by go_simp<;>with_reducible rfl) ?_;try simp only[Act.put,uX,uY,uZ])
 refine zC 21 rfl rfl (fun K hK=>?_)
 go_simp
 with_reducible refine(mulq (I.below h1 (by go_grown)) (I.below h2r (by go_grown)) (by omega) (by omega)).mono ?_
 rintro e w3 ⟨s3,A3,c3,l3,rfl,h3,m3,b3⟩
 replace b3:=zAa (a:=V2) (by go_grown) b3
 replace h1r:=h1r.below b3
 replace h2:=h2.below b3
 replace h2r:=h2r.below b3
 replace Bz:=zAa Bz b3
 clear b3
 clear p2_0 p2_1 p2_2 p2_3 f2_0 f2_1 f2_2 f2_3 y2 p3_0 p3_1 p4_0 p4_1 p5_0 p5_1 p6_0 p6_1
 obtain⟨p2_0,p2_1,p2_2,p2_3,-⟩:=(zxb HX2 Bz).cz
 have f2_0:=(zxb HX2 Bz).frozen 0
 have f2_1:=(zxb HX2 Bz).frozen 1
 have f2_2:=(zxb HX2 Bz).frozen 2
 have f2_3:=(zxb HX2 Bz).frozen 3
 have y2:=(zxb HX2 Bz).lt
 obtain⟨p3_0,p3_1,-⟩:=(zxb HX3 Bz).cz
 obtain⟨p4_0,p4_1,-⟩:=(zxb HX4 Bz).cz
 obtain⟨p5_0,p5_1,-⟩:=(zxb HX5 Bz).cz
 obtain⟨p6_0,p6_1,-⟩:=(zxb HX6 Bz).cz
 refine hK.out _ _ ⟨p3_0,p3_1,p4_0,p4_1,p5_0,p5_1,p6_0,p6_1⟩ (fun _=>?_)
 try simp only[Act.put,uX,uY,uZ]
 clear hK K
 refine zC 24 rfl rfl (fun K hK=>?_)
 go_simp
 with_reducible refine(mulq (I.below h2 (by go_grown)) (I.below h1r (by go_grown)) (by omega) (by omega)).mono ?_
 rintro e w4 ⟨s4,A4,c4,l4,rfl,h4,m4,b4⟩
 replace b4:=zAa (a:=w3) (by go_grown) b4
 replace h1r:=h1r.below b4
 replace h2r:=h2r.below b4
 replace h3:=h3.below b4
 replace Bz:=zAa Bz b4
 clear b4
 clear p2_0 p2_1 p2_2 p2_3 f2_0 f2_1 f2_2 f2_3 y2 p3_0 p3_1 p4_0 p4_1 p5_0 p5_1 p6_0 p6_1
 obtain⟨p2_0,p2_1,p2_2,p2_3,-⟩:=(zxb HX2 Bz).cz
 have f2_0:=(zxb HX2 Bz).frozen 0
 have f2_1:=(zxb HX2 Bz).frozen 1
 have f2_2:=(zxb HX2 Bz).frozen 2
 have f2_3:=(zxb HX2 Bz).frozen 3
 have y2:=(zxb HX2 Bz).lt
 obtain⟨p3_0,p3_1,-⟩:=(zxb HX3 Bz).cz
 obtain⟨p4_0,p4_1,-⟩:=(zxb HX4 Bz).cz
 obtain⟨p5_0,p5_1,-⟩:=(zxb HX5 Bz).cz
 obtain⟨p6_0,p6_1,-⟩:=(zxb HX6 Bz).cz
 refine hK.out _ _ ⟨p3_0,p3_1,p4_0,p4_1,p5_0,p5_1,p6_0,p6_1⟩ (fun _=>?_)
 try simp only[Act.put,uX,uY,uZ]
 clear hK K
 refine zC 25 rfl rfl (fun K hK=>?_)
 go_simp
 with_reducible refine(addq (I.below h3.i (by go_grown)) (I.below h4.i (by go_grown)) (by omega) (by omega)).mono ?_
 rintro e w5 ⟨s5,A5,c5,l5,rfl,h5,m5,b5⟩
 replace b5:=zAa (a:=w4) (by go_grown) b5
 replace h1r:=h1r.below b5
 replace h2r:=h2r.below b5
 replace Bz:=zAa Bz b5
 clear b5
 clear p2_0 p2_1 p2_2 p2_3 f2_0 f2_1 f2_2 f2_3 y2 p3_0 p3_1 p4_0 p4_1 p5_0 p5_1 p6_0 p6_1
 obtain⟨p2_0,p2_1,p2_2,p2_3,-⟩:=(zxb HX2 Bz).cz
 have f2_0:=(zxb HX2 Bz).frozen 0
 have f2_1:=(zxb HX2 Bz).frozen 1
 have f2_2:=(zxb HX2 Bz).frozen 2
 have f2_3:=(zxb HX2 Bz).frozen 3
 have y2:=(zxb HX2 Bz).lt
 obtain⟨p3_0,p3_1,-⟩:=(zxb HX3 Bz).cz
 obtain⟨p4_0,p4_1,-⟩:=(zxb HX4 Bz).cz
 obtain⟨p5_0,p5_1,-⟩:=(zxb HX5 Bz).cz
 obtain⟨p6_0,p6_1,-⟩:=(zxb HX6 Bz).cz
 refine hK.out _ _ ⟨p3_0,p3_1,p4_0,p4_1,p5_0,p5_1,p6_0,p6_1⟩ (fun _=>?_)
 try simp only[Act.put,uX,uY,uZ]
 clear hK K
 refine zC 28 rfl rfl (fun K hK=>?_)
 go_simp
 with_reducible refine(mulq (I.below h1r (by go_grown)) (I.below h2r (by go_grown)) (by omega) (by omega)).mono ?_
 rintro e w6 ⟨s6,A6,c6,l6,rfl,h6,m6,b6⟩
 replace b6:=zAa (a:=w5) (by go_grown) b6
 replace h5:=h5.below b6
 replace Bz:=zAa Bz b6
 clear b6
 clear p2_0 p2_1 p2_2 p2_3 f2_0 f2_1 f2_2 f2_3 y2 p3_0 p3_1 p4_0 p4_1 p5_0 p5_1 p6_0 p6_1
 obtain⟨p2_0,p2_1,p2_2,p2_3,-⟩:=(zxb HX2 Bz).cz
 have f2_0:=(zxb HX2 Bz).frozen 0
 have f2_1:=(zxb HX2 Bz).frozen 1
 have f2_2:=(zxb HX2 Bz).frozen 2
 have f2_3:=(zxb HX2 Bz).frozen 3
 have y2:=(zxb HX2 Bz).lt
 obtain⟨p3_0,p3_1,-⟩:=(zxb HX3 Bz).cz
 obtain⟨p4_0,p4_1,-⟩:=(zxb HX4 Bz).cz
 obtain⟨p5_0,p5_1,-⟩:=(zxb HX5 Bz).cz
 obtain⟨p6_0,p6_1,-⟩:=(zxb HX6 Bz).cz
 refine hK.out _ _ ⟨p3_0,p3_1,p4_0,p4_1,p5_0,p5_1,p6_0,p6_1⟩ (fun _=>?_)
 try simp only[Act.put,uX,uY,uZ]
 clear hK K
 refine zC 29 rfl rfl (fun K hK=>?_)
 go_simp
 with_reducible refine(lowest_r (I.below h5.i (by go_grown)) (I.below h6.i (by go_grown)) (by omega) (by omega) (Int.mul_pos e1 e2)).mono ?_
 rintro e w7 ⟨s7,A7,c7,l7,s7r,A7r,c7r,l7r,rfl,h7,b7⟩
 replace b7:=zAa (a:=w6) (by go_grown) b7
 replace Bz:=zAa Bz b7
 clear b7
 have m7:=h7.len
 clear p2_0 p2_1 p2_2 p2_3 f2_0 f2_1 f2_2 f2_3 y2 p3_0 p3_1 p4_0 p4_1 p5_0 p5_1 p6_0 p6_1
 obtain⟨p2_0,p2_1,p2_2,p2_3,-⟩:=(zxb HX2 Bz).cz
 have f2_0:=(zxb HX2 Bz).frozen 0
 have f2_1:=(zxb HX2 Bz).frozen 1
 have f2_2:=(zxb HX2 Bz).frozen 2
 have f2_3:=(zxb HX2 Bz).frozen 3
 have y2:=(zxb HX2 Bz).lt
 obtain⟨p3_0,p3_1,-⟩:=(zxb HX3 Bz).cz
 obtain⟨p4_0,p4_1,-⟩:=(zxb HX4 Bz).cz
 obtain⟨p5_0,p5_1,-⟩:=(zxb HX5 Bz).cz
 obtain⟨p6_0,p6_1,-⟩:=(zxb HX6 Bz).cz
 refine hK.out _ _ ⟨p3_0,p3_1,p4_0,p4_1,p5_0,p5_1,p6_0,p6_1⟩ (fun _=>?_)
 try simp only[Act.put,uX,uY,uZ]
 clear hK K
 refine zAf (o:=⟨none,_,_,_,_,_⟩) rfl rfl (by decide) (fun K hK=>?_)
 go_simp
 refine hK.out _ _ ?_
 try simp only[Act.put,uX,uY,uZ]
 clear hK K
 refine zAc ?_
 go_wp2_with fail
 have q2_0:w7.cell? ⟨w.heap.size+2,0,none⟩=some (.bool false):=p2_0
 have q2_1:w7.cell? ⟨w.heap.size+2,1,none⟩=some (.slice none 0 0):=p2_1
 have q2_2:w7.cell? ⟨w.heap.size+2,2,none⟩=some (.bool false):=p2_2
 have q2_3:w7.cell? ⟨w.heap.size+2,3,none⟩=some (.slice none 0 0):=p2_3
 (try simp only[Exit.inBlock,Exit.then])
 refine bodyPost_ret (by simp[results,Tryz.results97,go_sem,q2_0,q2_1,q2_2,q2_3];try rfl) rfl ?_
 obtain⟨V3,hW,x,kk,far,bel⟩:=store4 (.bool s7) (.slice A7 l7 c7) (.bool s7r) (.slice A7r l7r c7r) (zxb HX2 Bz) nofun nofun nofun nofun
 rw[←hW]
 clear hW
 replace h7:=h7.k kk
 replace hB:=bel w.heap.size w (by omega) (zAa hB Bz)
 replace HX0:=zh (far _ _ _ (by omega) (zxb HX0 Bz))
 replace HX1:=zh (far _ _ _ (by omega) (zxb HX1 Bz))
 replace HX3:=zh (far _ _ _ (by omega) (zxb HX3 Bz))
 replace HX4:=zh (far _ _ _ (by omega) (zxb HX4 Bz))
 replace HX5:=zh (far _ _ _ (by omega) (zxb HX5 Bz))
 replace HX6:=zh (far _ _ _ (by omega) (zxb HX6 Bz))
 replace HX2:=zh x
 clear x kk far bel Bz
 have Bz:=Below.refl V3.heap.size V3
 have hF:=zAa (c:=V3) hB Bz
 exact⟨s7,A7,c7,l7,s7r,A7r,c7r,l7r,rfl,by rw[←q1,←q2,←qof_add (by omega) (by omega)];exact(RN.below h7 (by go_grown)),zAa hF (by go_grown)⟩
theorem sign_r4 {q:Rat} {m:Nat} (h:R w s A c l s' A' c' l' q m) (hm:m≤1900) (z:Int) (hz:Hid (q.num.sign=z)) :
  Calls Tryz.prog 137 #[.agg #[.bool s,.slice A l c,.bool s',.slice A' l' c']] w fun e w'=>e=.returned (.int .i64 z)∧Below w.heap.size w w':=by
 obtain⟨W,hW,x0,hB⟩:=zAe w #[.bool s,.slice A l c,.bool s',.slice A' l' c'] 50
 replace h:=h.below hB
 have HX0:=zh x0
 clear x0
 have Bz:=Below.refl W.heap.size W
 obtain⟨p0_0,p0_1,p0_2,p0_3,-⟩:=(zxb HX0 Bz).cz
 go_enter Tryz.func137,Tryz.ntmps137
 go_wp2_with fail
 rw[←hW]
 clear hW
 go_wp2_with fail
 with_reducible refine(parts_r (R.below h (by go_grown)) (by omega)).mono ?_
 rintro e w1 ⟨n1,d1,s1,A1,c1,l1,s1r,A1r,c1r,l1r,rfl,h1,h1r,e1,q1,m1,m1r,b1⟩
 replace b1:=zAa (a:=W) (by go_grown) b1
 replace Bz:=zAa Bz b1
 clear h1r
 clear b1
 clear p0_0 p0_1 p0_2 p0_3
 go_upto_region 2 with(fail)
 obtain⟨V1,hW,x1,x2,hN⟩:=boxes2 w1 #[.bool s1,.slice A1 l1 c1] 48 #[.bool s1r,.slice A1r l1r c1r] 48
 rw[←hW]
 clear hW
 obtain⟨v2,hb2⟩:∃b,b=w1.heap.size+1:=⟨_,rfl⟩
 rw[←hb2] at x2 ⊢
 obtain⟨v1,hb1⟩:∃b,b=w1.heap.size:=⟨_,rfl⟩
 rw[←hb1] at x1 ⊢
 have o0_1:w.heap.size<v1:=by have:=(zxb HX0 Bz).lt;omega
 have ow_1:w.heap.size≤v1:=by have:=zw hB Bz;omega
 have o0_2:w.heap.size<v2:=by have:=(zxb HX0 Bz).lt;omega
 have o1_2:v1<v2:=by omega
 have ow_2:w.heap.size≤v2:=by have:=zw hB Bz;omega
 replace h1:=h1.below hN
 replace hB:=zAa (zAa hB Bz) hN
 replace HX0:=zh ((zxb HX0 Bz).below hN)
 have HX1:=zh x1
 have HX2:=zh x2
 clear x1 x2 hN Bz hb1 hb2
 have Bz:=Below.refl V1.heap.size V1
 obtain⟨p1_0,p1_1,-⟩:=(zxb HX1 Bz).cz
 go_wp2_with fail
 with_reducible refine(sign_r (I.below h1 (by go_grown)) (by omega) z (by rw[qof_sign e1,q1,←sign_num];exact hz.out)).mono ?_
 rintro e w2 ⟨rfl,b2⟩
 replace b2:=zAa (a:=V1) (by go_grown) b2
 replace Bz:=zAa Bz b2
 clear b2
 clear p1_0 p1_1
 go_wp2_with fail
 go_ret
 have hF:=zAa (c:=w2) hB Bz
 exact⟨rfl,zAa hF (by go_grown)⟩
end
end Go.Proofs.YtljjgfmeaejnfaaGreatDoor
