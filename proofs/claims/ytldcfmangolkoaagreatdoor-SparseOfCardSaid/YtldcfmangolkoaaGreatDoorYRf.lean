/-
  The reference of layer 4: fractions. Written by wip/gen/ref4.py.
-/
import Derived.Test.YtldcfmangolkoaaGreatDoorYWG
import Derived.Test.YtldcfmangolkoaaGreatDoorYZQ
namespace Go.Proofs.YtldcfmangolkoaaGreatDoor
open Go.RowKit Tw
section
variable {w:World} {s s' t t':Bool} {A A' B B':Option Addr} {c c' l l' e e' k k':Nat}
theorem J.neg_of {z:Int} (h:J w s A c l z) (hz:z<0):s=true:=by rw[h.2];simpa using hz
theorem J.pos_of {z:Int} (h:J w s A c l z) (hz:0≤z):s=false:=by rw[h.2];simpa using hz
set_option maxRecDepth 100000 in
set_option maxHeartbeats 4000000 in
theorem parts_r_one {n d:Int} {m:Nat} (hn:I w s A c l n) (hd:I w s' A' c' l' d) (hl:l≤m) (hl':l'≤m) (hm:m≤10000) (h0:((l':Int)==0)=true) :
  Calls Tryz.prog 124 #[.agg #[.bool s,.slice A l c,.bool s',.slice A' l' c']] w (TellsP w (qof n 1) (m+2) (m+3)):=by
 obtain⟨t0,ht⟩:∃t:Int,t=1:=⟨_,rfl⟩
 have HT:Hid ((1:Int).sign=t0):=Lib.hid (by rw[ht];exact rfl)
 have g1:(t0==0)=false:=by rw[ht];rfl
 clear ht
 obtain⟨W,hW,x0,x1,x2,hB⟩:=boxes3 w #[.bool s,.slice A l c,.bool s',.slice A' l' c'] 57 #[.bool false,.slice none 0 0] 55 #[.bool false,.slice none 0 0] 55
 replace hd:=hd.below hB
 replace hn:=hn.below hB
 have HX0:=Lib.hid x0
 have HX1:=Lib.hid x1
 have HX2:=Lib.hid x2
 clear x0 x1 x2
 have Bz:=Below.refl W.heap.size W
 have p0_0:=(HX0.out.below Bz).cell 0 (.bool s) rfl
 have p0_1:=(HX0.out.below Bz).cell 1 (.slice A l c) rfl
 go_enter Tryz.func124,Tryz.ntmps124
 go_wp2_with fail
 rw[←hW]
 clear hW
 go_wp2_with fail
 with_reducible refine(norm_r (I.below hn (by go_grown)) (by omega)).mono ?_
 rintro e w1 ⟨s1,A1,c1,l1,rfl,h1,m1,b1⟩
 replace b1:=zAa (a:=W) (by go_grown) b1
 replace hd:=hd.below b1
 replace Bz:=zAa Bz b1
 clear b1
 clear p0_0 p0_1
 go_upto_region 2 with(fail)
 obtain⟨V1,hW,x3,hN⟩:=zAi w1 #[.bool s1,.slice A1 l1 c1] 55
 rw[←hW]
 clear hW
 obtain⟨v3,hb3⟩:∃b,b=w1.heap.size:=⟨_,rfl⟩
 rw[←hb3] at x3 ⊢
 have o0_3:w.heap.size<v3:=by have:=(HX0.out.below Bz).lt;omega
 have o1_3:w.heap.size+1<v3:=by have:=(HX1.out.below Bz).lt;omega
 have o2_3:w.heap.size+1+1<v3:=by have:=(HX2.out.below Bz).lt;omega
 have ow_3:w.heap.size≤v3:=by have:=hB.size;have:=Bz.size;omega
 replace hd:=hd.below hN
 replace h1:=h1.below hN
 replace hB:=zAa (zAa hB Bz) hN
 replace HX0:=Lib.hid ((HX0.out.below Bz).below hN)
 replace HX1:=Lib.hid ((HX1.out.below Bz).below hN)
 replace HX2:=Lib.hid ((HX2.out.below Bz).below hN)
 have HX3:=Lib.hid x3
 clear x3 hN Bz hb3
 have Bz:=Below.refl V1.heap.size V1
 have p0_2:=(HX0.out.below Bz).cell 2 (.bool s') rfl
 have p0_3:=(HX0.out.below Bz).cell 3 (.slice A' l' c') rfl
 go_wp2_with fail
 with_reducible refine(norm_r (I.below hd (by go_grown)) (by omega)).mono ?_
 rintro e w2 ⟨s2,A2,c2,l2,rfl,h2,m2,b2⟩
 replace b2:=zAa (a:=V1) (by go_grown) b2
 replace h1:=h1.below b2
 replace Bz:=zAa Bz b2
 clear h2
 clear b2
 clear p0_2 p0_3
 go_upto_region 3 with(fail)
 obtain⟨V2,hW,x4,hN⟩:=zAi w2 #[.bool s2,.slice A2 l2 c2] 55
 rw[←hW]
 clear hW
 obtain⟨v4,hb4⟩:∃b,b=w2.heap.size:=⟨_,rfl⟩
 rw[←hb4] at x4 ⊢
 have o0_4:w.heap.size<v4:=by have:=(HX0.out.below Bz).lt;omega
 have o1_4:w.heap.size+1<v4:=by have:=(HX1.out.below Bz).lt;omega
 have o2_4:w.heap.size+1+1<v4:=by have:=(HX2.out.below Bz).lt;omega
 have o3_4:v3<v4:=by have:=(HX3.out.below Bz).lt;omega
 have ow_4:w.heap.size≤v4:=by have:=hB.size;have:=Bz.size;omega
 replace h1:=h1.below hN
 replace hB:=zAa (zAa hB Bz) hN
 replace HX0:=Lib.hid ((HX0.out.below Bz).below hN)
 replace HX1:=Lib.hid ((HX1.out.below Bz).below hN)
 replace HX2:=Lib.hid ((HX2.out.below Bz).below hN)
 replace HX3:=Lib.hid ((HX3.out.below Bz).below hN)
 have HX4:=Lib.hid x4
 clear x4 hN Bz hb4
 have Bz:=Below.refl V2.heap.size V2
 have p0_3:=(HX0.out.below Bz).cell 3 (.slice A' l' c') rfl
 go_wp2_with fail
 with_reducible refine(ofq 1 (Lib.hid (by omega))).mono ?_
 rintro e w3 ⟨s3,A3,c3,l3,rfl,h3,m3,b3⟩
 replace b3:=zAa (a:=V2) (by go_grown) b3
 replace h1:=h1.below b3
 replace Bz:=zAa Bz b3
 clear b3
 obtain rfl:=J.pos_of h3 (by omega)
 clear p0_3
 have p4_0:=(HX4.out.below Bz).cell 0 (.bool s2) rfl
 have p4_1:=(HX4.out.below Bz).cell 1 (.slice A2 l2 c2) rfl
 have f4_0:=(HX4.out.below Bz).frozen 0
 have f4_1:=(HX4.out.below Bz).frozen 1
 have y4:=(HX4.out.below Bz).lt
 go_upto_region 5 with(fail)
 obtain⟨V3,hW,x,kk,far,bel⟩:=zAq (.bool false) (.slice A3 l3 c3) (HX4.out.below Bz) (fun _ e=>by cases e) (fun _ e=>by cases e)
 rw[←hW]
 clear hW
 replace h1:=h1.k kk
 replace h3:=h3.k kk
 replace hB:=bel w.heap.size w (by omega) (zAa hB Bz)
 replace HX0:=Lib.hid (far _ _ _ (by omega) (HX0.out.below Bz))
 replace HX1:=Lib.hid (far _ _ _ (by omega) (HX1.out.below Bz))
 replace HX2:=Lib.hid (far _ _ _ (by omega) (HX2.out.below Bz))
 replace HX3:=Lib.hid (far _ _ _ (by omega) (HX3.out.below Bz))
 replace HX4:=Lib.hid x
 clear x kk far bel Bz
 have Bz:=Below.refl V3.heap.size V3
 clear p4_0 p4_1 f4_0 f4_1 y4
 have p4_0:=(HX4.out.below Bz).cell 0 (.bool false) rfl
 have p4_1:=(HX4.out.below Bz).cell 1 (.slice A3 l3 c3) rfl
 go_wp2_with fail
 with_reducible refine(sign_r (I.below h3.i (by go_grown)) (by omega) t0 HT.out).mono ?_
 rintro e w4 ⟨rfl,b4⟩
 replace b4:=zAa (a:=V3) (by go_grown) b4
 replace h1:=h1.below b4
 replace h3:=h3.below b4
 replace Bz:=zAa Bz b4
 clear b4
 clear p4_0 p4_1
 have p1_0:=(HX1.out.below Bz).cell 0 (.bool false) rfl
 have p1_1:=(HX1.out.below Bz).cell 1 (.slice none 0 0) rfl
 have f1_0:=(HX1.out.below Bz).frozen 0
 have f1_1:=(HX1.out.below Bz).frozen 1
 have y1:=(HX1.out.below Bz).lt
 have p2_0:=(HX2.out.below Bz).cell 0 (.bool false) rfl
 have p2_1:=(HX2.out.below Bz).cell 1 (.slice none 0 0) rfl
 have f2_0:=(HX2.out.below Bz).frozen 0
 have f2_1:=(HX2.out.below Bz).frozen 1
 have y2:=(HX2.out.below Bz).lt
 have p3_0:=(HX3.out.below Bz).cell 0 (.bool s1) rfl
 have p3_1:=(HX3.out.below Bz).cell 1 (.slice A1 l1 c1) rfl
 have p4_0:=(HX4.out.below Bz).cell 0 (.bool false) rfl
 have p4_1:=(HX4.out.below Bz).cell 1 (.slice A3 l3 c3) rfl
 go_wp2_with fail
 (try simp only[List.append_eq,List.cons_append,List.nil_append])
 refine zAc (.take 0 (.take 1 (.only 2 (.only 3 .done)))) [3] (fun w'=>w'.cell? ⟨v3,0,none⟩=some (.bool s1)∧w'.cell? ⟨v3,1,none⟩=some (.slice A1 l1 c1)∧w'.cell? ⟨v4,0,none⟩=some (.bool false)∧w'.cell? ⟨v4,1,none⟩=some (.slice A3 l3 c3)) (by kernel_rfl) (by kernel_rfl) ⟨p3_0,p3_1,p4_0,p4_1⟩ ?_
 iterate 2 (refine zAb (o:=⟨some _,_,_,_,_,_⟩) rfl rfl (fun w' ⟨p3_0,p3_1,p4_0,p4_1⟩=>by go_simp<;>with_reducible rfl) ?_;try simp only[Act.put,List.setIfInBounds_toArray,List.set_cons_zero,List.set_cons_succ])
 refine zAd (o:=⟨none,_,_,_,_,_⟩) rfl rfl (fun K hK=>?_)
 go_simp
 refine hK.out _ _ ⟨(zAf (by omega)).trans p3_0,(zAf (by omega)).trans p3_1,(zAf (by omega)).trans p4_0,(zAf (by omega)).trans p4_1⟩ (fun _=>?_)
 try simp only[Act.put,List.setIfInBounds_toArray,List.set_cons_zero,List.set_cons_succ]
 clear hK K
 refine zAg (o:=⟨none,_,_,_,_,_⟩) rfl rfl (by decide) (fun K hK=>?_)
 go_simp
 refine hK.out _ _ ?_
 try simp only[Act.put,List.setIfInBounds_toArray,List.set_cons_zero,List.set_cons_succ]
 clear hK K
 refine zAe ?_
 go_wp2_with fail
 have q2_0:w4.cell? ⟨w.heap.size+2,0,none⟩=some (.bool false):=p2_0
 have q2_1:w4.cell? ⟨w.heap.size+2,1,none⟩=some (.slice none 0 0):=p2_1
 (try simp only[Exit.inBlock,Exit.then])
 refine bodyPost_ret (by simp[results,Tryz.results124,go_sem,p1_0,p1_1,q2_0,q2_1];try rfl) rfl ?_
 obtain⟨V4,hW,x,kk,far,bel⟩:=zAq (.bool s1) (.slice A1 l1 c1) (HX1.out.below Bz) (fun _ e=>by cases e) (fun _ e=>by cases e)
 rw[←hW]
 clear hW
 replace h1:=h1.k kk
 replace h3:=h3.k kk
 replace hB:=bel w.heap.size w (by omega) (zAa hB Bz)
 replace HX0:=Lib.hid (far _ _ _ (by omega) (HX0.out.below Bz))
 replace HX2:=Lib.hid (far _ _ _ (by omega) (HX2.out.below Bz))
 replace HX3:=Lib.hid (far _ _ _ (by omega) (HX3.out.below Bz))
 replace HX4:=Lib.hid (far _ _ _ (by omega) (HX4.out.below Bz))
 replace HX1:=Lib.hid x
 clear x kk far bel Bz
 have Bz:=Below.refl V4.heap.size V4
 obtain⟨V5,hW,x,kk,far,bel⟩:=zAq (.bool false) (.slice A3 l3 c3) (HX2.out.below Bz) (fun _ e=>by cases e) (fun _ e=>by cases e)
 rw[←hW]
 clear hW
 replace h1:=h1.k kk
 replace h3:=h3.k kk
 replace hB:=bel w.heap.size w (by omega) (zAa hB Bz)
 replace HX0:=Lib.hid (far _ _ _ (by omega) (HX0.out.below Bz))
 replace HX1:=Lib.hid (far _ _ _ (by omega) (HX1.out.below Bz))
 replace HX3:=Lib.hid (far _ _ _ (by omega) (HX3.out.below Bz))
 replace HX4:=Lib.hid (far _ _ _ (by omega) (HX4.out.below Bz))
 replace HX2:=Lib.hid x
 clear x kk far bel Bz
 have Bz:=Below.refl V5.heap.size V5
 have hF:=zAa (c:=V5) hB Bz
 exact⟨n,1,s1,A1,c1,l1,false,A3,c3,l3,rfl,(I.below h1.i (by go_grown)),(I.below h3.i (by go_grown)),by omega,rfl,by omega,by omega,zAa hF (by go_grown)⟩
set_option maxRecDepth 100000 in
set_option maxHeartbeats 4000000 in
theorem parts_r_zero {n d:Int} {m:Nat} (hn:I w s A c l n) (hd:I w s' A' c' l' d) (hl:l≤m) (hl':l'≤m) (hm:m≤10000) (h0:((l':Int)==0)=false) (hd0:Hid (d=0)) :
  Calls Tryz.prog 124 #[.agg #[.bool s,.slice A l c,.bool s',.slice A' l' c']] w (TellsP w (qof n d) (m+2) (m+3)):=by
 obtain⟨t0,ht⟩:∃t:Int,t=0:=⟨_,rfl⟩
 have HT:Hid ((d:Int).sign=t0):=Lib.hid (by rw[ht];exact by rw[hd0.out];rfl)
 have g1:(t0==0)=true:=by rw[ht];rfl
 clear ht
 obtain⟨W,hW,x0,x1,x2,hB⟩:=boxes3 w #[.bool s,.slice A l c,.bool s',.slice A' l' c'] 57 #[.bool false,.slice none 0 0] 55 #[.bool false,.slice none 0 0] 55
 replace hd:=hd.below hB
 replace hn:=hn.below hB
 have HX0:=Lib.hid x0
 have HX1:=Lib.hid x1
 have HX2:=Lib.hid x2
 clear x0 x1 x2
 have Bz:=Below.refl W.heap.size W
 have p0_0:=(HX0.out.below Bz).cell 0 (.bool s) rfl
 have p0_1:=(HX0.out.below Bz).cell 1 (.slice A l c) rfl
 go_enter Tryz.func124,Tryz.ntmps124
 go_wp2_with fail
 rw[←hW]
 clear hW
 go_wp2_with fail
 with_reducible refine(norm_r (I.below hn (by go_grown)) (by omega)).mono ?_
 rintro e w1 ⟨s1,A1,c1,l1,rfl,h1,m1,b1⟩
 replace b1:=zAa (a:=W) (by go_grown) b1
 replace hd:=hd.below b1
 replace Bz:=zAa Bz b1
 clear h1
 clear b1
 clear p0_0 p0_1
 go_upto_region 2 with(fail)
 obtain⟨V1,hW,x3,hN⟩:=zAi w1 #[.bool s1,.slice A1 l1 c1] 55
 rw[←hW]
 clear hW
 obtain⟨v3,hb3⟩:∃b,b=w1.heap.size:=⟨_,rfl⟩
 rw[←hb3] at x3 ⊢
 have o0_3:w.heap.size<v3:=by have:=(HX0.out.below Bz).lt;omega
 have o1_3:w.heap.size+1<v3:=by have:=(HX1.out.below Bz).lt;omega
 have o2_3:w.heap.size+1+1<v3:=by have:=(HX2.out.below Bz).lt;omega
 have ow_3:w.heap.size≤v3:=by have:=hB.size;have:=Bz.size;omega
 replace hd:=hd.below hN
 replace hB:=zAa (zAa hB Bz) hN
 replace HX0:=Lib.hid ((HX0.out.below Bz).below hN)
 replace HX1:=Lib.hid ((HX1.out.below Bz).below hN)
 replace HX2:=Lib.hid ((HX2.out.below Bz).below hN)
 have HX3:=Lib.hid x3
 clear x3 hN Bz hb3
 have Bz:=Below.refl V1.heap.size V1
 have p0_2:=(HX0.out.below Bz).cell 2 (.bool s') rfl
 have p0_3:=(HX0.out.below Bz).cell 3 (.slice A' l' c') rfl
 go_wp2_with fail
 with_reducible refine(norm_r (I.below hd (by go_grown)) (by omega)).mono ?_
 rintro e w2 ⟨s2,A2,c2,l2,rfl,h2,m2,b2⟩
 replace b2:=zAa (a:=V1) (by go_grown) b2
 replace Bz:=zAa Bz b2
 clear b2
 clear p0_2 p0_3
 go_upto_region 3 with(fail)
 obtain⟨V2,hW,x4,hN⟩:=zAi w2 #[.bool s2,.slice A2 l2 c2] 55
 rw[←hW]
 clear hW
 obtain⟨v4,hb4⟩:∃b,b=w2.heap.size:=⟨_,rfl⟩
 rw[←hb4] at x4 ⊢
 have o0_4:w.heap.size<v4:=by have:=(HX0.out.below Bz).lt;omega
 have o1_4:w.heap.size+1<v4:=by have:=(HX1.out.below Bz).lt;omega
 have o2_4:w.heap.size+1+1<v4:=by have:=(HX2.out.below Bz).lt;omega
 have o3_4:v3<v4:=by have:=(HX3.out.below Bz).lt;omega
 have ow_4:w.heap.size≤v4:=by have:=hB.size;have:=Bz.size;omega
 replace h2:=h2.below hN
 replace hB:=zAa (zAa hB Bz) hN
 replace HX0:=Lib.hid ((HX0.out.below Bz).below hN)
 replace HX1:=Lib.hid ((HX1.out.below Bz).below hN)
 replace HX2:=Lib.hid ((HX2.out.below Bz).below hN)
 replace HX3:=Lib.hid ((HX3.out.below Bz).below hN)
 have HX4:=Lib.hid x4
 clear x4 hN Bz hb4
 have Bz:=Below.refl V2.heap.size V2
 have p0_3:=(HX0.out.below Bz).cell 3 (.slice A' l' c') rfl
 have p4_0:=(HX4.out.below Bz).cell 0 (.bool s2) rfl
 have p4_1:=(HX4.out.below Bz).cell 1 (.slice A2 l2 c2) rfl
 go_wp2_with fail
 with_reducible refine(sign_r (I.below h2.i (by go_grown)) (by omega) t0 HT.out).mono ?_
 rintro e w3 ⟨rfl,b3⟩
 replace b3:=zAa (a:=V2) (by go_grown) b3
 replace Bz:=zAa Bz b3
 clear b3
 clear p0_3 p4_0 p4_1
 go_wp2_with fail
 with_reducible refine(ofq 1 (Lib.hid (by omega))).mono ?_
 rintro e w4 ⟨s4,A4,c4,l4,rfl,h4,m4,b4⟩
 replace b4:=zAa (a:=w3) (by go_grown) b4
 replace Bz:=zAa Bz b4
 clear b4
 have p1_0:=(HX1.out.below Bz).cell 0 (.bool false) rfl
 have p1_1:=(HX1.out.below Bz).cell 1 (.slice none 0 0) rfl
 have f1_0:=(HX1.out.below Bz).frozen 0
 have f1_1:=(HX1.out.below Bz).frozen 1
 have y1:=(HX1.out.below Bz).lt
 have p2_0:=(HX2.out.below Bz).cell 0 (.bool false) rfl
 have p2_1:=(HX2.out.below Bz).cell 1 (.slice none 0 0) rfl
 have f2_0:=(HX2.out.below Bz).frozen 0
 have f2_1:=(HX2.out.below Bz).frozen 1
 have y2:=(HX2.out.below Bz).lt
 go_wp2_with fail
 have q2_0:w4.cell? ⟨w.heap.size+2,0,none⟩=some (.bool false):=p2_0
 have q2_1:w4.cell? ⟨w.heap.size+2,1,none⟩=some (.slice none 0 0):=p2_1
 (try simp only[Exit.inBlock,Exit.then])
 refine bodyPost_ret (by simp[results,Tryz.results124,go_sem,p1_0,p1_1,q2_0,q2_1];try rfl) rfl ?_
 obtain⟨V3,hW,x,kk,far,bel⟩:=zAq (.bool false) (.slice none 0 0) (HX1.out.below Bz) (fun _ e=>by cases e) (fun _ e=>by cases e)
 rw[←hW]
 clear hW
 replace h4:=h4.k kk
 replace hB:=bel w.heap.size w (by omega) (zAa hB Bz)
 replace HX0:=Lib.hid (far _ _ _ (by omega) (HX0.out.below Bz))
 replace HX2:=Lib.hid (far _ _ _ (by omega) (HX2.out.below Bz))
 replace HX3:=Lib.hid (far _ _ _ (by omega) (HX3.out.below Bz))
 replace HX4:=Lib.hid (far _ _ _ (by omega) (HX4.out.below Bz))
 replace HX1:=Lib.hid x
 clear x kk far bel Bz
 have Bz:=Below.refl V3.heap.size V3
 obtain⟨V4,hW,x,kk,far,bel⟩:=zAq (.bool s4) (.slice A4 l4 c4) (HX2.out.below Bz) (fun _ e=>by cases e) (fun _ e=>by cases e)
 rw[←hW]
 clear hW
 replace h4:=h4.k kk
 replace hB:=bel w.heap.size w (by omega) (zAa hB Bz)
 replace HX0:=Lib.hid (far _ _ _ (by omega) (HX0.out.below Bz))
 replace HX1:=Lib.hid (far _ _ _ (by omega) (HX1.out.below Bz))
 replace HX3:=Lib.hid (far _ _ _ (by omega) (HX3.out.below Bz))
 replace HX4:=Lib.hid (far _ _ _ (by omega) (HX4.out.below Bz))
 replace HX2:=Lib.hid x
 clear x kk far bel Bz
 have Bz:=Below.refl V4.heap.size V4
 have hF:=zAa (c:=V4) hB Bz
 exact⟨0,1,false,none,0,0,s4,A4,c4,l4,rfl,J.i (J.zero _),(I.below h4.i (by go_grown)),by omega,(by rw[hd0.out,qof_zero,qof_one];rfl),by omega,by omega,zAa hF (by go_grown)⟩
set_option maxRecDepth 100000 in
set_option maxHeartbeats 4000000 in
theorem parts_r_neg {n d:Int} {m:Nat} (hn:I w s A c l n) (hd:I w s' A' c' l' d) (hl:l≤m) (hl':l'≤m) (hm:m≤10000) (h0:((l':Int)==0)=false) (hd0:d<0) :
  Calls Tryz.prog 124 #[.agg #[.bool s,.slice A l c,.bool s',.slice A' l' c']] w (TellsP w (qof n d) (m+2) (m+3)):=by
 obtain⟨t0,ht⟩:∃t:Int,t = -1:=⟨_,rfl⟩
 have HT:Hid ((d:Int).sign=t0):=Lib.hid (by rw[ht];exact Int.sign_eq_neg_one_of_neg hd0)
 have g1:(t0==0)=false:=by rw[ht];rfl
 clear ht
 obtain⟨W,hW,x0,x1,x2,hB⟩:=boxes3 w #[.bool s,.slice A l c,.bool s',.slice A' l' c'] 57 #[.bool false,.slice none 0 0] 55 #[.bool false,.slice none 0 0] 55
 replace hd:=hd.below hB
 replace hn:=hn.below hB
 have HX0:=Lib.hid x0
 have HX1:=Lib.hid x1
 have HX2:=Lib.hid x2
 clear x0 x1 x2
 have Bz:=Below.refl W.heap.size W
 have p0_0:=(HX0.out.below Bz).cell 0 (.bool s) rfl
 have p0_1:=(HX0.out.below Bz).cell 1 (.slice A l c) rfl
 go_enter Tryz.func124,Tryz.ntmps124
 go_wp2_with fail
 rw[←hW]
 clear hW
 go_wp2_with fail
 with_reducible refine(norm_r (I.below hn (by go_grown)) (by omega)).mono ?_
 rintro e w1 ⟨s1,A1,c1,l1,rfl,h1,m1,b1⟩
 replace b1:=zAa (a:=W) (by go_grown) b1
 replace hd:=hd.below b1
 replace Bz:=zAa Bz b1
 clear b1
 clear p0_0 p0_1
 go_upto_region 2 with(fail)
 obtain⟨V1,hW,x3,hN⟩:=zAi w1 #[.bool s1,.slice A1 l1 c1] 55
 rw[←hW]
 clear hW
 obtain⟨v3,hb3⟩:∃b,b=w1.heap.size:=⟨_,rfl⟩
 rw[←hb3] at x3 ⊢
 have o0_3:w.heap.size<v3:=by have:=(HX0.out.below Bz).lt;omega
 have o1_3:w.heap.size+1<v3:=by have:=(HX1.out.below Bz).lt;omega
 have o2_3:w.heap.size+1+1<v3:=by have:=(HX2.out.below Bz).lt;omega
 have ow_3:w.heap.size≤v3:=by have:=hB.size;have:=Bz.size;omega
 replace hd:=hd.below hN
 replace h1:=h1.below hN
 replace hB:=zAa (zAa hB Bz) hN
 replace HX0:=Lib.hid ((HX0.out.below Bz).below hN)
 replace HX1:=Lib.hid ((HX1.out.below Bz).below hN)
 replace HX2:=Lib.hid ((HX2.out.below Bz).below hN)
 have HX3:=Lib.hid x3
 clear x3 hN Bz hb3
 have Bz:=Below.refl V1.heap.size V1
 have p0_2:=(HX0.out.below Bz).cell 2 (.bool s') rfl
 have p0_3:=(HX0.out.below Bz).cell 3 (.slice A' l' c') rfl
 go_wp2_with fail
 with_reducible refine(norm_r (I.below hd (by go_grown)) (by omega)).mono ?_
 rintro e w2 ⟨s2,A2,c2,l2,rfl,h2,m2,b2⟩
 replace b2:=zAa (a:=V1) (by go_grown) b2
 replace h1:=h1.below b2
 replace Bz:=zAa Bz b2
 clear b2
 obtain rfl:=J.neg_of h2 (by omega)
 clear p0_2 p0_3
 go_upto_region 3 with(fail)
 obtain⟨V2,hW,x4,hN⟩:=zAi w2 #[.bool true,.slice A2 l2 c2] 55
 rw[←hW]
 clear hW
 obtain⟨v4,hb4⟩:∃b,b=w2.heap.size:=⟨_,rfl⟩
 rw[←hb4] at x4 ⊢
 have o0_4:w.heap.size<v4:=by have:=(HX0.out.below Bz).lt;omega
 have o1_4:w.heap.size+1<v4:=by have:=(HX1.out.below Bz).lt;omega
 have o2_4:w.heap.size+1+1<v4:=by have:=(HX2.out.below Bz).lt;omega
 have o3_4:v3<v4:=by have:=(HX3.out.below Bz).lt;omega
 have ow_4:w.heap.size≤v4:=by have:=hB.size;have:=Bz.size;omega
 replace h1:=h1.below hN
 replace h2:=h2.below hN
 replace hB:=zAa (zAa hB Bz) hN
 replace HX0:=Lib.hid ((HX0.out.below Bz).below hN)
 replace HX1:=Lib.hid ((HX1.out.below Bz).below hN)
 replace HX2:=Lib.hid ((HX2.out.below Bz).below hN)
 replace HX3:=Lib.hid ((HX3.out.below Bz).below hN)
 have HX4:=Lib.hid x4
 clear x4 hN Bz hb4
 have Bz:=Below.refl V2.heap.size V2
 have p0_3:=(HX0.out.below Bz).cell 3 (.slice A' l' c') rfl
 have p4_0:=(HX4.out.below Bz).cell 0 (.bool true) rfl
 have p4_1:=(HX4.out.below Bz).cell 1 (.slice A2 l2 c2) rfl
 go_wp2_with fail
 with_reducible refine(sign_r (I.below h2.i (by go_grown)) (by omega) t0 HT.out).mono ?_
 rintro e w3 ⟨rfl,b3⟩
 replace b3:=zAa (a:=V2) (by go_grown) b3
 replace h1:=h1.below b3
 replace h2:=h2.below b3
 replace Bz:=zAa Bz b3
 clear b3
 clear p0_3 p4_0 p4_1
 have p3_0:=(HX3.out.below Bz).cell 0 (.bool s1) rfl
 have p3_1:=(HX3.out.below Bz).cell 1 (.slice A1 l1 c1) rfl
 have p4_0:=(HX4.out.below Bz).cell 0 (.bool true) rfl
 go_wp2_with fail
 with_reducible refine(neg_r (I.below h1.i (by go_grown)) (by omega)).mono ?_
 rintro e w4 ⟨s4,A4,c4,l4,rfl,h4,m4,b4⟩
 replace b4:=zAa (a:=w3) (by go_grown) b4
 replace h2:=h2.below b4
 replace Bz:=zAa Bz b4
 clear b4
 clear p3_0 p3_1 p4_0
 have p3_0:=(HX3.out.below Bz).cell 0 (.bool s1) rfl
 have p3_1:=(HX3.out.below Bz).cell 1 (.slice A1 l1 c1) rfl
 have f3_0:=(HX3.out.below Bz).frozen 0
 have f3_1:=(HX3.out.below Bz).frozen 1
 have y3:=(HX3.out.below Bz).lt
 go_upto_region 9 with(fail)
 obtain⟨V3,hW,x,kk,far,bel⟩:=zAq (.bool s4) (.slice A4 l4 c4) (HX3.out.below Bz) (fun _ e=>by cases e) (fun _ e=>by cases e)
 rw[←hW]
 clear hW
 replace h2:=h2.k kk
 replace h4:=h4.k kk
 replace hB:=bel w.heap.size w (by omega) (zAa hB Bz)
 replace HX0:=Lib.hid (far _ _ _ (by omega) (HX0.out.below Bz))
 replace HX1:=Lib.hid (far _ _ _ (by omega) (HX1.out.below Bz))
 replace HX2:=Lib.hid (far _ _ _ (by omega) (HX2.out.below Bz))
 replace HX4:=Lib.hid (far _ _ _ (by omega) (HX4.out.below Bz))
 replace HX3:=Lib.hid x
 clear x kk far bel Bz
 have Bz:=Below.refl V3.heap.size V3
 clear p3_0 p3_1 f3_0 f3_1 y3
 have p4_0:=(HX4.out.below Bz).cell 0 (.bool true) rfl
 have p4_1:=(HX4.out.below Bz).cell 1 (.slice A2 l2 c2) rfl
 go_wp2_with fail
 with_reducible refine(neg_r (I.below h2.i (by go_grown)) (by omega)).mono ?_
 rintro e w5 ⟨s5,A5,c5,l5,rfl,h5,m5,b5⟩
 replace b5:=zAa (a:=V3) (by go_grown) b5
 replace h4:=h4.below b5
 replace Bz:=zAa Bz b5
 clear b5
 clear p4_0 p4_1
 have p4_0:=(HX4.out.below Bz).cell 0 (.bool true) rfl
 have p4_1:=(HX4.out.below Bz).cell 1 (.slice A2 l2 c2) rfl
 have f4_0:=(HX4.out.below Bz).frozen 0
 have f4_1:=(HX4.out.below Bz).frozen 1
 have y4:=(HX4.out.below Bz).lt
 go_upto_region 10 with(fail)
 obtain⟨V4,hW,x,kk,far,bel⟩:=zAq (.bool s5) (.slice A5 l5 c5) (HX4.out.below Bz) (fun _ e=>by cases e) (fun _ e=>by cases e)
 rw[←hW]
 clear hW
 replace h4:=h4.k kk
 replace h5:=h5.k kk
 replace hB:=bel w.heap.size w (by omega) (zAa hB Bz)
 replace HX0:=Lib.hid (far _ _ _ (by omega) (HX0.out.below Bz))
 replace HX1:=Lib.hid (far _ _ _ (by omega) (HX1.out.below Bz))
 replace HX2:=Lib.hid (far _ _ _ (by omega) (HX2.out.below Bz))
 replace HX3:=Lib.hid (far _ _ _ (by omega) (HX3.out.below Bz))
 replace HX4:=Lib.hid x
 clear x kk far bel Bz
 have Bz:=Below.refl V4.heap.size V4
 clear p4_0 p4_1 f4_0 f4_1 y4
 have p1_0:=(HX1.out.below Bz).cell 0 (.bool false) rfl
 have p1_1:=(HX1.out.below Bz).cell 1 (.slice none 0 0) rfl
 have f1_0:=(HX1.out.below Bz).frozen 0
 have f1_1:=(HX1.out.below Bz).frozen 1
 have y1:=(HX1.out.below Bz).lt
 have p2_0:=(HX2.out.below Bz).cell 0 (.bool false) rfl
 have p2_1:=(HX2.out.below Bz).cell 1 (.slice none 0 0) rfl
 have f2_0:=(HX2.out.below Bz).frozen 0
 have f2_1:=(HX2.out.below Bz).frozen 1
 have y2:=(HX2.out.below Bz).lt
 have p3_0:=(HX3.out.below Bz).cell 0 (.bool s4) rfl
 have p3_1:=(HX3.out.below Bz).cell 1 (.slice A4 l4 c4) rfl
 have p4_0:=(HX4.out.below Bz).cell 0 (.bool s5) rfl
 have p4_1:=(HX4.out.below Bz).cell 1 (.slice A5 l5 c5) rfl
 go_wp2_with fail
 (try simp only[List.append_eq,List.cons_append,List.nil_append])
 refine zAc (.take 0 (.take 1 (.only 2 (.only 3 .done)))) [3] (fun w'=>w'.cell? ⟨v3,0,none⟩=some (.bool s4)∧w'.cell? ⟨v3,1,none⟩=some (.slice A4 l4 c4)∧w'.cell? ⟨v4,0,none⟩=some (.bool s5)∧w'.cell? ⟨v4,1,none⟩=some (.slice A5 l5 c5)) (by kernel_rfl) (by kernel_rfl) ⟨p3_0,p3_1,p4_0,p4_1⟩ ?_
 iterate 2 (refine zAb (o:=⟨some _,_,_,_,_,_⟩) rfl rfl (fun w' ⟨p3_0,p3_1,p4_0,p4_1⟩=>by go_simp<;>with_reducible rfl) ?_;try simp only[Act.put,List.setIfInBounds_toArray,List.set_cons_zero,List.set_cons_succ])
 refine zAd (o:=⟨none,_,_,_,_,_⟩) rfl rfl (fun K hK=>?_)
 go_simp
 refine hK.out _ _ ⟨(zAf (by omega)).trans p3_0,(zAf (by omega)).trans p3_1,(zAf (by omega)).trans p4_0,(zAf (by omega)).trans p4_1⟩ (fun _=>?_)
 try simp only[Act.put,List.setIfInBounds_toArray,List.set_cons_zero,List.set_cons_succ]
 clear hK K
 refine zAg (o:=⟨none,_,_,_,_,_⟩) rfl rfl (by decide) (fun K hK=>?_)
 go_simp
 refine hK.out _ _ ?_
 try simp only[Act.put,List.setIfInBounds_toArray,List.set_cons_zero,List.set_cons_succ]
 clear hK K
 refine zAe ?_
 go_wp2_with fail
 have q2_0:V4.cell? ⟨w.heap.size+2,0,none⟩=some (.bool false):=p2_0
 have q2_1:V4.cell? ⟨w.heap.size+2,1,none⟩=some (.slice none 0 0):=p2_1
 (try simp only[Exit.inBlock,Exit.then])
 refine bodyPost_ret (by simp[results,Tryz.results124,go_sem,p1_0,p1_1,q2_0,q2_1];try rfl) rfl ?_
 obtain⟨V5,hW,x,kk,far,bel⟩:=zAq (.bool s4) (.slice A4 l4 c4) (HX1.out.below Bz) (fun _ e=>by cases e) (fun _ e=>by cases e)
 rw[←hW]
 clear hW
 replace h4:=h4.k kk
 replace h5:=h5.k kk
 replace hB:=bel w.heap.size w (by omega) (zAa hB Bz)
 replace HX0:=Lib.hid (far _ _ _ (by omega) (HX0.out.below Bz))
 replace HX2:=Lib.hid (far _ _ _ (by omega) (HX2.out.below Bz))
 replace HX3:=Lib.hid (far _ _ _ (by omega) (HX3.out.below Bz))
 replace HX4:=Lib.hid (far _ _ _ (by omega) (HX4.out.below Bz))
 replace HX1:=Lib.hid x
 clear x kk far bel Bz
 have Bz:=Below.refl V5.heap.size V5
 obtain⟨V6,hW,x,kk,far,bel⟩:=zAq (.bool s5) (.slice A5 l5 c5) (HX2.out.below Bz) (fun _ e=>by cases e) (fun _ e=>by cases e)
 rw[←hW]
 clear hW
 replace h4:=h4.k kk
 replace h5:=h5.k kk
 replace hB:=bel w.heap.size w (by omega) (zAa hB Bz)
 replace HX0:=Lib.hid (far _ _ _ (by omega) (HX0.out.below Bz))
 replace HX1:=Lib.hid (far _ _ _ (by omega) (HX1.out.below Bz))
 replace HX3:=Lib.hid (far _ _ _ (by omega) (HX3.out.below Bz))
 replace HX4:=Lib.hid (far _ _ _ (by omega) (HX4.out.below Bz))
 replace HX2:=Lib.hid x
 clear x kk far bel Bz
 have Bz:=Below.refl V6.heap.size V6
 have hF:=zAa (c:=V6) hB Bz
 exact⟨-n,-d,s4,A4,c4,l4,s5,A5,c5,l5,rfl,(I.below h4.i (by go_grown)),(I.below h5.i (by go_grown)),by omega,qof_neg n d,by omega,by omega,zAa hF (by go_grown)⟩
set_option maxRecDepth 100000 in
set_option maxHeartbeats 4000000 in
theorem parts_r_pos {n d:Int} {m:Nat} (hn:I w s A c l n) (hd:I w s' A' c' l' d) (hl:l≤m) (hl':l'≤m) (hm:m≤10000) (h0:((l':Int)==0)=false) (hd0:0<d) :
  Calls Tryz.prog 124 #[.agg #[.bool s,.slice A l c,.bool s',.slice A' l' c']] w (TellsP w (qof n d) (m+2) (m+3)):=by
 obtain⟨t0,ht⟩:∃t:Int,t=1:=⟨_,rfl⟩
 have HT:Hid ((d:Int).sign=t0):=Lib.hid (by rw[ht];exact Int.sign_eq_one_of_pos hd0)
 have g1:(t0==0)=false:=by rw[ht];rfl
 clear ht
 obtain⟨W,hW,x0,x1,x2,hB⟩:=boxes3 w #[.bool s,.slice A l c,.bool s',.slice A' l' c'] 57 #[.bool false,.slice none 0 0] 55 #[.bool false,.slice none 0 0] 55
 replace hd:=hd.below hB
 replace hn:=hn.below hB
 have HX0:=Lib.hid x0
 have HX1:=Lib.hid x1
 have HX2:=Lib.hid x2
 clear x0 x1 x2
 have Bz:=Below.refl W.heap.size W
 have p0_0:=(HX0.out.below Bz).cell 0 (.bool s) rfl
 have p0_1:=(HX0.out.below Bz).cell 1 (.slice A l c) rfl
 go_enter Tryz.func124,Tryz.ntmps124
 go_wp2_with fail
 rw[←hW]
 clear hW
 go_wp2_with fail
 with_reducible refine(norm_r (I.below hn (by go_grown)) (by omega)).mono ?_
 rintro e w1 ⟨s1,A1,c1,l1,rfl,h1,m1,b1⟩
 replace b1:=zAa (a:=W) (by go_grown) b1
 replace hd:=hd.below b1
 replace Bz:=zAa Bz b1
 clear b1
 clear p0_0 p0_1
 go_upto_region 2 with(fail)
 obtain⟨V1,hW,x3,hN⟩:=zAi w1 #[.bool s1,.slice A1 l1 c1] 55
 rw[←hW]
 clear hW
 obtain⟨v3,hb3⟩:∃b,b=w1.heap.size:=⟨_,rfl⟩
 rw[←hb3] at x3 ⊢
 have o0_3:w.heap.size<v3:=by have:=(HX0.out.below Bz).lt;omega
 have o1_3:w.heap.size+1<v3:=by have:=(HX1.out.below Bz).lt;omega
 have o2_3:w.heap.size+1+1<v3:=by have:=(HX2.out.below Bz).lt;omega
 have ow_3:w.heap.size≤v3:=by have:=hB.size;have:=Bz.size;omega
 replace hd:=hd.below hN
 replace h1:=h1.below hN
 replace hB:=zAa (zAa hB Bz) hN
 replace HX0:=Lib.hid ((HX0.out.below Bz).below hN)
 replace HX1:=Lib.hid ((HX1.out.below Bz).below hN)
 replace HX2:=Lib.hid ((HX2.out.below Bz).below hN)
 have HX3:=Lib.hid x3
 clear x3 hN Bz hb3
 have Bz:=Below.refl V1.heap.size V1
 have p0_2:=(HX0.out.below Bz).cell 2 (.bool s') rfl
 have p0_3:=(HX0.out.below Bz).cell 3 (.slice A' l' c') rfl
 go_wp2_with fail
 with_reducible refine(norm_r (I.below hd (by go_grown)) (by omega)).mono ?_
 rintro e w2 ⟨s2,A2,c2,l2,rfl,h2,m2,b2⟩
 replace b2:=zAa (a:=V1) (by go_grown) b2
 replace h1:=h1.below b2
 replace Bz:=zAa Bz b2
 clear b2
 obtain rfl:=J.pos_of h2 (by omega)
 clear p0_2 p0_3
 go_upto_region 3 with(fail)
 obtain⟨V2,hW,x4,hN⟩:=zAi w2 #[.bool false,.slice A2 l2 c2] 55
 rw[←hW]
 clear hW
 obtain⟨v4,hb4⟩:∃b,b=w2.heap.size:=⟨_,rfl⟩
 rw[←hb4] at x4 ⊢
 have o0_4:w.heap.size<v4:=by have:=(HX0.out.below Bz).lt;omega
 have o1_4:w.heap.size+1<v4:=by have:=(HX1.out.below Bz).lt;omega
 have o2_4:w.heap.size+1+1<v4:=by have:=(HX2.out.below Bz).lt;omega
 have o3_4:v3<v4:=by have:=(HX3.out.below Bz).lt;omega
 have ow_4:w.heap.size≤v4:=by have:=hB.size;have:=Bz.size;omega
 replace h1:=h1.below hN
 replace h2:=h2.below hN
 replace hB:=zAa (zAa hB Bz) hN
 replace HX0:=Lib.hid ((HX0.out.below Bz).below hN)
 replace HX1:=Lib.hid ((HX1.out.below Bz).below hN)
 replace HX2:=Lib.hid ((HX2.out.below Bz).below hN)
 replace HX3:=Lib.hid ((HX3.out.below Bz).below hN)
 have HX4:=Lib.hid x4
 clear x4 hN Bz hb4
 have Bz:=Below.refl V2.heap.size V2
 have p0_3:=(HX0.out.below Bz).cell 3 (.slice A' l' c') rfl
 have p4_0:=(HX4.out.below Bz).cell 0 (.bool false) rfl
 have p4_1:=(HX4.out.below Bz).cell 1 (.slice A2 l2 c2) rfl
 go_wp2_with fail
 with_reducible refine(sign_r (I.below h2.i (by go_grown)) (by omega) t0 HT.out).mono ?_
 rintro e w3 ⟨rfl,b3⟩
 replace b3:=zAa (a:=V2) (by go_grown) b3
 replace h1:=h1.below b3
 replace h2:=h2.below b3
 replace Bz:=zAa Bz b3
 clear b3
 clear p0_3 p4_0 p4_1
 have p1_0:=(HX1.out.below Bz).cell 0 (.bool false) rfl
 have p1_1:=(HX1.out.below Bz).cell 1 (.slice none 0 0) rfl
 have f1_0:=(HX1.out.below Bz).frozen 0
 have f1_1:=(HX1.out.below Bz).frozen 1
 have y1:=(HX1.out.below Bz).lt
 have p2_0:=(HX2.out.below Bz).cell 0 (.bool false) rfl
 have p2_1:=(HX2.out.below Bz).cell 1 (.slice none 0 0) rfl
 have f2_0:=(HX2.out.below Bz).frozen 0
 have f2_1:=(HX2.out.below Bz).frozen 1
 have y2:=(HX2.out.below Bz).lt
 have p3_0:=(HX3.out.below Bz).cell 0 (.bool s1) rfl
 have p3_1:=(HX3.out.below Bz).cell 1 (.slice A1 l1 c1) rfl
 have p4_0:=(HX4.out.below Bz).cell 0 (.bool false) rfl
 have p4_1:=(HX4.out.below Bz).cell 1 (.slice A2 l2 c2) rfl
 go_wp2_with fail
 (try simp only[List.append_eq,List.cons_append,List.nil_append])
 refine zAc (.take 0 (.take 1 (.only 2 (.only 3 .done)))) [3] (fun w'=>w'.cell? ⟨v3,0,none⟩=some (.bool s1)∧w'.cell? ⟨v3,1,none⟩=some (.slice A1 l1 c1)∧w'.cell? ⟨v4,0,none⟩=some (.bool false)∧w'.cell? ⟨v4,1,none⟩=some (.slice A2 l2 c2)) (by kernel_rfl) (by kernel_rfl) ⟨p3_0,p3_1,p4_0,p4_1⟩ ?_
 iterate 2 (refine zAb (o:=⟨some _,_,_,_,_,_⟩) rfl rfl (fun w' ⟨p3_0,p3_1,p4_0,p4_1⟩=>by go_simp<;>with_reducible rfl) ?_;try simp only[Act.put,List.setIfInBounds_toArray,List.set_cons_zero,List.set_cons_succ])
 refine zAd (o:=⟨none,_,_,_,_,_⟩) rfl rfl (fun K hK=>?_)
 go_simp
 refine hK.out _ _ ⟨(zAf (by omega)).trans p3_0,(zAf (by omega)).trans p3_1,(zAf (by omega)).trans p4_0,(zAf (by omega)).trans p4_1⟩ (fun _=>?_)
 try simp only[Act.put,List.setIfInBounds_toArray,List.set_cons_zero,List.set_cons_succ]
 clear hK K
 refine zAg (o:=⟨none,_,_,_,_,_⟩) rfl rfl (by decide) (fun K hK=>?_)
 go_simp
 refine hK.out _ _ ?_
 try simp only[Act.put,List.setIfInBounds_toArray,List.set_cons_zero,List.set_cons_succ]
 clear hK K
 refine zAe ?_
 go_wp2_with fail
 have q2_0:w3.cell? ⟨w.heap.size+2,0,none⟩=some (.bool false):=p2_0
 have q2_1:w3.cell? ⟨w.heap.size+2,1,none⟩=some (.slice none 0 0):=p2_1
 (try simp only[Exit.inBlock,Exit.then])
 refine bodyPost_ret (by simp[results,Tryz.results124,go_sem,p1_0,p1_1,q2_0,q2_1];try rfl) rfl ?_
 obtain⟨V3,hW,x,kk,far,bel⟩:=zAq (.bool s1) (.slice A1 l1 c1) (HX1.out.below Bz) (fun _ e=>by cases e) (fun _ e=>by cases e)
 rw[←hW]
 clear hW
 replace h1:=h1.k kk
 replace h2:=h2.k kk
 replace hB:=bel w.heap.size w (by omega) (zAa hB Bz)
 replace HX0:=Lib.hid (far _ _ _ (by omega) (HX0.out.below Bz))
 replace HX2:=Lib.hid (far _ _ _ (by omega) (HX2.out.below Bz))
 replace HX3:=Lib.hid (far _ _ _ (by omega) (HX3.out.below Bz))
 replace HX4:=Lib.hid (far _ _ _ (by omega) (HX4.out.below Bz))
 replace HX1:=Lib.hid x
 clear x kk far bel Bz
 have Bz:=Below.refl V3.heap.size V3
 obtain⟨V4,hW,x,kk,far,bel⟩:=zAq (.bool false) (.slice A2 l2 c2) (HX2.out.below Bz) (fun _ e=>by cases e) (fun _ e=>by cases e)
 rw[←hW]
 clear hW
 replace h1:=h1.k kk
 replace h2:=h2.k kk
 replace hB:=bel w.heap.size w (by omega) (zAa hB Bz)
 replace HX0:=Lib.hid (far _ _ _ (by omega) (HX0.out.below Bz))
 replace HX1:=Lib.hid (far _ _ _ (by omega) (HX1.out.below Bz))
 replace HX3:=Lib.hid (far _ _ _ (by omega) (HX3.out.below Bz))
 replace HX4:=Lib.hid (far _ _ _ (by omega) (HX4.out.below Bz))
 replace HX2:=Lib.hid x
 clear x kk far bel Bz
 have Bz:=Below.refl V4.heap.size V4
 have hF:=zAa (c:=V4) hB Bz
 exact⟨n,d,s1,A1,c1,l1,false,A2,c2,l2,rfl,(I.below h1.i (by go_grown)),(I.below h2.i (by go_grown)),by omega,rfl,by omega,by omega,zAa hF (by go_grown)⟩
theorem parts_r {q:Rat} {m:Nat} (h:R w s A c l s' A' c' l' q m) (hm:m≤10000) :
  Calls Tryz.prog 124 #[.agg #[.bool s,.slice A l c,.bool s',.slice A' l' c']] w (TellsP w q (m+2) (m+3)):=by
 obtain⟨n,d,hn,hd,hq,hl,hl'⟩:=h
 by_cases h0:l'=0
 ·rw[if_pos h0] at hq
  subst hq
  exact parts_r_one hn hd hl hl' hm (by simp;omega)
 ·rw[if_neg h0] at hq
  subst hq
  rcases Int.lt_trichotomy d 0 with h1 | h1 | h1
  ·exact parts_r_neg hn hd hl hl' hm (by simp;omega) h1
  ·exact parts_r_zero hn hd hl hl' hm (by simp;omega) (Lib.hid h1)
  ·exact parts_r_pos hn hd hl hl' hm (by simp;omega) h1
set_option maxRecDepth 100000 in
set_option maxHeartbeats 4000000 in
theorem lowest_r_one {n d z:Int} {q:Rat} (h:I w s A c l n) (h':I w s' A' c' l' d) (hl:l≤2000) (hl':l'≤2000) (hg0:(Int.gcd n d:Int)≠0) (HG:Hid (nl (Int.gcd n d:Int).natAbs≤l')) (HN:Hid (q.num=n / (Int.gcd n d:Int))) (HD:Hid (dn q=0)) (HZ:Hid (cmpI (d / (Int.gcd n d:Int)) 1=z)) (hz:(z==0)=true) :
  Calls Tryz.prog 140 #[.agg #[.bool s,.slice A l c],.agg #[.bool s',.slice A' l' c']] w (TellsR w q):=by
 obtain⟨W,hW,x0,x1,x2,hB⟩:=boxes3 w #[.bool s,.slice A l c] 55 #[.bool s',.slice A' l' c'] 55 #[.bool false,.slice none 0 0,.bool false,.slice none 0 0] 57
 replace h':=h'.below hB
 replace h:=h.below hB
 have HX0:=Lib.hid x0
 have HX1:=Lib.hid x1
 have HX2:=Lib.hid x2
 clear x0 x1 x2
 have Bz:=Below.refl W.heap.size W
 have p0_0:=(HX0.out.below Bz).cell 0 (.bool s) rfl
 have p0_1:=(HX0.out.below Bz).cell 1 (.slice A l c) rfl
 have p1_0:=(HX1.out.below Bz).cell 0 (.bool s') rfl
 have p1_1:=(HX1.out.below Bz).cell 1 (.slice A' l' c') rfl
 go_enter Tryz.func140,Tryz.ntmps140
 go_wp2_with fail
 rw[←hW]
 clear hW
 go_wp2_with fail
 with_reducible refine(gcdq (I.below h (by go_grown)) (I.below h' (by go_grown)) (by omega) (by omega)).mono ?_
 rintro e w1 ⟨s1,A1,c1,l1,rfl,h1,m1,b1⟩
 replace b1:=zAa (a:=W) (by go_grown) b1
 replace h':=h'.below b1
 replace h:=h.below b1
 replace Bz:=zAa Bz b1
 clear b1
 have lg:=h1.len
 replace lg:l1≤l':=by rw[lg];have:=HG.out;omega
 clear p0_0 p0_1 p1_0 p1_1
 go_upto_region 2 with(fail)
 obtain⟨V1,hW,x3,hN⟩:=zAi w1 #[.bool s1,.slice A1 l1 c1] 55
 rw[←hW]
 clear hW
 obtain⟨v3,hb3⟩:∃b,b=w1.heap.size:=⟨_,rfl⟩
 rw[←hb3] at x3 ⊢
 have o0_3:w.heap.size<v3:=by have:=(HX0.out.below Bz).lt;omega
 have o1_3:w.heap.size+1<v3:=by have:=(HX1.out.below Bz).lt;omega
 have o2_3:w.heap.size+1+1<v3:=by have:=(HX2.out.below Bz).lt;omega
 have ow_3:w.heap.size≤v3:=by have:=hB.size;have:=Bz.size;omega
 replace h':=h'.below hN
 replace h1:=h1.below hN
 replace h:=h.below hN
 replace hB:=zAa (zAa hB Bz) hN
 replace HX0:=Lib.hid ((HX0.out.below Bz).below hN)
 replace HX1:=Lib.hid ((HX1.out.below Bz).below hN)
 replace HX2:=Lib.hid ((HX2.out.below Bz).below hN)
 have HX3:=Lib.hid x3
 clear x3 hN Bz hb3
 have Bz:=Below.refl V1.heap.size V1
 have p0_0:=(HX0.out.below Bz).cell 0 (.bool s) rfl
 have p0_1:=(HX0.out.below Bz).cell 1 (.slice A l c) rfl
 have p3_0:=(HX3.out.below Bz).cell 0 (.bool s1) rfl
 have p3_1:=(HX3.out.below Bz).cell 1 (.slice A1 l1 c1) rfl
 go_wp2_with fail
 with_reducible refine(divmodq (I.below h (by go_grown)) (I.below h1.i (by go_grown)) (by omega) (by omega) hg0).mono ?_
 rintro e w2 ⟨s2,A2,c2,l2,s2r,A2r,c2r,l2r,rfl,h2,h2r,m2,m2r,b2⟩
 replace b2:=zAa (a:=V1) (by go_grown) b2
 replace h':=h'.below b2
 replace h1:=h1.below b2
 replace Bz:=zAa Bz b2
 clear h2r
 clear b2
 clear p0_0 p0_1 p3_0 p3_1
 have p0_0:=(HX0.out.below Bz).cell 0 (.bool s) rfl
 have p0_1:=(HX0.out.below Bz).cell 1 (.slice A l c) rfl
 have f0_0:=(HX0.out.below Bz).frozen 0
 have f0_1:=(HX0.out.below Bz).frozen 1
 have y0:=(HX0.out.below Bz).lt
 go_upto_region 3 with(fail)
 obtain⟨V2,hW,x,kk,far,bel⟩:=zAq (.bool s2) (.slice A2 l2 c2) (HX0.out.below Bz) (fun _ e=>by cases e) (fun _ e=>by cases e)
 rw[←hW]
 clear hW
 replace h':=h'.k kk
 replace h1:=h1.k kk
 replace h2:=h2.k kk
 replace hB:=bel w.heap.size w (by omega) (zAa hB Bz)
 replace HX1:=Lib.hid (far _ _ _ (by omega) (HX1.out.below Bz))
 replace HX2:=Lib.hid (far _ _ _ (by omega) (HX2.out.below Bz))
 replace HX3:=Lib.hid (far _ _ _ (by omega) (HX3.out.below Bz))
 replace HX0:=Lib.hid x
 clear x kk far bel Bz
 have Bz:=Below.refl V2.heap.size V2
 clear p0_0 p0_1 f0_0 f0_1 y0
 have p1_0:=(HX1.out.below Bz).cell 0 (.bool s') rfl
 have p1_1:=(HX1.out.below Bz).cell 1 (.slice A' l' c') rfl
 have p3_0:=(HX3.out.below Bz).cell 0 (.bool s1) rfl
 have p3_1:=(HX3.out.below Bz).cell 1 (.slice A1 l1 c1) rfl
 go_wp2_with fail
 with_reducible refine(divmodq (I.below h' (by go_grown)) (I.below h1.i (by go_grown)) (by omega) (by omega) hg0).mono ?_
 rintro e w3 ⟨s3,A3,c3,l3,s3r,A3r,c3r,l3r,rfl,h3,h3r,m3,m3r,b3⟩
 replace b3:=zAa (a:=V2) (by go_grown) b3
 replace h2:=h2.below b3
 replace Bz:=zAa Bz b3
 clear h3r
 clear b3
 clear p1_0 p1_1 p3_0 p3_1
 have p1_0:=(HX1.out.below Bz).cell 0 (.bool s') rfl
 have p1_1:=(HX1.out.below Bz).cell 1 (.slice A' l' c') rfl
 have f1_0:=(HX1.out.below Bz).frozen 0
 have f1_1:=(HX1.out.below Bz).frozen 1
 have y1:=(HX1.out.below Bz).lt
 go_upto_region 4 with(fail)
 obtain⟨V3,hW,x,kk,far,bel⟩:=zAq (.bool s3) (.slice A3 l3 c3) (HX1.out.below Bz) (fun _ e=>by cases e) (fun _ e=>by cases e)
 rw[←hW]
 clear hW
 replace h2:=h2.k kk
 replace h3:=h3.k kk
 replace hB:=bel w.heap.size w (by omega) (zAa hB Bz)
 replace HX0:=Lib.hid (far _ _ _ (by omega) (HX0.out.below Bz))
 replace HX2:=Lib.hid (far _ _ _ (by omega) (HX2.out.below Bz))
 replace HX3:=Lib.hid (far _ _ _ (by omega) (HX3.out.below Bz))
 replace HX1:=Lib.hid x
 clear x kk far bel Bz
 have Bz:=Below.refl V3.heap.size V3
 clear p1_0 p1_1 f1_0 f1_1 y1
 have p1_0:=(HX1.out.below Bz).cell 0 (.bool s3) rfl
 have p1_1:=(HX1.out.below Bz).cell 1 (.slice A3 l3 c3) rfl
 go_wp2_with fail
 (try simp only[List.append_eq,List.cons_append,List.nil_append])
 refine zAc (.take 0 (.only 1 (.only 2 (.take 3 .done)))) [] (fun w'=>w'.cell? ⟨w.heap.size+1,0,none⟩=some (.bool s3)∧w'.cell? ⟨w.heap.size+1,1,none⟩=some (.slice A3 l3 c3)) (by kernel_rfl) (by kernel_rfl) ⟨p1_0,p1_1⟩ ?_
 refine zAb (o:=⟨some _,_,_,_,_,_⟩) rfl rfl (fun w' ⟨p1_0,p1_1⟩=>by go_simp<;>with_reducible rfl) ?_
 try simp only[Act.put,List.setIfInBounds_toArray,List.set_cons_zero,List.set_cons_succ]
 refine zAd (o:=⟨some 22,_,_,_,_,_⟩) rfl rfl (fun K hK=>?_)
 go_simp
 with_reducible refine(ofq 1 (Lib.hid (by omega))).mono ?_
 rintro e w4 ⟨s4,A4,c4,l4,rfl,h4,m4,b4⟩
 replace b4:=zAa (a:=V3) (by go_grown) b4
 replace h2:=h2.below b4
 replace h3:=h3.below b4
 replace Bz:=zAa Bz b4
 clear b4
 clear p1_0 p1_1
 have p1_0:=(HX1.out.below Bz).cell 0 (.bool s3) rfl
 have p1_1:=(HX1.out.below Bz).cell 1 (.slice A3 l3 c3) rfl
 refine hK.out _ _ ⟨p1_0,p1_1⟩ (fun _=>?_)
 try simp only[Act.put,List.setIfInBounds_toArray,List.set_cons_zero,List.set_cons_succ]
 clear hK K
 refine zAd (o:=⟨some 23,_,_,_,_,_⟩) rfl rfl (fun K hK=>?_)
 go_simp
 with_reducible refine(cmpq (I.below h3.i (by go_grown)) (I.below h4.i (by go_grown)) (by omega) (by omega) z HZ.out).mono ?_
 rintro e w5 ⟨rfl,b5⟩
 replace b5:=zAa (a:=w4) (by go_grown) b5
 replace h2:=h2.below b5
 replace Bz:=zAa Bz b5
 clear b5
 clear p1_0 p1_1
 have p1_0:=(HX1.out.below Bz).cell 0 (.bool s3) rfl
 have p1_1:=(HX1.out.below Bz).cell 1 (.slice A3 l3 c3) rfl
 have f1_0:=(HX1.out.below Bz).frozen 0
 have f1_1:=(HX1.out.below Bz).frozen 1
 have y1:=(HX1.out.below Bz).lt
 refine hK.out _ _ ⟨p1_0,p1_1⟩ (fun _=>?_)
 try simp only[Act.put,List.setIfInBounds_toArray,List.set_cons_zero,List.set_cons_succ]
 clear hK K
 refine zAb (o:=⟨some _,_,_,_,_,_⟩) rfl rfl (fun w' ⟨p1_0,p1_1⟩=>by go_simp<;>with_reducible rfl) ?_
 try simp only[Act.put,List.setIfInBounds_toArray,List.set_cons_zero,List.set_cons_succ]
 refine zAe ?_
 go_upto_region 6 with(fail)
 obtain⟨V4,hW,x,kk,far,bel⟩:=zAq (.bool false) (.slice none 0 0) (HX1.out.below Bz) (fun _ e=>by cases e) (fun _ e=>by cases e)
 rw[←hW]
 clear hW
 replace h2:=h2.k kk
 replace hB:=bel w.heap.size w (by omega) (zAa hB Bz)
 replace HX0:=Lib.hid (far _ _ _ (by omega) (HX0.out.below Bz))
 replace HX2:=Lib.hid (far _ _ _ (by omega) (HX2.out.below Bz))
 replace HX3:=Lib.hid (far _ _ _ (by omega) (HX3.out.below Bz))
 replace HX1:=Lib.hid x
 clear x kk far bel Bz
 have Bz:=Below.refl V4.heap.size V4
 clear p1_0 p1_1 f1_0 f1_1 y1
 have p0_0:=(HX0.out.below Bz).cell 0 (.bool s2) rfl
 have p0_1:=(HX0.out.below Bz).cell 1 (.slice A2 l2 c2) rfl
 have p1_0:=(HX1.out.below Bz).cell 0 (.bool false) rfl
 have p1_1:=(HX1.out.below Bz).cell 1 (.slice none 0 0) rfl
 have p2_0:=(HX2.out.below Bz).cell 0 (.bool false) rfl
 have p2_1:=(HX2.out.below Bz).cell 1 (.slice none 0 0) rfl
 have p2_2:=(HX2.out.below Bz).cell 2 (.bool false) rfl
 have p2_3:=(HX2.out.below Bz).cell 3 (.slice none 0 0) rfl
 have f2_0:=(HX2.out.below Bz).frozen 0
 have f2_1:=(HX2.out.below Bz).frozen 1
 have f2_2:=(HX2.out.below Bz).frozen 2
 have f2_3:=(HX2.out.below Bz).frozen 3
 have y2:=(HX2.out.below Bz).lt
 go_wp2_with fail
 have q2_0:V4.cell? ⟨w.heap.size+2,0,none⟩=some (.bool false):=p2_0
 have q2_1:V4.cell? ⟨w.heap.size+2,1,none⟩=some (.slice none 0 0):=p2_1
 have q2_2:V4.cell? ⟨w.heap.size+2,2,none⟩=some (.bool false):=p2_2
 have q2_3:V4.cell? ⟨w.heap.size+2,3,none⟩=some (.slice none 0 0):=p2_3
 (try simp only[Exit.inBlock,Exit.then])
 refine bodyPost_ret (by simp[results,Tryz.results140,go_sem,q2_0,q2_1,q2_2,q2_3];try rfl) rfl ?_
 obtain⟨V5,hW,x,kk,far,bel⟩:=store4 (.bool s2) (.slice A2 l2 c2) (.bool false) (.slice none 0 0) (HX2.out.below Bz) (fun _ e=>by cases e) (fun _ e=>by cases e) (fun _ e=>by cases e) (fun _ e=>by cases e)
 rw[←hW]
 clear hW
 replace h2:=h2.k kk
 replace hB:=bel w.heap.size w (by omega) (zAa hB Bz)
 replace HX0:=Lib.hid (far _ _ _ (by omega) (HX0.out.below Bz))
 replace HX1:=Lib.hid (far _ _ _ (by omega) (HX1.out.below Bz))
 replace HX3:=Lib.hid (far _ _ _ (by omega) (HX3.out.below Bz))
 replace HX2:=Lib.hid x
 clear x kk far bel Bz
 have Bz:=Below.refl V5.heap.size V5
 have hF:=zAa (c:=V5) hB Bz
 exact⟨s2,A2,c2,l2,false,none,0,0,rfl,⟨by rw[HN.out];exact(J.below h2 (by go_grown)),by rw[HD.out];exact J.zero _⟩,zAa hF (by go_grown)⟩
set_option maxRecDepth 100000 in
set_option maxHeartbeats 4000000 in
theorem lowest_r_more {n d z:Int} {q:Rat} (h:I w s A c l n) (h':I w s' A' c' l' d) (hl:l≤2000) (hl':l'≤2000) (hg0:(Int.gcd n d:Int)≠0) (HG:Hid (nl (Int.gcd n d:Int).natAbs≤l')) (HN:Hid (q.num=n / (Int.gcd n d:Int))) (HD:Hid (dn q=d / (Int.gcd n d:Int))) (HZ:Hid (cmpI (d / (Int.gcd n d:Int)) 1=z)) (hz:(z==0)=false) :
  Calls Tryz.prog 140 #[.agg #[.bool s,.slice A l c],.agg #[.bool s',.slice A' l' c']] w (TellsR w q):=by
 obtain⟨W,hW,x0,x1,x2,hB⟩:=boxes3 w #[.bool s,.slice A l c] 55 #[.bool s',.slice A' l' c'] 55 #[.bool false,.slice none 0 0,.bool false,.slice none 0 0] 57
 replace h':=h'.below hB
 replace h:=h.below hB
 have HX0:=Lib.hid x0
 have HX1:=Lib.hid x1
 have HX2:=Lib.hid x2
 clear x0 x1 x2
 have Bz:=Below.refl W.heap.size W
 have p0_0:=(HX0.out.below Bz).cell 0 (.bool s) rfl
 have p0_1:=(HX0.out.below Bz).cell 1 (.slice A l c) rfl
 have p1_0:=(HX1.out.below Bz).cell 0 (.bool s') rfl
 have p1_1:=(HX1.out.below Bz).cell 1 (.slice A' l' c') rfl
 go_enter Tryz.func140,Tryz.ntmps140
 go_wp2_with fail
 rw[←hW]
 clear hW
 go_wp2_with fail
 with_reducible refine(gcdq (I.below h (by go_grown)) (I.below h' (by go_grown)) (by omega) (by omega)).mono ?_
 rintro e w1 ⟨s1,A1,c1,l1,rfl,h1,m1,b1⟩
 replace b1:=zAa (a:=W) (by go_grown) b1
 replace h':=h'.below b1
 replace h:=h.below b1
 replace Bz:=zAa Bz b1
 clear b1
 have lg:=h1.len
 replace lg:l1≤l':=by rw[lg];have:=HG.out;omega
 clear p0_0 p0_1 p1_0 p1_1
 go_upto_region 2 with(fail)
 obtain⟨V1,hW,x3,hN⟩:=zAi w1 #[.bool s1,.slice A1 l1 c1] 55
 rw[←hW]
 clear hW
 obtain⟨v3,hb3⟩:∃b,b=w1.heap.size:=⟨_,rfl⟩
 rw[←hb3] at x3 ⊢
 have o0_3:w.heap.size<v3:=by have:=(HX0.out.below Bz).lt;omega
 have o1_3:w.heap.size+1<v3:=by have:=(HX1.out.below Bz).lt;omega
 have o2_3:w.heap.size+1+1<v3:=by have:=(HX2.out.below Bz).lt;omega
 have ow_3:w.heap.size≤v3:=by have:=hB.size;have:=Bz.size;omega
 replace h':=h'.below hN
 replace h1:=h1.below hN
 replace h:=h.below hN
 replace hB:=zAa (zAa hB Bz) hN
 replace HX0:=Lib.hid ((HX0.out.below Bz).below hN)
 replace HX1:=Lib.hid ((HX1.out.below Bz).below hN)
 replace HX2:=Lib.hid ((HX2.out.below Bz).below hN)
 have HX3:=Lib.hid x3
 clear x3 hN Bz hb3
 have Bz:=Below.refl V1.heap.size V1
 have p0_0:=(HX0.out.below Bz).cell 0 (.bool s) rfl
 have p0_1:=(HX0.out.below Bz).cell 1 (.slice A l c) rfl
 have p3_0:=(HX3.out.below Bz).cell 0 (.bool s1) rfl
 have p3_1:=(HX3.out.below Bz).cell 1 (.slice A1 l1 c1) rfl
 go_wp2_with fail
 with_reducible refine(divmodq (I.below h (by go_grown)) (I.below h1.i (by go_grown)) (by omega) (by omega) hg0).mono ?_
 rintro e w2 ⟨s2,A2,c2,l2,s2r,A2r,c2r,l2r,rfl,h2,h2r,m2,m2r,b2⟩
 replace b2:=zAa (a:=V1) (by go_grown) b2
 replace h':=h'.below b2
 replace h1:=h1.below b2
 replace Bz:=zAa Bz b2
 clear h2r
 clear b2
 clear p0_0 p0_1 p3_0 p3_1
 have p0_0:=(HX0.out.below Bz).cell 0 (.bool s) rfl
 have p0_1:=(HX0.out.below Bz).cell 1 (.slice A l c) rfl
 have f0_0:=(HX0.out.below Bz).frozen 0
 have f0_1:=(HX0.out.below Bz).frozen 1
 have y0:=(HX0.out.below Bz).lt
 go_upto_region 3 with(fail)
 obtain⟨V2,hW,x,kk,far,bel⟩:=zAq (.bool s2) (.slice A2 l2 c2) (HX0.out.below Bz) (fun _ e=>by cases e) (fun _ e=>by cases e)
 rw[←hW]
 clear hW
 replace h':=h'.k kk
 replace h1:=h1.k kk
 replace h2:=h2.k kk
 replace hB:=bel w.heap.size w (by omega) (zAa hB Bz)
 replace HX1:=Lib.hid (far _ _ _ (by omega) (HX1.out.below Bz))
 replace HX2:=Lib.hid (far _ _ _ (by omega) (HX2.out.below Bz))
 replace HX3:=Lib.hid (far _ _ _ (by omega) (HX3.out.below Bz))
 replace HX0:=Lib.hid x
 clear x kk far bel Bz
 have Bz:=Below.refl V2.heap.size V2
 clear p0_0 p0_1 f0_0 f0_1 y0
 have p1_0:=(HX1.out.below Bz).cell 0 (.bool s') rfl
 have p1_1:=(HX1.out.below Bz).cell 1 (.slice A' l' c') rfl
 have p3_0:=(HX3.out.below Bz).cell 0 (.bool s1) rfl
 have p3_1:=(HX3.out.below Bz).cell 1 (.slice A1 l1 c1) rfl
 go_wp2_with fail
 with_reducible refine(divmodq (I.below h' (by go_grown)) (I.below h1.i (by go_grown)) (by omega) (by omega) hg0).mono ?_
 rintro e w3 ⟨s3,A3,c3,l3,s3r,A3r,c3r,l3r,rfl,h3,h3r,m3,m3r,b3⟩
 replace b3:=zAa (a:=V2) (by go_grown) b3
 replace h2:=h2.below b3
 replace Bz:=zAa Bz b3
 clear h3r
 clear b3
 clear p1_0 p1_1 p3_0 p3_1
 have p1_0:=(HX1.out.below Bz).cell 0 (.bool s') rfl
 have p1_1:=(HX1.out.below Bz).cell 1 (.slice A' l' c') rfl
 have f1_0:=(HX1.out.below Bz).frozen 0
 have f1_1:=(HX1.out.below Bz).frozen 1
 have y1:=(HX1.out.below Bz).lt
 go_upto_region 4 with(fail)
 obtain⟨V3,hW,x,kk,far,bel⟩:=zAq (.bool s3) (.slice A3 l3 c3) (HX1.out.below Bz) (fun _ e=>by cases e) (fun _ e=>by cases e)
 rw[←hW]
 clear hW
 replace h2:=h2.k kk
 replace h3:=h3.k kk
 replace hB:=bel w.heap.size w (by omega) (zAa hB Bz)
 replace HX0:=Lib.hid (far _ _ _ (by omega) (HX0.out.below Bz))
 replace HX2:=Lib.hid (far _ _ _ (by omega) (HX2.out.below Bz))
 replace HX3:=Lib.hid (far _ _ _ (by omega) (HX3.out.below Bz))
 replace HX1:=Lib.hid x
 clear x kk far bel Bz
 have Bz:=Below.refl V3.heap.size V3
 clear p1_0 p1_1 f1_0 f1_1 y1
 have p1_0:=(HX1.out.below Bz).cell 0 (.bool s3) rfl
 have p1_1:=(HX1.out.below Bz).cell 1 (.slice A3 l3 c3) rfl
 go_wp2_with fail
 (try simp only[List.append_eq,List.cons_append,List.nil_append])
 refine zAc (.take 0 (.only 1 (.only 2 (.take 3 .done)))) [] (fun w'=>w'.cell? ⟨w.heap.size+1,0,none⟩=some (.bool s3)∧w'.cell? ⟨w.heap.size+1,1,none⟩=some (.slice A3 l3 c3)) (by kernel_rfl) (by kernel_rfl) ⟨p1_0,p1_1⟩ ?_
 refine zAb (o:=⟨some _,_,_,_,_,_⟩) rfl rfl (fun w' ⟨p1_0,p1_1⟩=>by go_simp<;>with_reducible rfl) ?_
 try simp only[Act.put,List.setIfInBounds_toArray,List.set_cons_zero,List.set_cons_succ]
 refine zAd (o:=⟨some 22,_,_,_,_,_⟩) rfl rfl (fun K hK=>?_)
 go_simp
 with_reducible refine(ofq 1 (Lib.hid (by omega))).mono ?_
 rintro e w4 ⟨s4,A4,c4,l4,rfl,h4,m4,b4⟩
 replace b4:=zAa (a:=V3) (by go_grown) b4
 replace h2:=h2.below b4
 replace h3:=h3.below b4
 replace Bz:=zAa Bz b4
 clear b4
 clear p1_0 p1_1
 have p1_0:=(HX1.out.below Bz).cell 0 (.bool s3) rfl
 have p1_1:=(HX1.out.below Bz).cell 1 (.slice A3 l3 c3) rfl
 refine hK.out _ _ ⟨p1_0,p1_1⟩ (fun _=>?_)
 try simp only[Act.put,List.setIfInBounds_toArray,List.set_cons_zero,List.set_cons_succ]
 clear hK K
 refine zAd (o:=⟨some 23,_,_,_,_,_⟩) rfl rfl (fun K hK=>?_)
 go_simp
 with_reducible refine(cmpq (I.below h3.i (by go_grown)) (I.below h4.i (by go_grown)) (by omega) (by omega) z HZ.out).mono ?_
 rintro e w5 ⟨rfl,b5⟩
 replace b5:=zAa (a:=w4) (by go_grown) b5
 replace h2:=h2.below b5
 replace h3:=h3.below b5
 replace Bz:=zAa Bz b5
 clear b5
 clear p1_0 p1_1
 have p0_0:=(HX0.out.below Bz).cell 0 (.bool s2) rfl
 have p0_1:=(HX0.out.below Bz).cell 1 (.slice A2 l2 c2) rfl
 have p1_0:=(HX1.out.below Bz).cell 0 (.bool s3) rfl
 have p1_1:=(HX1.out.below Bz).cell 1 (.slice A3 l3 c3) rfl
 have p2_0:=(HX2.out.below Bz).cell 0 (.bool false) rfl
 have p2_1:=(HX2.out.below Bz).cell 1 (.slice none 0 0) rfl
 have p2_2:=(HX2.out.below Bz).cell 2 (.bool false) rfl
 have p2_3:=(HX2.out.below Bz).cell 3 (.slice none 0 0) rfl
 have f2_0:=(HX2.out.below Bz).frozen 0
 have f2_1:=(HX2.out.below Bz).frozen 1
 have f2_2:=(HX2.out.below Bz).frozen 2
 have f2_3:=(HX2.out.below Bz).frozen 3
 have y2:=(HX2.out.below Bz).lt
 refine hK.out _ _ ⟨p1_0,p1_1⟩ (fun _=>?_)
 try simp only[Act.put,List.setIfInBounds_toArray,List.set_cons_zero,List.set_cons_succ]
 clear hK K
 refine zAb (o:=⟨some _,_,_,_,_,_⟩) rfl rfl (fun w' ⟨p1_0,p1_1⟩=>by go_simp<;>with_reducible rfl) ?_
 try simp only[Act.put,List.setIfInBounds_toArray,List.set_cons_zero,List.set_cons_succ]
 refine zAe ?_
 go_wp2_with fail
 have q2_0:w5.cell? ⟨w.heap.size+2,0,none⟩=some (.bool false):=p2_0
 have q2_1:w5.cell? ⟨w.heap.size+2,1,none⟩=some (.slice none 0 0):=p2_1
 have q2_2:w5.cell? ⟨w.heap.size+2,2,none⟩=some (.bool false):=p2_2
 have q2_3:w5.cell? ⟨w.heap.size+2,3,none⟩=some (.slice none 0 0):=p2_3
 (try simp only[Exit.inBlock,Exit.then])
 refine bodyPost_ret (by simp[results,Tryz.results140,go_sem,q2_0,q2_1,q2_2,q2_3];try rfl) rfl ?_
 obtain⟨V4,hW,x,kk,far,bel⟩:=store4 (.bool s2) (.slice A2 l2 c2) (.bool s3) (.slice A3 l3 c3) (HX2.out.below Bz) (fun _ e=>by cases e) (fun _ e=>by cases e) (fun _ e=>by cases e) (fun _ e=>by cases e)
 rw[←hW]
 clear hW
 replace h2:=h2.k kk
 replace h3:=h3.k kk
 replace hB:=bel w.heap.size w (by omega) (zAa hB Bz)
 replace HX0:=Lib.hid (far _ _ _ (by omega) (HX0.out.below Bz))
 replace HX1:=Lib.hid (far _ _ _ (by omega) (HX1.out.below Bz))
 replace HX3:=Lib.hid (far _ _ _ (by omega) (HX3.out.below Bz))
 replace HX2:=Lib.hid x
 clear x kk far bel Bz
 have Bz:=Below.refl V4.heap.size V4
 have hF:=zAa (c:=V4) hB Bz
 exact⟨s2,A2,c2,l2,s3,A3,c3,l3,rfl,⟨by rw[HN.out];exact(J.below h2 (by go_grown)),by rw[HD.out];exact(J.below h3 (by go_grown))⟩,zAa hF (by go_grown)⟩
theorem cmpI_zero {a b:Int}:cmpI a b=0↔a=b:=by unfold cmpI;split<;>(try split)<;>omega
theorem lowest_r {n d:Int} (h:I w s A c l n) (h':I w s' A' c' l' d) (hl:l≤2000) (hl':l'≤2000) (hd:0<d) :
  Calls Tryz.prog 140 #[.agg #[.bool s,.slice A l c],.agg #[.bool s',.slice A' l' c']] w (TellsR w (qof n d)):=by
 have hg0:(Int.gcd n d:Int)≠0:=by
  intro e
  have:=Int.gcd_eq_zero_iff.1 (by omega:Int.gcd n d=0)
  omega
 have hn:=qof_num (n:=n) hd
 have hdn:=dn_qof (n:=n) hd rfl
 have hG:nl (Int.gcd n d:Int).natAbs≤l':=by
  refine Nat.le_trans (nl_mono (b:=d.natAbs) ?_) h'.nl
  rw[Int.natAbs_natCast]
  exact Nat.le_of_dvd (by omega) (Int.ofNat_dvd.1 (Int.dvd_natAbs.2 (Int.gcd_dvd_right ..)))
 by_cases hr:d / (Int.gcd n d:Int)=1
 ·exact lowest_r_one h h' hl hl' hg0 (Lib.hid hG) (Lib.hid hn) (Lib.hid (by rw[hdn,if_pos hr])) (Lib.hid rfl) (by rw[cmpI_zero.2 hr];rfl)
 ·exact lowest_r_more h h' hl hl' hg0 (Lib.hid hG) (Lib.hid hn) (Lib.hid (by rw[hdn,if_neg hr])) (Lib.hid rfl) (by have:=mt cmpI_zero.1 hr;simpa using this)
set_option maxRecDepth 100000 in
set_option maxHeartbeats 4000000 in
theorem norm_r4 {q:Rat} {m:Nat} (h:R w s A c l s' A' c' l' q m) (hm:m≤1900) :
  Calls Tryz.prog 99 #[.agg #[.bool s,.slice A l c,.bool s',.slice A' l' c']] w (TellsR w q):=by
 obtain⟨W,hW,x0,x1,hB⟩:=boxes2 w #[.bool s,.slice A l c,.bool s',.slice A' l' c'] 57 #[.bool false,.slice none 0 0,.bool false,.slice none 0 0] 57
 replace h:=h.below hB
 have HX0:=Lib.hid x0
 have HX1:=Lib.hid x1
 clear x0 x1
 have Bz:=Below.refl W.heap.size W
 have p0_0:=(HX0.out.below Bz).cell 0 (.bool s) rfl
 have p0_1:=(HX0.out.below Bz).cell 1 (.slice A l c) rfl
 have p0_2:=(HX0.out.below Bz).cell 2 (.bool s') rfl
 have p0_3:=(HX0.out.below Bz).cell 3 (.slice A' l' c') rfl
 go_enter Tryz.func99,Tryz.ntmps99
 go_wp2_with fail
 rw[←hW]
 clear hW
 go_wp2_with fail
 with_reducible refine(parts_r (R.below h (by go_grown)) (by omega)).mono ?_
 rintro e w1 ⟨n1,d1,s1,A1,c1,l1,s1r,A1r,c1r,l1r,rfl,h1,h1r,e1,q1,m1,m1r,b1⟩
 replace b1:=zAa (a:=W) (by go_grown) b1
 replace Bz:=zAa Bz b1
 clear b1
 clear p0_0 p0_1 p0_2 p0_3
 go_upto_region 2 with(fail)
 obtain⟨V1,hW,x2,x3,hN⟩:=boxes2 w1 #[.bool s1,.slice A1 l1 c1] 55 #[.bool s1r,.slice A1r l1r c1r] 55
 rw[←hW]
 clear hW
 obtain⟨v3,hb3⟩:∃b,b=w1.heap.size+1:=⟨_,rfl⟩
 rw[←hb3] at x3 ⊢
 obtain⟨v2,hb2⟩:∃b,b=w1.heap.size:=⟨_,rfl⟩
 rw[←hb2] at x2 ⊢
 have o0_2:w.heap.size<v2:=by have:=(HX0.out.below Bz).lt;omega
 have o1_2:w.heap.size+1<v2:=by have:=(HX1.out.below Bz).lt;omega
 have ow_2:w.heap.size≤v2:=by have:=hB.size;have:=Bz.size;omega
 have o0_3:w.heap.size<v3:=by have:=(HX0.out.below Bz).lt;omega
 have o1_3:w.heap.size+1<v3:=by have:=(HX1.out.below Bz).lt;omega
 have o2_3:v2<v3:=by omega
 have ow_3:w.heap.size≤v3:=by have:=hB.size;have:=Bz.size;omega
 replace h1:=h1.below hN
 replace h1r:=h1r.below hN
 replace hB:=zAa (zAa hB Bz) hN
 replace HX0:=Lib.hid ((HX0.out.below Bz).below hN)
 replace HX1:=Lib.hid ((HX1.out.below Bz).below hN)
 have HX2:=Lib.hid x2
 have HX3:=Lib.hid x3
 clear x2 x3 hN Bz hb2 hb3
 have Bz:=Below.refl V1.heap.size V1
 have p2_0:=(HX2.out.below Bz).cell 0 (.bool s1) rfl
 have p2_1:=(HX2.out.below Bz).cell 1 (.slice A1 l1 c1) rfl
 have p3_0:=(HX3.out.below Bz).cell 0 (.bool s1r) rfl
 have p3_1:=(HX3.out.below Bz).cell 1 (.slice A1r l1r c1r) rfl
 go_wp2_with fail
 with_reducible refine(lowest_r (I.below h1 (by go_grown)) (I.below h1r (by go_grown)) (by omega) (by omega) e1).mono ?_
 rintro e w2 ⟨s2,A2,c2,l2,s2r,A2r,c2r,l2r,rfl,h2,b2⟩
 replace b2:=zAa (a:=V1) (by go_grown) b2
 replace Bz:=zAa Bz b2
 clear b2
 have m2:=h2.len
 clear p2_0 p2_1 p3_0 p3_1
 have p1_0:=(HX1.out.below Bz).cell 0 (.bool false) rfl
 have p1_1:=(HX1.out.below Bz).cell 1 (.slice none 0 0) rfl
 have p1_2:=(HX1.out.below Bz).cell 2 (.bool false) rfl
 have p1_3:=(HX1.out.below Bz).cell 3 (.slice none 0 0) rfl
 have f1_0:=(HX1.out.below Bz).frozen 0
 have f1_1:=(HX1.out.below Bz).frozen 1
 have f1_2:=(HX1.out.below Bz).frozen 2
 have f1_3:=(HX1.out.below Bz).frozen 3
 have y1:=(HX1.out.below Bz).lt
 go_wp2_with fail
 (try simp only[Exit.inBlock,Exit.then])
 refine bodyPost_ret (by simp[results,Tryz.results99,go_sem,p1_0,p1_1,p1_2,p1_3];try rfl) rfl ?_
 obtain⟨V2,hW,x,kk,far,bel⟩:=store4 (.bool s2) (.slice A2 l2 c2) (.bool s2r) (.slice A2r l2r c2r) (HX1.out.below Bz) (fun _ e=>by cases e) (fun _ e=>by cases e) (fun _ e=>by cases e) (fun _ e=>by cases e)
 rw[←hW]
 clear hW
 replace h2:=h2.k kk
 replace hB:=bel w.heap.size w (by omega) (zAa hB Bz)
 replace HX0:=Lib.hid (far _ _ _ (by omega) (HX0.out.below Bz))
 replace HX2:=Lib.hid (far _ _ _ (by omega) (HX2.out.below Bz))
 replace HX3:=Lib.hid (far _ _ _ (by omega) (HX3.out.below Bz))
 replace HX1:=Lib.hid x
 clear x kk far bel Bz
 have Bz:=Below.refl V2.heap.size V2
 have hF:=zAa (c:=V2) hB Bz
 exact⟨s2,A2,c2,l2,s2r,A2r,c2r,l2r,rfl,by rw[←q1];exact(RN.below h2 (by go_grown)),zAa hF (by go_grown)⟩
set_option maxRecDepth 100000 in
set_option maxHeartbeats 4000000 in
theorem sign_r4 {q:Rat} {m:Nat} (h:R w s A c l s' A' c' l' q m) (hm:m≤1900) (z:Int) (hz:Hid (q.num.sign=z)) :
  Calls Tryz.prog 130 #[.agg #[.bool s,.slice A l c,.bool s',.slice A' l' c']] w fun e w'=>e=.returned (.int .i64 z)∧Below w.heap.size w w':=by
 obtain⟨W,hW,x0,hB⟩:=zAi w #[.bool s,.slice A l c,.bool s',.slice A' l' c'] 57
 replace h:=h.below hB
 have HX0:=Lib.hid x0
 clear x0
 have Bz:=Below.refl W.heap.size W
 have p0_0:=(HX0.out.below Bz).cell 0 (.bool s) rfl
 have p0_1:=(HX0.out.below Bz).cell 1 (.slice A l c) rfl
 have p0_2:=(HX0.out.below Bz).cell 2 (.bool s') rfl
 have p0_3:=(HX0.out.below Bz).cell 3 (.slice A' l' c') rfl
 go_enter Tryz.func130,Tryz.ntmps130
 go_wp2_with fail
 rw[←hW]
 clear hW
 go_wp2_with fail
 with_reducible refine(parts_r (R.below h (by go_grown)) (by omega)).mono ?_
 rintro e w1 ⟨n1,d1,s1,A1,c1,l1,s1r,A1r,c1r,l1r,rfl,h1,h1r,e1,q1,m1,m1r,b1⟩
 replace b1:=zAa (a:=W) (by go_grown) b1
 replace Bz:=zAa Bz b1
 clear h1r
 clear b1
 clear p0_0 p0_1 p0_2 p0_3
 go_upto_region 2 with(fail)
 obtain⟨V1,hW,x1,x2,hN⟩:=boxes2 w1 #[.bool s1,.slice A1 l1 c1] 55 #[.bool s1r,.slice A1r l1r c1r] 55
 rw[←hW]
 clear hW
 obtain⟨v2,hb2⟩:∃b,b=w1.heap.size+1:=⟨_,rfl⟩
 rw[←hb2] at x2 ⊢
 obtain⟨v1,hb1⟩:∃b,b=w1.heap.size:=⟨_,rfl⟩
 rw[←hb1] at x1 ⊢
 have o0_1:w.heap.size<v1:=by have:=(HX0.out.below Bz).lt;omega
 have ow_1:w.heap.size≤v1:=by have:=hB.size;have:=Bz.size;omega
 have o0_2:w.heap.size<v2:=by have:=(HX0.out.below Bz).lt;omega
 have o1_2:v1<v2:=by omega
 have ow_2:w.heap.size≤v2:=by have:=hB.size;have:=Bz.size;omega
 replace h1:=h1.below hN
 replace hB:=zAa (zAa hB Bz) hN
 replace HX0:=Lib.hid ((HX0.out.below Bz).below hN)
 have HX1:=Lib.hid x1
 have HX2:=Lib.hid x2
 clear x1 x2 hN Bz hb1 hb2
 have Bz:=Below.refl V1.heap.size V1
 have p1_0:=(HX1.out.below Bz).cell 0 (.bool s1) rfl
 have p1_1:=(HX1.out.below Bz).cell 1 (.slice A1 l1 c1) rfl
 go_wp2_with fail
 with_reducible refine(sign_r (I.below h1 (by go_grown)) (by omega) z (by rw[qof_sign e1,q1,←sign_num];exact hz.out)).mono ?_
 rintro e w2 ⟨rfl,b2⟩
 replace b2:=zAa (a:=V1) (by go_grown) b2
 replace Bz:=zAa Bz b2
 clear b2
 clear p1_0 p1_1
 go_wp2_with fail
 go_ret
 have hF:=zAa (c:=w2) hB Bz
 exact⟨rfl,zAa hF (by go_grown)⟩
end
end Go.Proofs.YtldcfmangolkoaaGreatDoor
