import Derived.Test.YteggjbgbknkoiaaGreatDoorUWG
import Derived.Test.YteggjbgbknkoiaaGreatDoorUZQ
set_option maxHeartbeats 4000000
set_option maxRecDepth 100000
namespace Go.Proofs.YteggjbgbknkoiaaGreatDoor
open Go.RowKit Tw
section
variable {w:World} {s s' t t':Bool} {A A' B B':Option Addr} {c c' l l' e e' k k':Nat}
theorem J.neg_of {z:Int} (h:J w s A c l z) (hz:z<0):s=true:=by rw[h.2];simpa using hz
theorem J.pos_of {z:Int} (h:J w s A c l z) (hz:0≤z):s=false:=by rw[h.2];simpa using hz
theorem parts_r_one {n d:Int} {m:Nat} (hn:I w s A c l n) (hd:I w s' A' c' l' d) (hl:l≤m) (hl':l'≤m) (hm:m≤16000) (h0:((l':Int)==0)=true) :
  Calls Tryz.prog 83 #[.agg #[.bool s,.slice A l c,.bool s',.slice A' l' c']] w (TellsP w (qof n 1) (m+2) (m+3)):=by
 obtain⟨t0,ht⟩:∃t:Int,t=1:=⟨_,rfl⟩;have HT:Hid ((1:Int).sign=t0):=zh (by rw[ht];exact rfl);have g1:(t0==0)=false:=by rw[ht];rfl
 clear ht;obtain⟨W,hW,x0,x1,x2,hB⟩:=boxes3 w #[.bool s,.slice A l c,.bool s',.slice A' l' c'] 30 #[.bool false,.slice none 0 0] 28 #[.bool false,.slice none 0 0] 28;replace hd:=hd.below hB;replace hn:=hn.below hB;have HX0:=zh x0;have HX1:=zh x1;have HX2:=zh x2;clear x0 x1 x2;have Bz:=zr W;obtain⟨pa0,pa1,-⟩:=(zxb HX0 Bz).cz;go_enter Tryz.func83,Tryz.ntmps83
 go_wp2_with fail
 rw[←hW];clear hW;go_wp2_with fail
 with_reducible refine(norm_r (I.below hn) zo).mono ?_
 rintro e w1 ⟨s1,A1,c1,l1,rfl,h1,m1,q⟩;replace q:=zq (a:=W) q;replace hd:=hd.below q;replace Bz:=bT Bz q;clear q;clear pa0 pa1;go_upto_region 2 with(fail)
 obtain⟨V1,hW,x3,hN⟩:=zAe w1 #[.bool s1,.slice A1 l1 c1] 28;rw[←hW];clear hW;obtain⟨v3,hb3⟩:=ze w1.heap.size;rw[←hb3] at x3 ⊢;have o1_3:w.heap.size+1<v3:=zi (zxb HX1 Bz).lt;have o2_3:w.heap.size+1+1<v3:=zi (zxb HX2 Bz).lt;have ow_3:w.heap.size≤v3:=zi (zw hB Bz);replace hd:=hd.below hN;replace h1:=h1.below hN;replace hB:=bT (bT hB Bz) hN;replace HX0:=zba HX0 Bz hN;replace HX1:=zba HX1 Bz hN;replace HX2:=zba HX2 Bz hN;have HX3:=zh x3;clear x3 hN Bz hb3;have Bz:=zr V1;obtain⟨-,-,pa2,pa3,-⟩:=(zxb HX0 Bz).cz;go_wp2_with fail
 with_reducible refine(norm_r (I.below hd) zo).mono ?_
 rintro e w2 ⟨s2,A2,c2,l2,rfl,h2,m2,q⟩;replace q:=zq (a:=V1) q;replace h1:=h1.below q;replace Bz:=bT Bz q;clear h2;clear q;clear pa2 pa3;go_upto_region 3 with(fail)
 obtain⟨V2,hW,x4,hN⟩:=zAe w2 #[.bool s2,.slice A2 l2 c2] 28;rw[←hW];clear hW;obtain⟨v4,hb4⟩:=ze w2.heap.size;rw[←hb4] at x4 ⊢;have o0_4:w.heap.size<v4:=zi (zxb HX0 Bz).lt;have o1_4:w.heap.size+1<v4:=zi (zxb HX1 Bz).lt;have o2_4:w.heap.size+1+1<v4:=zi (zxb HX2 Bz).lt;have o3_4:v3<v4:=zi (zxb HX3 Bz).lt;have ow_4:w.heap.size≤v4:=zi (zw hB Bz);replace h1:=h1.below hN;replace hB:=bT (bT hB Bz) hN;replace HX0:=zba HX0 Bz hN;replace HX1:=zba HX1 Bz hN;replace HX2:=zba HX2 Bz hN;replace HX3:=zba HX3 Bz hN;have HX4:=zh x4;clear x4 hN Bz hb4;have Bz:=zr V2;have pa3:=(zxb HX0 Bz).cell 3 (.slice A' l' c') rfl;go_wp2_with fail
 with_reducible refine(ofq 1 (zh zo)).mono ?_
 rintro e w3 ⟨s3,A3,c3,l3,rfl,h3,m3,q⟩;replace q:=zq (a:=V2) q;replace h1:=h1.below q;replace Bz:=bT Bz q;clear q;obtain rfl:=J.pos_of h3 zo;clear pa3;obtain⟨pe0,pe1,-⟩:=(zxb HX4 Bz).cz;obtain⟨y4,fe0,fe1,-⟩:=(zxb HX4 Bz).fz;go_upto_region 5 with(fail)
 obtain⟨V3,hW,x,kk,far,bel⟩:=zAk (.bool false) (.slice A3 l3 c3) (zxb HX4 Bz) nofun nofun;rw[←hW];clear hW;replace h1:=h1.k kk;replace h3:=h3.k kk;replace hB:=bel w.heap.size w zo (bT hB Bz);replace HX0:=zf far HX0 Bz;replace HX1:=zf far HX1 Bz;replace HX2:=zf far HX2 Bz;replace HX3:=zf far HX3 Bz;replace HX4:=zh x;clear x kk far bel Bz;have Bz:=zr V3;clear pe0 pe1 fe0 fe1 y4;obtain⟨pe0,pe1,-⟩:=(zxb HX4 Bz).cz;go_wp2_with fail
 with_reducible refine(sign_r (I.below h3.i) zo t0 HT.out).mono ?_
 rintro e w4 ⟨rfl,q⟩;replace q:=zq (a:=V3) q;replace h1:=h1.below q;replace h3:=h3.below q;replace Bz:=bT Bz q;clear q;clear pe0 pe1;obtain⟨pb0,pb1,-⟩:=(zxb HX1 Bz).cz;obtain⟨y1,fb0,fb1,-⟩:=(zxb HX1 Bz).fz;obtain⟨pc0,pc1,-⟩:=(zxb HX2 Bz).cz;obtain⟨y2,fc0,fc1,-⟩:=(zxb HX2 Bz).fz;obtain⟨pd0,pd1,-⟩:=(zxb HX3 Bz).cz;obtain⟨pe0,pe1,-⟩:=(zxb HX4 Bz).cz;go_wp2_with fail
 (try simp only[vAa,vBa,vC])
 refine zl (zz [0,1] (.only 2 (.only 3 .done))) [3] (zsa pd0 (zsa pd1 (zsa pe0 (zIa pe1)))) ?_;iterate 2 (refine zUa ?_;try simp only[Act.put,uX,uY,uZ])
 refine wpPlan_call (o:=⟨none,_,_,_,_,_⟩) rfl rfl (fun K hK=>?_);go_simp
 refine hK.out _ _ ⟨(zAf zo).trans pd0,(zAf zo).trans pd1,(zAf zo).trans pe0,(zAf zo).trans pe1⟩ (fun _=>?_);try simp only[Act.put,uX,uY,uZ]
 clear hK K;refine zAc (o:=⟨none,_,_,_,_,_⟩) rfl rfl zd (fun K hK=>?_);go_simp
 refine hK.out _ _ ?_;try simp only[Act.put,uX,uY,uZ]
 clear hK K;refine zAa ?_;go_wp2_with fail
 have qc0:w4.cell? ⟨w.heap.size+2,0,none⟩=some (.bool false):=pc0;have qc1:w4.cell? ⟨w.heap.size+2,1,none⟩=some (.slice none 0 0):=pc1;(try simp only[Exit.inBlock,Exit.then])
 refine bodyPost_ret (by simp[results,Tryz.results83,go_sem,pb0,pb1,qc0,qc1];try rfl) rfl ?_;obtain⟨V4,hW,x,kk,far,bel⟩:=zAk (.bool s1) (.slice A1 l1 c1) (zxb HX1 Bz) nofun nofun;rw[←hW];clear hW;replace h1:=h1.k kk;replace h3:=h3.k kk;replace hB:=bel w.heap.size w zo (bT hB Bz);replace HX0:=zf far HX0 Bz;replace HX2:=zf far HX2 Bz;replace HX3:=zf far HX3 Bz;replace HX4:=zf far HX4 Bz;replace HX1:=zh x;clear x kk far bel Bz;have Bz:=zr V4;obtain⟨V5,hW,x,kk,far,bel⟩:=zAk (.bool false) (.slice A3 l3 c3) (zxb HX2 Bz) nofun nofun;rw[←hW];clear hW;replace h1:=h1.k kk;replace h3:=h3.k kk;replace hB:=bel w.heap.size w zo (bT hB Bz);replace HX0:=zf far HX0 Bz;replace HX1:=zf far HX1 Bz;replace HX3:=zf far HX3 Bz;replace HX4:=zf far HX4 Bz;replace HX2:=zh x;clear x kk far bel Bz;have Bz:=zr V5;have hF:=bT (c:=V5) hB Bz;exact⟨n,1,s1,A1,c1,l1,false,A3,c3,l3,rfl,(I.below h1.i),(I.below h3.i),zo,rfl,zo,zo,bT hF⟩
theorem parts_r_zero {n d:Int} {m:Nat} (hn:I w s A c l n) (hd:I w s' A' c' l' d) (hl:l≤m) (hl':l'≤m) (hm:m≤16000) (h0:((l':Int)==0)=false) (hd0:Hid (d=0)) :
  Calls Tryz.prog 83 #[.agg #[.bool s,.slice A l c,.bool s',.slice A' l' c']] w (TellsP w (qof n d) (m+2) (m+3)):=by
 obtain⟨t0,ht⟩:∃t:Int,t=0:=⟨_,rfl⟩;have HT:Hid ((d:Int).sign=t0):=zh (by rw[ht];exact by rw[hd0.out];rfl);have g1:(t0==0)=true:=by rw[ht];rfl
 clear ht;obtain⟨W,hW,x0,x1,x2,hB⟩:=boxes3 w #[.bool s,.slice A l c,.bool s',.slice A' l' c'] 30 #[.bool false,.slice none 0 0] 28 #[.bool false,.slice none 0 0] 28;replace hd:=hd.below hB;replace hn:=hn.below hB;have HX0:=zh x0;have HX1:=zh x1;have HX2:=zh x2;clear x0 x1 x2;have Bz:=zr W;obtain⟨pa0,pa1,-⟩:=(zxb HX0 Bz).cz;go_enter Tryz.func83,Tryz.ntmps83
 go_wp2_with fail
 rw[←hW];clear hW;go_wp2_with fail
 with_reducible refine(norm_r (I.below hn) zo).mono ?_
 rintro e w1 ⟨s1,A1,c1,l1,rfl,h1,m1,q⟩;replace q:=zq (a:=W) q;replace hd:=hd.below q;replace Bz:=bT Bz q;clear h1;clear q;clear pa0 pa1;go_upto_region 2 with(fail)
 obtain⟨V1,hW,x3,hN⟩:=zAe w1 #[.bool s1,.slice A1 l1 c1] 28;rw[←hW];clear hW;obtain⟨v3,hb3⟩:=ze w1.heap.size;rw[←hb3] at x3 ⊢;have o1_3:w.heap.size+1<v3:=zi (zxb HX1 Bz).lt;have o2_3:w.heap.size+1+1<v3:=zi (zxb HX2 Bz).lt;have ow_3:w.heap.size≤v3:=zi (zw hB Bz);replace hd:=hd.below hN;replace hB:=bT (bT hB Bz) hN;replace HX0:=zba HX0 Bz hN;replace HX1:=zba HX1 Bz hN;replace HX2:=zba HX2 Bz hN;have HX3:=zh x3;clear x3 hN Bz hb3;have Bz:=zr V1;obtain⟨-,-,pa2,pa3,-⟩:=(zxb HX0 Bz).cz;go_wp2_with fail
 with_reducible refine(norm_r (I.below hd) zo).mono ?_
 rintro e w2 ⟨s2,A2,c2,l2,rfl,h2,m2,q⟩;replace q:=zq (a:=V1) q;replace Bz:=bT Bz q;clear q;clear pa2 pa3;go_upto_region 3 with(fail)
 obtain⟨V2,hW,x4,hN⟩:=zAe w2 #[.bool s2,.slice A2 l2 c2] 28;rw[←hW];clear hW;obtain⟨v4,hb4⟩:=ze w2.heap.size;rw[←hb4] at x4 ⊢;have o1_4:w.heap.size+1<v4:=zi (zxb HX1 Bz).lt;have o2_4:w.heap.size+1+1<v4:=zi (zxb HX2 Bz).lt;have ow_4:w.heap.size≤v4:=zi (zw hB Bz);replace h2:=h2.below hN;replace hB:=bT (bT hB Bz) hN;replace HX0:=zba HX0 Bz hN;replace HX1:=zba HX1 Bz hN;replace HX2:=zba HX2 Bz hN;replace HX3:=zba HX3 Bz hN;have HX4:=zh x4;clear x4 hN Bz hb4;have Bz:=zr V2;have pa3:=(zxb HX0 Bz).cell 3 (.slice A' l' c') rfl;obtain⟨pe0,pe1,-⟩:=(zxb HX4 Bz).cz;go_wp2_with fail
 with_reducible refine(sign_r (I.below h2.i) zo t0 HT.out).mono ?_
 rintro e w3 ⟨rfl,q⟩;replace q:=zq (a:=V2) q;replace Bz:=bT Bz q;clear q;clear pa3 pe0 pe1;go_wp2_with fail
 with_reducible refine(ofq 1 (zh zo)).mono ?_
 rintro e w4 ⟨s4,A4,c4,l4,rfl,h4,m4,q⟩;replace q:=zq (a:=w3) q;replace Bz:=bT Bz q;clear q;obtain⟨pb0,pb1,-⟩:=(zxb HX1 Bz).cz;obtain⟨y1,fb0,fb1,-⟩:=(zxb HX1 Bz).fz;obtain⟨pc0,pc1,-⟩:=(zxb HX2 Bz).cz;obtain⟨y2,fc0,fc1,-⟩:=(zxb HX2 Bz).fz;go_wp2_with fail
 have qc0:w4.cell? ⟨w.heap.size+2,0,none⟩=some (.bool false):=pc0;have qc1:w4.cell? ⟨w.heap.size+2,1,none⟩=some (.slice none 0 0):=pc1;(try simp only[Exit.inBlock,Exit.then])
 refine bodyPost_ret (by simp[results,Tryz.results83,go_sem,pb0,pb1,qc0,qc1];try rfl) rfl ?_;obtain⟨V3,hW,x,kk,far,bel⟩:=zAk (.bool false) (.slice none 0 0) (zxb HX1 Bz) nofun nofun;rw[←hW];clear hW;replace h4:=h4.k kk;replace hB:=bel w.heap.size w zo (bT hB Bz);replace HX0:=zf far HX0 Bz;replace HX2:=zf far HX2 Bz;replace HX3:=zf far HX3 Bz;replace HX4:=zf far HX4 Bz;replace HX1:=zh x;clear x kk far bel Bz;have Bz:=zr V3;obtain⟨V4,hW,x,kk,far,bel⟩:=zAk (.bool s4) (.slice A4 l4 c4) (zxb HX2 Bz) nofun nofun;rw[←hW];clear hW;replace h4:=h4.k kk;replace hB:=bel w.heap.size w zo (bT hB Bz);replace HX0:=zf far HX0 Bz;replace HX1:=zf far HX1 Bz;replace HX3:=zf far HX3 Bz;replace HX4:=zf far HX4 Bz;replace HX2:=zh x;clear x kk far bel Bz;have Bz:=zr V4;have hF:=bT (c:=V4) hB Bz;exact⟨0,1,false,none,0,0,s4,A4,c4,l4,rfl,J.i (J.zero _),(I.below h4.i),zo,(by rw[hd0.out,qof_zero,qof_one];rfl),zo,zo,bT hF⟩
theorem parts_r_neg {n d:Int} {m:Nat} (hn:I w s A c l n) (hd:I w s' A' c' l' d) (hl:l≤m) (hl':l'≤m) (hm:m≤16000) (h0:((l':Int)==0)=false) (hd0:d<0) :
  Calls Tryz.prog 83 #[.agg #[.bool s,.slice A l c,.bool s',.slice A' l' c']] w (TellsP w (qof n d) (m+2) (m+3)):=by
 obtain⟨t0,ht⟩:∃t:Int,t = -1:=⟨_,rfl⟩;have HT:Hid ((d:Int).sign=t0):=zh (by rw[ht];exact gD hd0);have g1:(t0==0)=false:=by rw[ht];rfl
 clear ht;obtain⟨W,hW,x0,x1,x2,hB⟩:=boxes3 w #[.bool s,.slice A l c,.bool s',.slice A' l' c'] 30 #[.bool false,.slice none 0 0] 28 #[.bool false,.slice none 0 0] 28;replace hd:=hd.below hB;replace hn:=hn.below hB;have HX0:=zh x0;have HX1:=zh x1;have HX2:=zh x2;clear x0 x1 x2;have Bz:=zr W;obtain⟨pa0,pa1,-⟩:=(zxb HX0 Bz).cz;go_enter Tryz.func83,Tryz.ntmps83
 go_wp2_with fail
 rw[←hW];clear hW;go_wp2_with fail
 with_reducible refine(norm_r (I.below hn) zo).mono ?_
 rintro e w1 ⟨s1,A1,c1,l1,rfl,h1,m1,q⟩;replace q:=zq (a:=W) q;replace hd:=hd.below q;replace Bz:=bT Bz q;clear q;clear pa0 pa1;go_upto_region 2 with(fail)
 obtain⟨V1,hW,x3,hN⟩:=zAe w1 #[.bool s1,.slice A1 l1 c1] 28;rw[←hW];clear hW;obtain⟨v3,hb3⟩:=ze w1.heap.size;rw[←hb3] at x3 ⊢;have o0_3:w.heap.size<v3:=zi (zxb HX0 Bz).lt;have o1_3:w.heap.size+1<v3:=zi (zxb HX1 Bz).lt;have o2_3:w.heap.size+1+1<v3:=zi (zxb HX2 Bz).lt;have ow_3:w.heap.size≤v3:=zi (zw hB Bz);replace hd:=hd.below hN;replace h1:=h1.below hN;replace hB:=bT (bT hB Bz) hN;replace HX0:=zba HX0 Bz hN;replace HX1:=zba HX1 Bz hN;replace HX2:=zba HX2 Bz hN;have HX3:=zh x3;clear x3 hN Bz hb3;have Bz:=zr V1;obtain⟨-,-,pa2,pa3,-⟩:=(zxb HX0 Bz).cz;go_wp2_with fail
 with_reducible refine(norm_r (I.below hd) zo).mono ?_
 rintro e w2 ⟨s2,A2,c2,l2,rfl,h2,m2,q⟩;replace q:=zq (a:=V1) q;replace h1:=h1.below q;replace Bz:=bT Bz q;clear q;obtain rfl:=J.neg_of h2 zo;clear pa2 pa3;go_upto_region 3 with(fail)
 obtain⟨V2,hW,x4,hN⟩:=zAe w2 #[.bool true,.slice A2 l2 c2] 28;rw[←hW];clear hW;obtain⟨v4,hb4⟩:=ze w2.heap.size;rw[←hb4] at x4 ⊢;have o0_4:w.heap.size<v4:=zi (zxb HX0 Bz).lt;have o1_4:w.heap.size+1<v4:=zi (zxb HX1 Bz).lt;have o2_4:w.heap.size+1+1<v4:=zi (zxb HX2 Bz).lt;have o3_4:v3<v4:=zi (zxb HX3 Bz).lt;have ow_4:w.heap.size≤v4:=zi (zw hB Bz);replace h1:=h1.below hN;replace h2:=h2.below hN;replace hB:=bT (bT hB Bz) hN;replace HX0:=zba HX0 Bz hN;replace HX1:=zba HX1 Bz hN;replace HX2:=zba HX2 Bz hN;replace HX3:=zba HX3 Bz hN;have HX4:=zh x4;clear x4 hN Bz hb4;have Bz:=zr V2;have pa3:=(zxb HX0 Bz).cell 3 (.slice A' l' c') rfl;obtain⟨pe0,pe1,-⟩:=(zxb HX4 Bz).cz;go_wp2_with fail
 with_reducible refine(sign_r (I.below h2.i) zo t0 HT.out).mono ?_
 rintro e w3 ⟨rfl,q⟩;replace q:=zq (a:=V2) q;replace h1:=h1.below q;replace h2:=h2.below q;replace Bz:=bT Bz q;clear q;clear pa3 pe0 pe1;obtain⟨pd0,pd1,-⟩:=(zxb HX3 Bz).cz;have pe0:=(zxb HX4 Bz).cell 0 (.bool true) rfl;go_wp2_with fail
 with_reducible refine(neg_r (I.below h1.i) zo).mono ?_
 rintro e w4 ⟨s4,A4,c4,l4,rfl,h4,m4,q⟩;replace q:=zq (a:=w3) q;replace h2:=h2.below q;replace Bz:=bT Bz q;clear q;clear pd0 pd1 pe0;obtain⟨pd0,pd1,-⟩:=(zxb HX3 Bz).cz;obtain⟨y3,fd0,fd1,-⟩:=(zxb HX3 Bz).fz;go_upto_region 9 with(fail)
 obtain⟨V3,hW,x,kk,far,bel⟩:=zAk (.bool s4) (.slice A4 l4 c4) (zxb HX3 Bz) nofun nofun;rw[←hW];clear hW;replace h2:=h2.k kk;replace h4:=h4.k kk;replace hB:=bel w.heap.size w zo (bT hB Bz);replace HX0:=zf far HX0 Bz;replace HX1:=zf far HX1 Bz;replace HX2:=zf far HX2 Bz;replace HX4:=zf far HX4 Bz;replace HX3:=zh x;clear x kk far bel Bz;have Bz:=zr V3;clear pd0 pd1 fd0 fd1 y3;obtain⟨pe0,pe1,-⟩:=(zxb HX4 Bz).cz;go_wp2_with fail
 with_reducible refine(neg_r (I.below h2.i) zo).mono ?_
 rintro e w5 ⟨s5,A5,c5,l5,rfl,h5,m5,q⟩;replace q:=zq (a:=V3) q;replace h4:=h4.below q;replace Bz:=bT Bz q;clear q;clear pe0 pe1;obtain⟨pe0,pe1,-⟩:=(zxb HX4 Bz).cz;obtain⟨y4,fe0,fe1,-⟩:=(zxb HX4 Bz).fz;go_upto_region 10 with(fail)
 obtain⟨V4,hW,x,kk,far,bel⟩:=zAk (.bool s5) (.slice A5 l5 c5) (zxb HX4 Bz) nofun nofun;rw[←hW];clear hW;replace h4:=h4.k kk;replace h5:=h5.k kk;replace hB:=bel w.heap.size w zo (bT hB Bz);replace HX0:=zf far HX0 Bz;replace HX1:=zf far HX1 Bz;replace HX2:=zf far HX2 Bz;replace HX3:=zf far HX3 Bz;replace HX4:=zh x;clear x kk far bel Bz;have Bz:=zr V4;clear pe0 pe1 fe0 fe1 y4;obtain⟨pb0,pb1,-⟩:=(zxb HX1 Bz).cz;obtain⟨y1,fb0,fb1,-⟩:=(zxb HX1 Bz).fz;obtain⟨pc0,pc1,-⟩:=(zxb HX2 Bz).cz;obtain⟨y2,fc0,fc1,-⟩:=(zxb HX2 Bz).fz;obtain⟨pd0,pd1,-⟩:=(zxb HX3 Bz).cz;obtain⟨pe0,pe1,-⟩:=(zxb HX4 Bz).cz;go_wp2_with fail
 (try simp only[vAa,vBa,vC])
 refine zl (zz [0,1] (.only 2 (.only 3 .done))) [3] (zsa pd0 (zsa pd1 (zsa pe0 (zIa pe1)))) ?_;iterate 2 (refine zUa ?_;try simp only[Act.put,uX,uY,uZ])
 refine wpPlan_call (o:=⟨none,_,_,_,_,_⟩) rfl rfl (fun K hK=>?_);go_simp
 refine hK.out _ _ ⟨(zAf zo).trans pd0,(zAf zo).trans pd1,(zAf zo).trans pe0,(zAf zo).trans pe1⟩ (fun _=>?_);try simp only[Act.put,uX,uY,uZ]
 clear hK K;refine zAc (o:=⟨none,_,_,_,_,_⟩) rfl rfl zd (fun K hK=>?_);go_simp
 refine hK.out _ _ ?_;try simp only[Act.put,uX,uY,uZ]
 clear hK K;refine zAa ?_;go_wp2_with fail
 have qc0:V4.cell? ⟨w.heap.size+2,0,none⟩=some (.bool false):=pc0;have qc1:V4.cell? ⟨w.heap.size+2,1,none⟩=some (.slice none 0 0):=pc1;(try simp only[Exit.inBlock,Exit.then])
 refine bodyPost_ret (by simp[results,Tryz.results83,go_sem,pb0,pb1,qc0,qc1];try rfl) rfl ?_;obtain⟨V5,hW,x,kk,far,bel⟩:=zAk (.bool s4) (.slice A4 l4 c4) (zxb HX1 Bz) nofun nofun;rw[←hW];clear hW;replace h4:=h4.k kk;replace h5:=h5.k kk;replace hB:=bel w.heap.size w zo (bT hB Bz);replace HX0:=zf far HX0 Bz;replace HX2:=zf far HX2 Bz;replace HX3:=zf far HX3 Bz;replace HX4:=zf far HX4 Bz;replace HX1:=zh x;clear x kk far bel Bz;have Bz:=zr V5;obtain⟨V6,hW,x,kk,far,bel⟩:=zAk (.bool s5) (.slice A5 l5 c5) (zxb HX2 Bz) nofun nofun;rw[←hW];clear hW;replace h4:=h4.k kk;replace h5:=h5.k kk;replace hB:=bel w.heap.size w zo (bT hB Bz);replace HX0:=zf far HX0 Bz;replace HX1:=zf far HX1 Bz;replace HX3:=zf far HX3 Bz;replace HX4:=zf far HX4 Bz;replace HX2:=zh x;clear x kk far bel Bz;have Bz:=zr V6;have hF:=bT (c:=V6) hB Bz;exact⟨-n,-d,s4,A4,c4,l4,s5,A5,c5,l5,rfl,(I.below h4.i),(I.below h5.i),zo,qof_neg n d,zo,zo,bT hF⟩
theorem parts_r_pos {n d:Int} {m:Nat} (hn:I w s A c l n) (hd:I w s' A' c' l' d) (hl:l≤m) (hl':l'≤m) (hm:m≤16000) (h0:((l':Int)==0)=false) (hd0:0<d) :
  Calls Tryz.prog 83 #[.agg #[.bool s,.slice A l c,.bool s',.slice A' l' c']] w (TellsP w (qof n d) (m+2) (m+3)):=by
 obtain⟨t0,ht⟩:∃t:Int,t=1:=⟨_,rfl⟩;have HT:Hid ((d:Int).sign=t0):=zh (by rw[ht];exact qD hd0);have g1:(t0==0)=false:=by rw[ht];rfl
 clear ht;obtain⟨W,hW,x0,x1,x2,hB⟩:=boxes3 w #[.bool s,.slice A l c,.bool s',.slice A' l' c'] 30 #[.bool false,.slice none 0 0] 28 #[.bool false,.slice none 0 0] 28;replace hd:=hd.below hB;replace hn:=hn.below hB;have HX0:=zh x0;have HX1:=zh x1;have HX2:=zh x2;clear x0 x1 x2;have Bz:=zr W;obtain⟨pa0,pa1,-⟩:=(zxb HX0 Bz).cz;go_enter Tryz.func83,Tryz.ntmps83
 go_wp2_with fail
 rw[←hW];clear hW;go_wp2_with fail
 with_reducible refine(norm_r (I.below hn) zo).mono ?_
 rintro e w1 ⟨s1,A1,c1,l1,rfl,h1,m1,q⟩;replace q:=zq (a:=W) q;replace hd:=hd.below q;replace Bz:=bT Bz q;clear q;clear pa0 pa1;go_upto_region 2 with(fail)
 obtain⟨V1,hW,x3,hN⟩:=zAe w1 #[.bool s1,.slice A1 l1 c1] 28;rw[←hW];clear hW;obtain⟨v3,hb3⟩:=ze w1.heap.size;rw[←hb3] at x3 ⊢;have o1_3:w.heap.size+1<v3:=zi (zxb HX1 Bz).lt;have o2_3:w.heap.size+1+1<v3:=zi (zxb HX2 Bz).lt;have ow_3:w.heap.size≤v3:=zi (zw hB Bz);replace hd:=hd.below hN;replace h1:=h1.below hN;replace hB:=bT (bT hB Bz) hN;replace HX0:=zba HX0 Bz hN;replace HX1:=zba HX1 Bz hN;replace HX2:=zba HX2 Bz hN;have HX3:=zh x3;clear x3 hN Bz hb3;have Bz:=zr V1;obtain⟨-,-,pa2,pa3,-⟩:=(zxb HX0 Bz).cz;go_wp2_with fail
 with_reducible refine(norm_r (I.below hd) zo).mono ?_
 rintro e w2 ⟨s2,A2,c2,l2,rfl,h2,m2,q⟩;replace q:=zq (a:=V1) q;replace h1:=h1.below q;replace Bz:=bT Bz q;clear q;obtain rfl:=J.pos_of h2 zo;clear pa2 pa3;go_upto_region 3 with(fail)
 obtain⟨V2,hW,x4,hN⟩:=zAe w2 #[.bool false,.slice A2 l2 c2] 28;rw[←hW];clear hW;obtain⟨v4,hb4⟩:=ze w2.heap.size;rw[←hb4] at x4 ⊢;have o1_4:w.heap.size+1<v4:=zi (zxb HX1 Bz).lt;have o2_4:w.heap.size+1+1<v4:=zi (zxb HX2 Bz).lt;have ow_4:w.heap.size≤v4:=zi (zw hB Bz);replace h1:=h1.below hN;replace h2:=h2.below hN;replace hB:=bT (bT hB Bz) hN;replace HX0:=zba HX0 Bz hN;replace HX1:=zba HX1 Bz hN;replace HX2:=zba HX2 Bz hN;replace HX3:=zba HX3 Bz hN;have HX4:=zh x4;clear x4 hN Bz hb4;have Bz:=zr V2;have pa3:=(zxb HX0 Bz).cell 3 (.slice A' l' c') rfl;obtain⟨pe0,pe1,-⟩:=(zxb HX4 Bz).cz;go_wp2_with fail
 with_reducible refine(sign_r (I.below h2.i) zo t0 HT.out).mono ?_
 rintro e w3 ⟨rfl,q⟩;replace q:=zq (a:=V2) q;replace h1:=h1.below q;replace h2:=h2.below q;replace Bz:=bT Bz q;clear q;clear pa3 pe0 pe1;obtain⟨pb0,pb1,-⟩:=(zxb HX1 Bz).cz;obtain⟨y1,fb0,fb1,-⟩:=(zxb HX1 Bz).fz;obtain⟨pc0,pc1,-⟩:=(zxb HX2 Bz).cz;obtain⟨y2,fc0,fc1,-⟩:=(zxb HX2 Bz).fz;obtain⟨pd0,pd1,-⟩:=(zxb HX3 Bz).cz;obtain⟨pe0,pe1,-⟩:=(zxb HX4 Bz).cz;go_wp2_with fail
 (try simp only[vAa,vBa,vC])
 refine zl (zz [0,1] (.only 2 (.only 3 .done))) [3] (zsa pd0 (zsa pd1 (zsa pe0 (zIa pe1)))) ?_;iterate 2 (refine zUa ?_;try simp only[Act.put,uX,uY,uZ])
 refine wpPlan_call (o:=⟨none,_,_,_,_,_⟩) rfl rfl (fun K hK=>?_);go_simp
 refine hK.out _ _ ⟨(zAf zo).trans pd0,(zAf zo).trans pd1,(zAf zo).trans pe0,(zAf zo).trans pe1⟩ (fun _=>?_);try simp only[Act.put,uX,uY,uZ]
 clear hK K;refine zAc (o:=⟨none,_,_,_,_,_⟩) rfl rfl zd (fun K hK=>?_);go_simp
 refine hK.out _ _ ?_;try simp only[Act.put,uX,uY,uZ]
 clear hK K;refine zAa ?_;go_wp2_with fail
 have qc0:w3.cell? ⟨w.heap.size+2,0,none⟩=some (.bool false):=pc0;have qc1:w3.cell? ⟨w.heap.size+2,1,none⟩=some (.slice none 0 0):=pc1;(try simp only[Exit.inBlock,Exit.then])
 refine bodyPost_ret (by simp[results,Tryz.results83,go_sem,pb0,pb1,qc0,qc1];try rfl) rfl ?_;obtain⟨V3,hW,x,kk,far,bel⟩:=zAk (.bool s1) (.slice A1 l1 c1) (zxb HX1 Bz) nofun nofun;rw[←hW];clear hW;replace h1:=h1.k kk;replace h2:=h2.k kk;replace hB:=bel w.heap.size w zo (bT hB Bz);replace HX0:=zf far HX0 Bz;replace HX2:=zf far HX2 Bz;replace HX3:=zf far HX3 Bz;replace HX4:=zf far HX4 Bz;replace HX1:=zh x;clear x kk far bel Bz;have Bz:=zr V3;obtain⟨V4,hW,x,kk,far,bel⟩:=zAk (.bool false) (.slice A2 l2 c2) (zxb HX2 Bz) nofun nofun;rw[←hW];clear hW;replace h1:=h1.k kk;replace h2:=h2.k kk;replace hB:=bel w.heap.size w zo (bT hB Bz);replace HX0:=zf far HX0 Bz;replace HX1:=zf far HX1 Bz;replace HX3:=zf far HX3 Bz;replace HX4:=zf far HX4 Bz;replace HX2:=zh x;clear x kk far bel Bz;have Bz:=zr V4;have hF:=bT (c:=V4) hB Bz;exact⟨n,d,s1,A1,c1,l1,false,A2,c2,l2,rfl,(I.below h1.i),(I.below h2.i),zo,rfl,zo,zo,bT hF⟩
theorem parts_r {q:Rat} {m:Nat} (h:R w s A c l s' A' c' l' q m) (hm:m≤16000) :
  Calls Tryz.prog 83 #[.agg #[.bool s,.slice A l c,.bool s',.slice A' l' c']] w (TellsP w q (m+2) (m+3)):=by
 obtain⟨n,d,hn,hd,hq,hl,hl'⟩:=h;by_cases h0:l'=0
 ·rw[gA h0] at hq;subst hq;exact parts_r_one hn hd hl hl' hm (by simp;omega)
 ·rw[fA h0] at hq;subst hq;rcases gE d 0 with h1 | h1 | h1
  ·exact parts_r_neg hn hd hl hl' hm (by simp;omega) h1
  ·exact parts_r_zero hn hd hl hl' hm (by simp;omega) (zh h1)
  ·exact parts_r_pos hn hd hl hl' hm (by simp;omega) h1
theorem lowest_r_one {n d z:Int} {q:Rat} (h:I w s A c l n) (h':I w s' A' c' l' d) (hl:l≤16000) (hl':l'≤16000) (hg0:(Int.gcd n d:Int)≠0) (HG:Hid (nl (Int.gcd n d:Int).natAbs≤l')) (HN:Hid (q.num=n / (Int.gcd n d:Int))) (HD:Hid (dn q=0)) (HZ:Hid (cmpI (d / (Int.gcd n d:Int)) 1=z)) (hz:(z==0)=true) :
  Calls Tryz.prog 123 #[.agg #[.bool s,.slice A l c],.agg #[.bool s',.slice A' l' c']] w (TellsR w q):=by
 obtain⟨W,hW,x0,x1,x2,hB⟩:=boxes3 w #[.bool s,.slice A l c] 28 #[.bool s',.slice A' l' c'] 28 #[.bool false,.slice none 0 0,.bool false,.slice none 0 0] 30;replace h':=h'.below hB;replace h:=h.below hB;have HX0:=zh x0;have HX1:=zh x1;have HX2:=zh x2;clear x0 x1 x2;have Bz:=zr W;obtain⟨pa0,pa1,-⟩:=(zxb HX0 Bz).cz;obtain⟨pb0,pb1,-⟩:=(zxb HX1 Bz).cz;go_enter Tryz.func123,Tryz.ntmps123
 go_wp2_with fail
 rw[←hW];clear hW;go_wp2_with fail
 with_reducible refine(gcdq (I.below h) (I.below h') zo zo).mono ?_
 rintro e w1 ⟨s1,A1,c1,l1,rfl,h1,m1,b⟩;replace b:=zq (a:=W) b;replace h':=h'.below b;replace h:=h.below b;replace Bz:=bT Bz b;clear b;have lg:=h1.len;replace lg:l1≤l':=by rw[lg];have:=HG.out;omega
 clear pa0 pa1 pb0 pb1;go_upto_region 2 with(fail)
 obtain⟨V1,hW,x3,hN⟩:=zAe w1 #[.bool s1,.slice A1 l1 c1] 28;rw[←hW];clear hW;obtain⟨v3,hb3⟩:=ze w1.heap.size;rw[←hb3] at x3 ⊢;have o0_3:w.heap.size<v3:=zi (zxb HX0 Bz).lt;have o1_3:w.heap.size+1<v3:=zi (zxb HX1 Bz).lt;have o2_3:w.heap.size+1+1<v3:=zi (zxb HX2 Bz).lt;have ow_3:w.heap.size≤v3:=zi (zw hB Bz);replace h':=h'.below hN;replace h1:=h1.below hN;replace h:=h.below hN;replace hB:=bT (bT hB Bz) hN;replace HX0:=zba HX0 Bz hN;replace HX1:=zba HX1 Bz hN;replace HX2:=zba HX2 Bz hN;have HX3:=zh x3;clear x3 hN Bz hb3;have Bz:=zr V1;obtain⟨pa0,pa1,-⟩:=(zxb HX0 Bz).cz;obtain⟨pd0,pd1,-⟩:=(zxb HX3 Bz).cz;go_wp2_with fail
 with_reducible refine(divmodq (I.below h) (I.below h1.i) zo zo hg0).mono ?_
 rintro e w2 ⟨s2,A2,c2,l2,s2r,A2r,c2r,l2r,rfl,h2,h2r,m2,m2r,b⟩;replace b:=zq (a:=V1) b;replace h':=h'.below b;replace h1:=h1.below b;replace Bz:=bT Bz b;clear h2r;clear b;clear pa0 pa1 pd0 pd1;obtain⟨pa0,pa1,-⟩:=(zxb HX0 Bz).cz;obtain⟨y0,fa0,fa1,-⟩:=(zxb HX0 Bz).fz;go_upto_region 3 with(fail)
 obtain⟨V2,hW,x,kk,far,bel⟩:=zAk (.bool s2) (.slice A2 l2 c2) (zxb HX0 Bz) nofun nofun;rw[←hW];clear hW;replace h':=h'.k kk;replace h1:=h1.k kk;replace h2:=h2.k kk;replace hB:=bel w.heap.size w zo (bT hB Bz);replace HX1:=zf far HX1 Bz;replace HX2:=zf far HX2 Bz;replace HX3:=zf far HX3 Bz;replace HX0:=zh x;clear x kk far bel Bz;have Bz:=zr V2;clear pa0 pa1 fa0 fa1 y0;obtain⟨pb0,pb1,-⟩:=(zxb HX1 Bz).cz;obtain⟨pd0,pd1,-⟩:=(zxb HX3 Bz).cz;go_wp2_with fail
 with_reducible refine(divmodq (I.below h') (I.below h1.i) zo zo hg0).mono ?_
 rintro e w3 ⟨s3,A3,c3,l3,s3r,A3r,c3r,l3r,rfl,h3,h3r,m3,m3r,b⟩;replace b:=zq (a:=V2) b;replace h2:=h2.below b;replace Bz:=bT Bz b;clear h3r;clear b;clear pb0 pb1 pd0 pd1;obtain⟨pb0,pb1,-⟩:=(zxb HX1 Bz).cz;obtain⟨y1,fb0,fb1,-⟩:=(zxb HX1 Bz).fz;go_upto_region 4 with(fail)
 obtain⟨V3,hW,x,kk,far,bel⟩:=zAk (.bool s3) (.slice A3 l3 c3) (zxb HX1 Bz) nofun nofun;rw[←hW];clear hW;replace h2:=h2.k kk;replace h3:=h3.k kk;replace hB:=bel w.heap.size w zo (bT hB Bz);replace HX0:=zf far HX0 Bz;replace HX2:=zf far HX2 Bz;replace HX3:=zf far HX3 Bz;replace HX1:=zh x;clear x kk far bel Bz;have Bz:=zr V3;clear pb0 pb1 fb0 fb1 y1;obtain⟨pb0,pb1,-⟩:=(zxb HX1 Bz).cz;go_wp2_with fail
 (try simp only[vAa,vBa,vC])
 refine zl (.take 0 (.only 1 (.only 2 (.take 3 .done)))) [] (zsa pb0 (zIa pb1)) ?_;refine zUa ?_;try simp only[Act.put,uX,uY,uZ]
 refine zC 22 rfl rfl (fun K hK=>?_);go_simp
 with_reducible refine(ofq 1 (zh zo)).mono ?_
 rintro e w4 ⟨s4,A4,c4,l4,rfl,h4,m4,b⟩;replace b:=zq (a:=V3) b;replace h2:=h2.below b;replace h3:=h3.below b;replace Bz:=bT Bz b;clear b;clear pb0 pb1;obtain⟨pb0,pb1,-⟩:=(zxb HX1 Bz).cz;refine hK.out _ _ ⟨pb0,pb1⟩ (fun _=>?_);try simp only[Act.put,uX,uY,uZ]
 clear hK K;refine zC 23 rfl rfl (fun K hK=>?_);go_simp
 with_reducible refine(cmpq (I.below h3.i) (I.below h4.i) zo zo z HZ.out).mono ?_
 rintro e w5 ⟨rfl,b⟩;replace b:=zq (a:=w4) b;replace h2:=h2.below b;replace Bz:=bT Bz b;clear b;clear pb0 pb1;obtain⟨pb0,pb1,-⟩:=(zxb HX1 Bz).cz;obtain⟨y1,fb0,fb1,-⟩:=(zxb HX1 Bz).fz;refine hK.out _ _ ⟨pb0,pb1⟩ (fun _=>?_);try simp only[Act.put,uX,uY,uZ]
 clear hK K;refine zUa ?_;try simp only[Act.put,uX,uY,uZ]
 refine zAa ?_;go_upto_region 6 with(fail)
 obtain⟨V4,hW,x,kk,far,bel⟩:=zAk (.bool false) (.slice none 0 0) (zxb HX1 Bz) nofun nofun;rw[←hW];clear hW;replace h2:=h2.k kk;replace hB:=bel w.heap.size w zo (bT hB Bz);replace HX0:=zf far HX0 Bz;replace HX2:=zf far HX2 Bz;replace HX3:=zf far HX3 Bz;replace HX1:=zh x;clear x kk far bel Bz;have Bz:=zr V4;clear pb0 pb1 fb0 fb1 y1;obtain⟨pa0,pa1,-⟩:=(zxb HX0 Bz).cz;obtain⟨pb0,pb1,-⟩:=(zxb HX1 Bz).cz;obtain⟨pc0,pc1,pc2,pc3,-⟩:=(zxb HX2 Bz).cz;obtain⟨y2,fc0,fc1,fc2,fc3,-⟩:=(zxb HX2 Bz).fz;go_wp2_with fail
 have qc0:V4.cell? ⟨w.heap.size+2,0,none⟩=some (.bool false):=pc0;have qc1:V4.cell? ⟨w.heap.size+2,1,none⟩=some (.slice none 0 0):=pc1;have qc2:V4.cell? ⟨w.heap.size+2,2,none⟩=some (.bool false):=pc2;have qc3:V4.cell? ⟨w.heap.size+2,3,none⟩=some (.slice none 0 0):=pc3;(try simp only[Exit.inBlock,Exit.then])
 refine bodyPost_ret (by simp[results,Tryz.results123,go_sem,qc0,qc1,qc2,qc3];try rfl) rfl ?_;obtain⟨V5,hW,x,kk,far,bel⟩:=store4 (.bool s2) (.slice A2 l2 c2) (.bool false) (.slice none 0 0) (zxb HX2 Bz) nofun nofun nofun nofun;rw[←hW];clear hW;replace h2:=h2.k kk;replace hB:=bel w.heap.size w zo (bT hB Bz);replace HX0:=zf far HX0 Bz;replace HX1:=zf far HX1 Bz;replace HX3:=zf far HX3 Bz;replace HX2:=zh x;clear x kk far bel Bz;have Bz:=zr V5;have hF:=bT (c:=V5) hB Bz;exact⟨s2,A2,c2,l2,false,none,0,0,rfl,⟨by rw[HN.out];exact(J.below h2),by rw[HD.out];exact J.zero _⟩,bT hF⟩
theorem lowest_r_more {n d z:Int} {q:Rat} (h:I w s A c l n) (h':I w s' A' c' l' d) (hl:l≤16000) (hl':l'≤16000) (hg0:(Int.gcd n d:Int)≠0) (HG:Hid (nl (Int.gcd n d:Int).natAbs≤l')) (HN:Hid (q.num=n / (Int.gcd n d:Int))) (HD:Hid (dn q=d / (Int.gcd n d:Int))) (HZ:Hid (cmpI (d / (Int.gcd n d:Int)) 1=z)) (hz:(z==0)=false) :
  Calls Tryz.prog 123 #[.agg #[.bool s,.slice A l c],.agg #[.bool s',.slice A' l' c']] w (TellsR w q):=by
 obtain⟨W,hW,x0,x1,x2,hB⟩:=boxes3 w #[.bool s,.slice A l c] 28 #[.bool s',.slice A' l' c'] 28 #[.bool false,.slice none 0 0,.bool false,.slice none 0 0] 30;replace h':=h'.below hB;replace h:=h.below hB;have HX0:=zh x0;have HX1:=zh x1;have HX2:=zh x2;clear x0 x1 x2;have Bz:=zr W;obtain⟨pa0,pa1,-⟩:=(zxb HX0 Bz).cz;obtain⟨pb0,pb1,-⟩:=(zxb HX1 Bz).cz;go_enter Tryz.func123,Tryz.ntmps123
 go_wp2_with fail
 rw[←hW];clear hW;go_wp2_with fail
 with_reducible refine(gcdq (I.below h) (I.below h') zo zo).mono ?_
 rintro e w1 ⟨s1,A1,c1,l1,rfl,h1,m1,b⟩;replace b:=zq (a:=W) b;replace h':=h'.below b;replace h:=h.below b;replace Bz:=bT Bz b;clear b;have lg:=h1.len;replace lg:l1≤l':=by rw[lg];have:=HG.out;omega
 clear pa0 pa1 pb0 pb1;go_upto_region 2 with(fail)
 obtain⟨V1,hW,x3,hN⟩:=zAe w1 #[.bool s1,.slice A1 l1 c1] 28;rw[←hW];clear hW;obtain⟨v3,hb3⟩:=ze w1.heap.size;rw[←hb3] at x3 ⊢;have o0_3:w.heap.size<v3:=zi (zxb HX0 Bz).lt;have o1_3:w.heap.size+1<v3:=zi (zxb HX1 Bz).lt;have o2_3:w.heap.size+1+1<v3:=zi (zxb HX2 Bz).lt;have ow_3:w.heap.size≤v3:=zi (zw hB Bz);replace h':=h'.below hN;replace h1:=h1.below hN;replace h:=h.below hN;replace hB:=bT (bT hB Bz) hN;replace HX0:=zba HX0 Bz hN;replace HX1:=zba HX1 Bz hN;replace HX2:=zba HX2 Bz hN;have HX3:=zh x3;clear x3 hN Bz hb3;have Bz:=zr V1;obtain⟨pa0,pa1,-⟩:=(zxb HX0 Bz).cz;obtain⟨pd0,pd1,-⟩:=(zxb HX3 Bz).cz;go_wp2_with fail
 with_reducible refine(divmodq (I.below h) (I.below h1.i) zo zo hg0).mono ?_
 rintro e w2 ⟨s2,A2,c2,l2,s2r,A2r,c2r,l2r,rfl,h2,h2r,m2,m2r,b⟩;replace b:=zq (a:=V1) b;replace h':=h'.below b;replace h1:=h1.below b;replace Bz:=bT Bz b;clear h2r;clear b;clear pa0 pa1 pd0 pd1;obtain⟨pa0,pa1,-⟩:=(zxb HX0 Bz).cz;obtain⟨y0,fa0,fa1,-⟩:=(zxb HX0 Bz).fz;go_upto_region 3 with(fail)
 obtain⟨V2,hW,x,kk,far,bel⟩:=zAk (.bool s2) (.slice A2 l2 c2) (zxb HX0 Bz) nofun nofun;rw[←hW];clear hW;replace h':=h'.k kk;replace h1:=h1.k kk;replace h2:=h2.k kk;replace hB:=bel w.heap.size w zo (bT hB Bz);replace HX1:=zf far HX1 Bz;replace HX2:=zf far HX2 Bz;replace HX3:=zf far HX3 Bz;replace HX0:=zh x;clear x kk far bel Bz;have Bz:=zr V2;clear pa0 pa1 fa0 fa1 y0;obtain⟨pb0,pb1,-⟩:=(zxb HX1 Bz).cz;obtain⟨pd0,pd1,-⟩:=(zxb HX3 Bz).cz;go_wp2_with fail
 with_reducible refine(divmodq (I.below h') (I.below h1.i) zo zo hg0).mono ?_
 rintro e w3 ⟨s3,A3,c3,l3,s3r,A3r,c3r,l3r,rfl,h3,h3r,m3,m3r,b⟩;replace b:=zq (a:=V2) b;replace h2:=h2.below b;replace Bz:=bT Bz b;clear h3r;clear b;clear pb0 pb1 pd0 pd1;obtain⟨pb0,pb1,-⟩:=(zxb HX1 Bz).cz;obtain⟨y1,fb0,fb1,-⟩:=(zxb HX1 Bz).fz;go_upto_region 4 with(fail)
 obtain⟨V3,hW,x,kk,far,bel⟩:=zAk (.bool s3) (.slice A3 l3 c3) (zxb HX1 Bz) nofun nofun;rw[←hW];clear hW;replace h2:=h2.k kk;replace h3:=h3.k kk;replace hB:=bel w.heap.size w zo (bT hB Bz);replace HX0:=zf far HX0 Bz;replace HX2:=zf far HX2 Bz;replace HX3:=zf far HX3 Bz;replace HX1:=zh x;clear x kk far bel Bz;have Bz:=zr V3;clear pb0 pb1 fb0 fb1 y1;obtain⟨pb0,pb1,-⟩:=(zxb HX1 Bz).cz;go_wp2_with fail
 (try simp only[vAa,vBa,vC])
 refine zl (.take 0 (.only 1 (.only 2 (.take 3 .done)))) [] (zsa pb0 (zIa pb1)) ?_;refine zUa ?_;try simp only[Act.put,uX,uY,uZ]
 refine zC 22 rfl rfl (fun K hK=>?_);go_simp
 with_reducible refine(ofq 1 (zh zo)).mono ?_
 rintro e w4 ⟨s4,A4,c4,l4,rfl,h4,m4,b⟩;replace b:=zq (a:=V3) b;replace h2:=h2.below b;replace h3:=h3.below b;replace Bz:=bT Bz b;clear b;clear pb0 pb1;obtain⟨pb0,pb1,-⟩:=(zxb HX1 Bz).cz;refine hK.out _ _ ⟨pb0,pb1⟩ (fun _=>?_);try simp only[Act.put,uX,uY,uZ]
 clear hK K;refine zC 23 rfl rfl (fun K hK=>?_);go_simp
 with_reducible refine(cmpq (I.below h3.i) (I.below h4.i) zo zo z HZ.out).mono ?_
 rintro e w5 ⟨rfl,b⟩;replace b:=zq (a:=w4) b;replace h2:=h2.below b;replace h3:=h3.below b;replace Bz:=bT Bz b;clear b;clear pb0 pb1;obtain⟨pa0,pa1,-⟩:=(zxb HX0 Bz).cz;obtain⟨pb0,pb1,-⟩:=(zxb HX1 Bz).cz;obtain⟨pc0,pc1,pc2,pc3,-⟩:=(zxb HX2 Bz).cz;obtain⟨y2,fc0,fc1,fc2,fc3,-⟩:=(zxb HX2 Bz).fz;refine hK.out _ _ ⟨pb0,pb1⟩ (fun _=>?_);try simp only[Act.put,uX,uY,uZ]
 clear hK K;refine zUa ?_;try simp only[Act.put,uX,uY,uZ]
 refine zAa ?_;go_wp2_with fail
 have qc0:w5.cell? ⟨w.heap.size+2,0,none⟩=some (.bool false):=pc0;have qc1:w5.cell? ⟨w.heap.size+2,1,none⟩=some (.slice none 0 0):=pc1;have qc2:w5.cell? ⟨w.heap.size+2,2,none⟩=some (.bool false):=pc2;have qc3:w5.cell? ⟨w.heap.size+2,3,none⟩=some (.slice none 0 0):=pc3;(try simp only[Exit.inBlock,Exit.then])
 refine bodyPost_ret (by simp[results,Tryz.results123,go_sem,qc0,qc1,qc2,qc3];try rfl) rfl ?_;obtain⟨V4,hW,x,kk,far,bel⟩:=store4 (.bool s2) (.slice A2 l2 c2) (.bool s3) (.slice A3 l3 c3) (zxb HX2 Bz) nofun nofun nofun nofun;rw[←hW];clear hW;replace h2:=h2.k kk;replace h3:=h3.k kk;replace hB:=bel w.heap.size w zo (bT hB Bz);replace HX0:=zf far HX0 Bz;replace HX1:=zf far HX1 Bz;replace HX3:=zf far HX3 Bz;replace HX2:=zh x;clear x kk far bel Bz;have Bz:=zr V4;have hF:=bT (c:=V4) hB Bz;exact⟨s2,A2,c2,l2,s3,A3,c3,l3,rfl,⟨by rw[HN.out];exact(J.below h2),by rw[HD.out];exact(J.below h3)⟩,bT hF⟩
theorem cmpI_zero {a b:Int}:cmpI a b=0↔a=b:=by unfold cmpI;split<;>(try split)<;>omega
theorem lowest_r {n d:Int} (h:I w s A c l n) (h':I w s' A' c' l' d) (hl:l≤16000) (hl':l'≤16000) (hd:0<d) :
  Calls Tryz.prog 123 #[.agg #[.bool s,.slice A l c],.agg #[.bool s',.slice A' l' c']] w (TellsR w (qof n d)):=by
 have hg0:(Int.gcd n d:Int)≠0:=by
  intro e;have:=Int.gcd_eq_zero_iff.1 (by omega:Int.gcd n d=0);omega
 have hn:=qof_num (n:=n) hd;have hdn:=dn_qof (n:=n) hd rfl;have hG:nl (Int.gcd n d:Int).natAbs≤l':=by
  refine kA (nl_mono (b:=d.natAbs) ?_) h'.nl;rw[xE];exact Nat.le_of_dvd zo (Int.ofNat_dvd.1 (Int.dvd_natAbs.2 (Int.gcd_dvd_right ..)))
 by_cases hr:d / (Int.gcd n d:Int)=1
 ·exact lowest_r_one h h' hl hl' hg0 (zh hG) (zh hn) (zh (by rw[hdn,gA hr])) (zh rfl) (by rw[cmpI_zero.2 hr];rfl)
 ·exact lowest_r_more h h' hl hl' hg0 (zh hG) (zh hn) (zh (by rw[hdn,fA hr])) (zh rfl) (by have:=mt cmpI_zero.1 hr;simpa using this)
theorem mul_r4 {q r:Rat} {m m':Nat} (h:R w s A c l s' A' c' l' q m) (h':R w t B k e t' B' k' e' r m') (hm:m+m'≤7200) :
  Calls Tryz.prog 86 #[.agg #[.bool s,.slice A l c,.bool s',.slice A' l' c'],.agg #[.bool t,.slice B e k,.bool t',.slice B' e' k']] w (TellsR w (q*r)):=by
 obtain⟨W,hW,x0,x1,x2,hB⟩:=boxes3 w #[.bool s,.slice A l c,.bool s',.slice A' l' c'] 30 #[.bool t,.slice B e k,.bool t',.slice B' e' k'] 30 #[.bool false,.slice none 0 0,.bool false,.slice none 0 0] 30;replace h:=h.below hB;replace h':=h'.below hB;have HX0:=zh x0;have HX1:=zh x1;have HX2:=zh x2;clear x0 x1 x2;have Bz:=zr W;obtain⟨pa0,pa1,pa2,pa3,-⟩:=(zxb HX0 Bz).cz;go_enter Tryz.func86,Tryz.ntmps86
 go_wp2_with fail
 rw[←hW];clear hW;go_wp2_with fail
 with_reducible refine(parts_r (R.below h) zo).mono ?_
 rintro e w1 ⟨n1,d1,s1,A1,c1,l1,s1r,A1r,c1r,l1r,rfl,h1,h1r,e1,q1,m1,m1r,b⟩;replace b:=zq (a:=W) b;replace h':=h'.below b;replace Bz:=bT Bz b;clear b;clear pa0 pa1 pa2 pa3;go_upto_region 2 with(fail)
 obtain⟨V1,hW,x3,x4,hN⟩:=boxes2 w1 #[.bool s1,.slice A1 l1 c1] 28 #[.bool s1r,.slice A1r l1r c1r] 28;rw[←hW];clear hW;obtain⟨v4,hb4⟩:=ze (w1.heap.size+1);rw[←hb4] at x4 ⊢;obtain⟨v3,hb3⟩:=ze w1.heap.size;rw[←hb3] at x3 ⊢;have o2_3:w.heap.size+1+1<v3:=zi (zxb HX2 Bz).lt;have ow_3:w.heap.size≤v3:=zi (zw hB Bz);have o2_4:w.heap.size+1+1<v4:=zi (zxb HX2 Bz).lt;have ow_4:w.heap.size≤v4:=zi (zw hB Bz);replace h1:=h1.below hN;replace h1r:=h1r.below hN;replace h':=h'.below hN;replace hB:=bT (bT hB Bz) hN;replace HX0:=zba HX0 Bz hN;replace HX1:=zba HX1 Bz hN;replace HX2:=zba HX2 Bz hN;have HX3:=zh x3;have HX4:=zh x4;clear x3 x4 hN Bz hb3 hb4;have Bz:=zr V1;obtain⟨pb0,pb1,pb2,pb3,-⟩:=(zxb HX1 Bz).cz;go_wp2_with fail
 with_reducible refine(parts_r (R.below h') zo).mono ?_
 rintro e w2 ⟨n2,d2,s2,A2,c2,l2,s2r,A2r,c2r,l2r,rfl,h2,h2r,e2,q2,m2,m2r,b⟩;replace b:=zq (a:=V1) b;replace h1:=h1.below b;replace h1r:=h1r.below b;replace Bz:=bT Bz b;clear b;clear pb0 pb1 pb2 pb3;go_upto_region 3 with(fail)
 obtain⟨V2,hW,x5,x6,hN⟩:=boxes2 w2 #[.bool s2,.slice A2 l2 c2] 28 #[.bool s2r,.slice A2r l2r c2r] 28;rw[←hW];clear hW;obtain⟨v6,hb6⟩:=ze (w2.heap.size+1);rw[←hb6] at x6 ⊢;obtain⟨v5,hb5⟩:=ze w2.heap.size;rw[←hb5] at x5 ⊢;have o2_5:w.heap.size+1+1<v5:=zi (zxb HX2 Bz).lt;have ow_5:w.heap.size≤v5:=zi (zw hB Bz);have o2_6:w.heap.size+1+1<v6:=zi (zxb HX2 Bz).lt;have ow_6:w.heap.size≤v6:=zi (zw hB Bz);replace h1:=h1.below hN;replace h1r:=h1r.below hN;replace h2:=h2.below hN;replace h2r:=h2r.below hN;replace hB:=bT (bT hB Bz) hN;replace HX0:=zba HX0 Bz hN;replace HX1:=zba HX1 Bz hN;replace HX2:=zba HX2 Bz hN;replace HX3:=zba HX3 Bz hN;replace HX4:=zba HX4 Bz hN;have HX5:=zh x5;have HX6:=zh x6;clear x5 x6 hN Bz hb5 hb6;have Bz:=zr V2;obtain⟨pc0,pc1,pc2,pc3,-⟩:=(zxb HX2 Bz).cz;obtain⟨y2,fc0,fc1,fc2,fc3,-⟩:=(zxb HX2 Bz).fz;obtain⟨pd0,pd1,-⟩:=(zxb HX3 Bz).cz;obtain⟨pe0,pe1,-⟩:=(zxb HX4 Bz).cz;obtain⟨pf0,pf1,-⟩:=(zxb HX5 Bz).cz;obtain⟨pg0,pg1,-⟩:=(zxb HX6 Bz).cz;go_wp2_with fail
 (try simp only[vAa,vBa,vC])
 refine zl (zz [0,1,3,4] (.only 2 (.only 5 (.only 6 (.only 7 .done))))) [7] (zsa pd0 (zsa pd1 (zsa pe0 (zsa pe1 (zsa pf0 (zsa pf1 (zsa pg0 (zIa pg1)))))))) ?_;iterate 4 (refine zUa ?_;try simp only[Act.put,uX,uY,uZ])
 refine zC 21 rfl rfl (fun K hK=>?_);go_simp
 with_reducible refine(mulq (I.below h1) (I.below h2) zo zo).mono ?_
 rintro e w3 ⟨s3,A3,c3,l3,rfl,h3,m3,b⟩;replace b:=zq (a:=V2) b;replace h1r:=h1r.below b;replace h2r:=h2r.below b;replace Bz:=bT Bz b;clear b;clear pc0 pc1 pc2 pc3 fc0 fc1 fc2 fc3 y2 pd0 pd1 pe0 pe1 pf0 pf1 pg0 pg1;obtain⟨pc0,pc1,pc2,pc3,-⟩:=(zxb HX2 Bz).cz;obtain⟨y2,fc0,fc1,fc2,fc3,-⟩:=(zxb HX2 Bz).fz;obtain⟨pd0,pd1,-⟩:=(zxb HX3 Bz).cz;obtain⟨pe0,pe1,-⟩:=(zxb HX4 Bz).cz;obtain⟨pf0,pf1,-⟩:=(zxb HX5 Bz).cz;obtain⟨pg0,pg1,-⟩:=(zxb HX6 Bz).cz;refine hK.out _ _ ⟨pd0,pd1,pe0,pe1,pf0,pf1,pg0,pg1⟩ (fun _=>?_);try simp only[Act.put,uX,uY,uZ]
 clear hK K;refine zC 24 rfl rfl (fun K hK=>?_);go_simp
 with_reducible refine(mulq (I.below h1r) (I.below h2r) zo zo).mono ?_
 rintro e w4 ⟨s4,A4,c4,l4,rfl,h4,m4,b⟩;replace b:=zq (a:=w3) b;replace h3:=h3.below b;replace Bz:=bT Bz b;clear b;clear pc0 pc1 pc2 pc3 fc0 fc1 fc2 fc3 y2 pd0 pd1 pe0 pe1 pf0 pf1 pg0 pg1;obtain⟨pc0,pc1,pc2,pc3,-⟩:=(zxb HX2 Bz).cz;obtain⟨y2,fc0,fc1,fc2,fc3,-⟩:=(zxb HX2 Bz).fz;obtain⟨pd0,pd1,-⟩:=(zxb HX3 Bz).cz;obtain⟨pe0,pe1,-⟩:=(zxb HX4 Bz).cz;obtain⟨pf0,pf1,-⟩:=(zxb HX5 Bz).cz;obtain⟨pg0,pg1,-⟩:=(zxb HX6 Bz).cz;refine hK.out _ _ ⟨pd0,pd1,pe0,pe1,pf0,pf1,pg0,pg1⟩ (fun _=>?_);try simp only[Act.put,uX,uY,uZ]
 clear hK K;refine zC 25 rfl rfl (fun K hK=>?_);go_simp
 with_reducible refine(lowest_r (I.below h3.i) (I.below h4.i) zo zo (cG e1 e2)).mono ?_
 rintro e w5 ⟨s5,A5,c5,l5,s5r,A5r,c5r,l5r,rfl,h5,b⟩;replace b:=zq (a:=w4) b;replace Bz:=bT Bz b;clear b;have m5:=h5.len;clear pc0 pc1 pc2 pc3 fc0 fc1 fc2 fc3 y2 pd0 pd1 pe0 pe1 pf0 pf1 pg0 pg1;obtain⟨pc0,pc1,pc2,pc3,-⟩:=(zxb HX2 Bz).cz;obtain⟨y2,fc0,fc1,fc2,fc3,-⟩:=(zxb HX2 Bz).fz;obtain⟨pd0,pd1,-⟩:=(zxb HX3 Bz).cz;obtain⟨pe0,pe1,-⟩:=(zxb HX4 Bz).cz;obtain⟨pf0,pf1,-⟩:=(zxb HX5 Bz).cz;obtain⟨pg0,pg1,-⟩:=(zxb HX6 Bz).cz;refine hK.out _ _ ⟨pd0,pd1,pe0,pe1,pf0,pf1,pg0,pg1⟩ (fun _=>?_);try simp only[Act.put,uX,uY,uZ]
 clear hK K;refine zAc (o:=⟨none,_,_,_,_,_⟩) rfl rfl zd (fun K hK=>?_);go_simp
 refine hK.out _ _ ?_;try simp only[Act.put,uX,uY,uZ]
 clear hK K;refine zAa ?_;go_wp2_with fail
 have qc0:w5.cell? ⟨w.heap.size+2,0,none⟩=some (.bool false):=pc0;have qc1:w5.cell? ⟨w.heap.size+2,1,none⟩=some (.slice none 0 0):=pc1;have qc2:w5.cell? ⟨w.heap.size+2,2,none⟩=some (.bool false):=pc2;have qc3:w5.cell? ⟨w.heap.size+2,3,none⟩=some (.slice none 0 0):=pc3;(try simp only[Exit.inBlock,Exit.then])
 refine bodyPost_ret (by simp[results,Tryz.results86,go_sem,qc0,qc1,qc2,qc3];try rfl) rfl ?_;obtain⟨V3,hW,x,kk,far,bel⟩:=store4 (.bool s5) (.slice A5 l5 c5) (.bool s5r) (.slice A5r l5r c5r) (zxb HX2 Bz) nofun nofun nofun nofun;rw[←hW];clear hW;replace h5:=h5.k kk;replace hB:=bel w.heap.size w zo (bT hB Bz);replace HX0:=zf far HX0 Bz;replace HX1:=zf far HX1 Bz;replace HX3:=zf far HX3 Bz;replace HX4:=zf far HX4 Bz;replace HX5:=zf far HX5 Bz;replace HX6:=zf far HX6 Bz;replace HX2:=zh x;clear x kk far bel Bz;have Bz:=zr V3;have hF:=bT (c:=V3) hB Bz;exact⟨s5,A5,c5,l5,s5r,A5r,c5r,l5r,rfl,by rw[←q1,←q2,←qof_mul];exact(RN.below h5),bT hF⟩
theorem add_r4 {q r:Rat} {m m':Nat} (h:R w s A c l s' A' c' l' q m) (h':R w t B k e t' B' k' e' r m') (hm:m+m'≤7200) :
  Calls Tryz.prog 117 #[.agg #[.bool s,.slice A l c,.bool s',.slice A' l' c'],.agg #[.bool t,.slice B e k,.bool t',.slice B' e' k']] w (TellsR w (q+r)):=by
 obtain⟨W,hW,x0,x1,x2,hB⟩:=boxes3 w #[.bool s,.slice A l c,.bool s',.slice A' l' c'] 30 #[.bool t,.slice B e k,.bool t',.slice B' e' k'] 30 #[.bool false,.slice none 0 0,.bool false,.slice none 0 0] 30;replace h:=h.below hB;replace h':=h'.below hB;have HX0:=zh x0;have HX1:=zh x1;have HX2:=zh x2;clear x0 x1 x2;have Bz:=zr W;obtain⟨pa0,pa1,pa2,pa3,-⟩:=(zxb HX0 Bz).cz;go_enter Tryz.func117,Tryz.ntmps117
 go_wp2_with fail
 rw[←hW];clear hW;go_wp2_with fail
 with_reducible refine(parts_r (R.below h) zo).mono ?_
 rintro e w1 ⟨n1,d1,s1,A1,c1,l1,s1r,A1r,c1r,l1r,rfl,h1,h1r,e1,q1,m1,m1r,b⟩;replace b:=zq (a:=W) b;replace h':=h'.below b;replace Bz:=bT Bz b;clear b;clear pa0 pa1 pa2 pa3;go_upto_region 2 with(fail)
 obtain⟨V1,hW,x3,x4,hN⟩:=boxes2 w1 #[.bool s1,.slice A1 l1 c1] 28 #[.bool s1r,.slice A1r l1r c1r] 28;rw[←hW];clear hW;obtain⟨v4,hb4⟩:=ze (w1.heap.size+1);rw[←hb4] at x4 ⊢;obtain⟨v3,hb3⟩:=ze w1.heap.size;rw[←hb3] at x3 ⊢;have o2_3:w.heap.size+1+1<v3:=zi (zxb HX2 Bz).lt;have ow_3:w.heap.size≤v3:=zi (zw hB Bz);have o2_4:w.heap.size+1+1<v4:=zi (zxb HX2 Bz).lt;have ow_4:w.heap.size≤v4:=zi (zw hB Bz);replace h1:=h1.below hN;replace h1r:=h1r.below hN;replace h':=h'.below hN;replace hB:=bT (bT hB Bz) hN;replace HX0:=zba HX0 Bz hN;replace HX1:=zba HX1 Bz hN;replace HX2:=zba HX2 Bz hN;have HX3:=zh x3;have HX4:=zh x4;clear x3 x4 hN Bz hb3 hb4;have Bz:=zr V1;obtain⟨pb0,pb1,pb2,pb3,-⟩:=(zxb HX1 Bz).cz;go_wp2_with fail
 with_reducible refine(parts_r (R.below h') zo).mono ?_
 rintro e w2 ⟨n2,d2,s2,A2,c2,l2,s2r,A2r,c2r,l2r,rfl,h2,h2r,e2,q2,m2,m2r,b⟩;replace b:=zq (a:=V1) b;replace h1:=h1.below b;replace h1r:=h1r.below b;replace Bz:=bT Bz b;clear b;clear pb0 pb1 pb2 pb3;go_upto_region 3 with(fail)
 obtain⟨V2,hW,x5,x6,hN⟩:=boxes2 w2 #[.bool s2,.slice A2 l2 c2] 28 #[.bool s2r,.slice A2r l2r c2r] 28;rw[←hW];clear hW;obtain⟨v6,hb6⟩:=ze (w2.heap.size+1);rw[←hb6] at x6 ⊢;obtain⟨v5,hb5⟩:=ze w2.heap.size;rw[←hb5] at x5 ⊢;have o2_5:w.heap.size+1+1<v5:=zi (zxb HX2 Bz).lt;have ow_5:w.heap.size≤v5:=zi (zw hB Bz);have o2_6:w.heap.size+1+1<v6:=zi (zxb HX2 Bz).lt;have ow_6:w.heap.size≤v6:=zi (zw hB Bz);replace h1:=h1.below hN;replace h1r:=h1r.below hN;replace h2:=h2.below hN;replace h2r:=h2r.below hN;replace hB:=bT (bT hB Bz) hN;replace HX0:=zba HX0 Bz hN;replace HX1:=zba HX1 Bz hN;replace HX2:=zba HX2 Bz hN;replace HX3:=zba HX3 Bz hN;replace HX4:=zba HX4 Bz hN;have HX5:=zh x5;have HX6:=zh x6;clear x5 x6 hN Bz hb5 hb6;have Bz:=zr V2;obtain⟨pc0,pc1,pc2,pc3,-⟩:=(zxb HX2 Bz).cz;obtain⟨y2,fc0,fc1,fc2,fc3,-⟩:=(zxb HX2 Bz).fz;obtain⟨pd0,pd1,-⟩:=(zxb HX3 Bz).cz;obtain⟨pe0,pe1,-⟩:=(zxb HX4 Bz).cz;obtain⟨pf0,pf1,-⟩:=(zxb HX5 Bz).cz;obtain⟨pg0,pg1,-⟩:=(zxb HX6 Bz).cz;go_wp2_with fail
 (try simp only[vAa,vBa,vC])
 refine zl (zz [0,1,3,4,7,8] (.only 2 (.only 5 (.only 6 (.only 9 (.only 10 (.only 11 .done))))))) [11] (zsa pd0 (zsa pd1 (zsa pe0 (zsa pe1 (zsa pf0 (zsa pf1 (zsa pg0 (zIa pg1)))))))) ?_;iterate 6 (refine zUa ?_;try simp only[Act.put,uX,uY,uZ])
 refine zC 21 rfl rfl (fun K hK=>?_);go_simp
 with_reducible refine(mulq (I.below h1) (I.below h2r) zo zo).mono ?_
 rintro e w3 ⟨s3,A3,c3,l3,rfl,h3,m3,b⟩;replace b:=zq (a:=V2) b;replace h1r:=h1r.below b;replace h2:=h2.below b;replace h2r:=h2r.below b;replace Bz:=bT Bz b;clear b;clear pc0 pc1 pc2 pc3 fc0 fc1 fc2 fc3 y2 pd0 pd1 pe0 pe1 pf0 pf1 pg0 pg1;obtain⟨pc0,pc1,pc2,pc3,-⟩:=(zxb HX2 Bz).cz;obtain⟨y2,fc0,fc1,fc2,fc3,-⟩:=(zxb HX2 Bz).fz;obtain⟨pd0,pd1,-⟩:=(zxb HX3 Bz).cz;obtain⟨pe0,pe1,-⟩:=(zxb HX4 Bz).cz;obtain⟨pf0,pf1,-⟩:=(zxb HX5 Bz).cz;obtain⟨pg0,pg1,-⟩:=(zxb HX6 Bz).cz;refine hK.out _ _ ⟨pd0,pd1,pe0,pe1,pf0,pf1,pg0,pg1⟩ (fun _=>?_);try simp only[Act.put,uX,uY,uZ]
 clear hK K;refine zC 24 rfl rfl (fun K hK=>?_);go_simp
 with_reducible refine(mulq (I.below h2) (I.below h1r) zo zo).mono ?_
 rintro e w4 ⟨s4,A4,c4,l4,rfl,h4,m4,b⟩;replace b:=zq (a:=w3) b;replace h1r:=h1r.below b;replace h2r:=h2r.below b;replace h3:=h3.below b;replace Bz:=bT Bz b;clear b;clear pc0 pc1 pc2 pc3 fc0 fc1 fc2 fc3 y2 pd0 pd1 pe0 pe1 pf0 pf1 pg0 pg1;obtain⟨pc0,pc1,pc2,pc3,-⟩:=(zxb HX2 Bz).cz;obtain⟨y2,fc0,fc1,fc2,fc3,-⟩:=(zxb HX2 Bz).fz;obtain⟨pd0,pd1,-⟩:=(zxb HX3 Bz).cz;obtain⟨pe0,pe1,-⟩:=(zxb HX4 Bz).cz;obtain⟨pf0,pf1,-⟩:=(zxb HX5 Bz).cz;obtain⟨pg0,pg1,-⟩:=(zxb HX6 Bz).cz;refine hK.out _ _ ⟨pd0,pd1,pe0,pe1,pf0,pf1,pg0,pg1⟩ (fun _=>?_);try simp only[Act.put,uX,uY,uZ]
 clear hK K;refine zC 25 rfl rfl (fun K hK=>?_);go_simp
 with_reducible refine(addq (I.below h3.i) (I.below h4.i) zo zo).mono ?_
 rintro e w5 ⟨s5,A5,c5,l5,rfl,h5,m5,b⟩;replace b:=zq (a:=w4) b;replace h1r:=h1r.below b;replace h2r:=h2r.below b;replace Bz:=bT Bz b;clear b;clear pc0 pc1 pc2 pc3 fc0 fc1 fc2 fc3 y2 pd0 pd1 pe0 pe1 pf0 pf1 pg0 pg1;obtain⟨pc0,pc1,pc2,pc3,-⟩:=(zxb HX2 Bz).cz;obtain⟨y2,fc0,fc1,fc2,fc3,-⟩:=(zxb HX2 Bz).fz;obtain⟨pd0,pd1,-⟩:=(zxb HX3 Bz).cz;obtain⟨pe0,pe1,-⟩:=(zxb HX4 Bz).cz;obtain⟨pf0,pf1,-⟩:=(zxb HX5 Bz).cz;obtain⟨pg0,pg1,-⟩:=(zxb HX6 Bz).cz;refine hK.out _ _ ⟨pd0,pd1,pe0,pe1,pf0,pf1,pg0,pg1⟩ (fun _=>?_);try simp only[Act.put,uX,uY,uZ]
 clear hK K;refine zC 28 rfl rfl (fun K hK=>?_);go_simp
 with_reducible refine(mulq (I.below h1r) (I.below h2r) zo zo).mono ?_
 rintro e w6 ⟨s6,A6,c6,l6,rfl,h6,m6,b⟩;replace b:=zq (a:=w5) b;replace h5:=h5.below b;replace Bz:=bT Bz b;clear b;clear pc0 pc1 pc2 pc3 fc0 fc1 fc2 fc3 y2 pd0 pd1 pe0 pe1 pf0 pf1 pg0 pg1;obtain⟨pc0,pc1,pc2,pc3,-⟩:=(zxb HX2 Bz).cz;obtain⟨y2,fc0,fc1,fc2,fc3,-⟩:=(zxb HX2 Bz).fz;obtain⟨pd0,pd1,-⟩:=(zxb HX3 Bz).cz;obtain⟨pe0,pe1,-⟩:=(zxb HX4 Bz).cz;obtain⟨pf0,pf1,-⟩:=(zxb HX5 Bz).cz;obtain⟨pg0,pg1,-⟩:=(zxb HX6 Bz).cz;refine hK.out _ _ ⟨pd0,pd1,pe0,pe1,pf0,pf1,pg0,pg1⟩ (fun _=>?_);try simp only[Act.put,uX,uY,uZ]
 clear hK K;refine zC 29 rfl rfl (fun K hK=>?_);go_simp
 with_reducible refine(lowest_r (I.below h5.i) (I.below h6.i) zo zo (cG e1 e2)).mono ?_
 rintro e w7 ⟨s7,A7,c7,l7,s7r,A7r,c7r,l7r,rfl,h7,b⟩;replace b:=zq (a:=w6) b;replace Bz:=bT Bz b;clear b;have m7:=h7.len;clear pc0 pc1 pc2 pc3 fc0 fc1 fc2 fc3 y2 pd0 pd1 pe0 pe1 pf0 pf1 pg0 pg1;obtain⟨pc0,pc1,pc2,pc3,-⟩:=(zxb HX2 Bz).cz;obtain⟨y2,fc0,fc1,fc2,fc3,-⟩:=(zxb HX2 Bz).fz;obtain⟨pd0,pd1,-⟩:=(zxb HX3 Bz).cz;obtain⟨pe0,pe1,-⟩:=(zxb HX4 Bz).cz;obtain⟨pf0,pf1,-⟩:=(zxb HX5 Bz).cz;obtain⟨pg0,pg1,-⟩:=(zxb HX6 Bz).cz;refine hK.out _ _ ⟨pd0,pd1,pe0,pe1,pf0,pf1,pg0,pg1⟩ (fun _=>?_);try simp only[Act.put,uX,uY,uZ]
 clear hK K;refine zAc (o:=⟨none,_,_,_,_,_⟩) rfl rfl zd (fun K hK=>?_);go_simp
 refine hK.out _ _ ?_;try simp only[Act.put,uX,uY,uZ]
 clear hK K;refine zAa ?_;go_wp2_with fail
 have qc0:w7.cell? ⟨w.heap.size+2,0,none⟩=some (.bool false):=pc0;have qc1:w7.cell? ⟨w.heap.size+2,1,none⟩=some (.slice none 0 0):=pc1;have qc2:w7.cell? ⟨w.heap.size+2,2,none⟩=some (.bool false):=pc2;have qc3:w7.cell? ⟨w.heap.size+2,3,none⟩=some (.slice none 0 0):=pc3;(try simp only[Exit.inBlock,Exit.then])
 refine bodyPost_ret (by simp[results,Tryz.results117,go_sem,qc0,qc1,qc2,qc3];try rfl) rfl ?_;obtain⟨V3,hW,x,kk,far,bel⟩:=store4 (.bool s7) (.slice A7 l7 c7) (.bool s7r) (.slice A7r l7r c7r) (zxb HX2 Bz) nofun nofun nofun nofun;rw[←hW];clear hW;replace h7:=h7.k kk;replace hB:=bel w.heap.size w zo (bT hB Bz);replace HX0:=zf far HX0 Bz;replace HX1:=zf far HX1 Bz;replace HX3:=zf far HX3 Bz;replace HX4:=zf far HX4 Bz;replace HX5:=zf far HX5 Bz;replace HX6:=zf far HX6 Bz;replace HX2:=zh x;clear x kk far bel Bz;have Bz:=zr V3;have hF:=bT (c:=V3) hB Bz;exact⟨s7,A7,c7,l7,s7r,A7r,c7r,l7r,rfl,by rw[←q1,←q2,←qof_add zo zo];exact(RN.below h7),bT hF⟩
theorem sign_r4 {q:Rat} {m:Nat} (h:R w s A c l s' A' c' l' q m) (hm:m≤15200) (z:Int) (hz:Hid (q.num.sign=z)) :
  Calls Tryz.prog 46 #[.agg #[.bool s,.slice A l c,.bool s',.slice A' l' c']] w fun e w'=>e=.returned (.int .i64 z)∧Below w.heap.size w w':=by
 obtain⟨W,hW,x0,hB⟩:=zAe w #[.bool s,.slice A l c,.bool s',.slice A' l' c'] 30;replace h:=h.below hB;have HX0:=zh x0;clear x0;have Bz:=zr W;obtain⟨pa0,pa1,pa2,pa3,-⟩:=(zxb HX0 Bz).cz;go_enter Tryz.func46,Tryz.ntmps46
 go_wp2_with fail
 rw[←hW];clear hW;go_wp2_with fail
 with_reducible refine(parts_r (R.below h) zo).mono ?_
 rintro e w1 ⟨n1,d1,s1,A1,c1,l1,s1r,A1r,c1r,l1r,rfl,h1,h1r,e1,q1,m1,m1r,b⟩;replace b:=zq (a:=W) b;replace Bz:=bT Bz b;clear h1r;clear b;clear pa0 pa1 pa2 pa3;go_upto_region 2 with(fail)
 obtain⟨V1,hW,x1,x2,hN⟩:=boxes2 w1 #[.bool s1,.slice A1 l1 c1] 28 #[.bool s1r,.slice A1r l1r c1r] 28;rw[←hW];clear hW;obtain⟨v2,hb2⟩:=ze (w1.heap.size+1);rw[←hb2] at x2 ⊢;obtain⟨v1,hb1⟩:=ze w1.heap.size;rw[←hb1] at x1 ⊢;have ow_1:w.heap.size≤v1:=zi (zw hB Bz);have ow_2:w.heap.size≤v2:=zi (zw hB Bz);replace h1:=h1.below hN;replace hB:=bT (bT hB Bz) hN;replace HX0:=zba HX0 Bz hN;have HX1:=zh x1;have HX2:=zh x2;clear x1 x2 hN Bz hb1 hb2;have Bz:=zr V1;obtain⟨pb0,pb1,-⟩:=(zxb HX1 Bz).cz;go_wp2_with fail
 with_reducible refine(sign_r (I.below h1) zo z (by rw[qof_sign e1,q1,←sign_num];exact hz.out)).mono ?_
 rintro e w2 ⟨rfl,b⟩;replace b:=zq (a:=V1) b;replace Bz:=bT Bz b;clear b;clear pb0 pb1;go_wp2_with fail
 go_ret
 have hF:=bT (c:=w2) hB Bz;exact⟨rfl,bT hF⟩
end
end Go.Proofs.YteggjbgbknkoiaaGreatDoor
