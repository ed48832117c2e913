import Derived.Test.YteggjbgbknkoiaaGreatDoorUMx2
import Derived.Test.YteggjbgbknkoiaaGreatDoorURf
import Derived.Test.YteggjbgbknkoiaaGreatDoorUMxT
set_option maxHeartbeats 8000000
set_option maxRecDepth 100000
namespace Go.Proofs.YteggjbgbknkoiaaGreatDoor
open Go.RowKit Tw
theorem make_r4 {w:World} {s s':Bool} {A A':Option Addr} {l c l' c':Nat} {n d:Int} (hn:I w s A c l n) (hd:I w s' A' c' l' d) (hl:l≤7200) (hl':l'≤7200) (hd0:0<d) :
  Calls Tryz.prog 87 #[.agg #[.bool s,.slice A l c],.agg #[.bool s',.slice A' l' c']] w (TellsR w (qof n d)):=by
 have HS:Hid (d.sign=1):=zh (qD hd0);obtain⟨W,hW,x0,x1,x2,hB⟩:=boxes3 w #[.bool s,.slice A l c] 28 #[.bool s',.slice A' l' c'] 28 #[.bool false,.slice none 0 0,.bool false,.slice none 0 0] 30;replace hd:=hd.below hB;replace hn:=hn.below hB;have HX0:=zh x0;have HX1:=zh x1;have HX2:=zh x2;clear x0 x1 x2;have Bz:=zr W;obtain⟨pb0,pb1,-⟩:=(zxb HX1 Bz).cz;go_enter Tryz.func87,Tryz.ntmps87
 go_wp2_with fail
 rw[←hW];clear hW;go_wp2_with fail
 with_reducible refine(sign_r (I.below hd) zo 1 HS.out).mono ?_
 rintro e w1 ⟨rfl,q⟩;replace q:=zq (a:=W) q;replace hd:=hd.below q;replace hn:=hn.below q;replace Bz:=bT Bz q;clear q;clear pb0 pb1;obtain⟨pa0,pa1,-⟩:=(zxb HX0 Bz).cz;obtain⟨pb0,pb1,-⟩:=(zxb HX1 Bz).cz;go_wp2_with fail
 with_reducible refine(lowest_r (I.below hn) (I.below hd) zo zo hd0).mono ?_
 rintro e w2 ⟨s2,A2,c2,l2,s2r,A2r,c2r,l2r,rfl,h2,q⟩;replace q:=zq (a:=w1) q;replace Bz:=bT Bz q;clear q;clear pa0 pa1 pb0 pb1;obtain⟨pc0,pc1,pc2,pc3,-⟩:=(zxb HX2 Bz).cz;obtain⟨y2,fc0,fc1,fc2,fc3,-⟩:=(zxb HX2 Bz).fz;go_wp2_with fail
 have qc0:w2.cell? ⟨w.heap.size+2,0,none⟩=some (.bool false):=pc0;have qc1:w2.cell? ⟨w.heap.size+2,1,none⟩=some (.slice none 0 0):=pc1;have qc2:w2.cell? ⟨w.heap.size+2,2,none⟩=some (.bool false):=pc2;have qc3:w2.cell? ⟨w.heap.size+2,3,none⟩=some (.slice none 0 0):=pc3;(try simp only[Exit.inBlock,Exit.then])
 refine bodyPost_ret (by simp[results,Tryz.results87,go_sem,qc0,qc1,qc2,qc3];try rfl) rfl ?_;obtain⟨V1,hW,x,kk,far,bel⟩:=store4 (.bool s2) (.slice A2 l2 c2) (.bool s2r) (.slice A2r l2r c2r) (zxb HX2 Bz) nofun nofun nofun nofun;rw[←hW];clear hW;replace h2:=h2.k kk;replace hB:=bel w.heap.size w zo (bT hB Bz);replace HX0:=zf far HX0 Bz;replace HX1:=zf far HX1 Bz;replace HX2:=zh x;clear x kk far bel Bz;have Bz:=zr V1;have hF:=bT (c:=V1) hB Bz;exact⟨s2,A2,c2,l2,s2r,A2r,c2r,l2r,rfl,(RN.below h2),bT hF⟩
theorem getR_q {w:World} {A:Option Addr} {n c M:Nat} {P:List (Int×Rat)} (at_:Int) (h:GV w A n c P M) (hM:M≤7190) (hn:n≤19) :
  Calls Tryz.prog 82 #[.slice A n c,.int .i64 at_] w (TellsR w (pget P at_)):=by
 obtain⟨L,h1,h2,rfl,h4,h5⟩:=h;have HS:=zh h1;have HLN:=zh h1.1;have HOK:=zh h2;have HWS:=zh h4;clear h1 h2 h4 h5;obtain⟨W,hW,x0,x1,hB⟩:=boxes2 w #[.bool false,.slice none 0 0,.bool false,.slice none 0 0] 30 #[.bool false,.slice none 0 0,.bool false,.slice none 0 0] 30;have HX0:=zh x0;have HX1:=zh x1;clear x0 x1;have Bz:=zr W;go_enter Tryz.func82,Tryz.ntmps82
 go_wp2_with fail
 rw[←hW];clear hW;go_wp2_with fail
 have HB1:=zh (bT hB Bz);have XX0:=zh (zxb HX0 Bz);have XX1:=zh (zxb HX1 Bz);clear hB Bz HX0 HX1;go_loopg [6] n (fun gk s wr=>GT1 w L at_ n gk s wr)
 case atStart=>exact⟨0,_,_,_,_,_,_,_,_,nA _,rfl,rfl,RN.zero _,XX0.out,XX1.out,HB1.out⟩
 case round =>
  clear HB1 XX0 XX1;obtain⟨i,sS,sA,sc,sl,sS',sA',sc',sl',hi,hgk,rfl,hs,hx0,hx1,hB⟩:=hrel;have HGK:=zh hgk;have HX0:=zh hx0;have HX1:=zh hx1;clear hgk hx0 hx1;by_cases hlt:i<n
  ·obtain⟨b,off,rfl,hel⟩:=HS.out.at Tm.cs_len zo zo;obtain⟨x,hx⟩:∃x,L[i]?=some x:=⟨L[i]'(by rw[HLN.out];exact hlt),aA _⟩;have hnd:=hel i x hx;have hfx:=HOK.out x (dA hx);have hrx:R wr x.x.s x.x.A x.x.c x.x.l x.x.s' x.x.A' x.x.c' x.x.l' x.x.q (dgT x):=(hfx.below hB).r;have hss:sz (pget (prs (L.take i)) at_)≤wsum (L.take i) at_+1:=get_sz (fun t ht=>HOK.out t (dG ht)) at_;have hws:wsum (L.take i) at_+(if x.at_=at_ then dgT x+2 else 0)≤M:=by rw[←wsum_snoc hx];exact kA (wsum_take_le L (i+1) at_) (HWS.out at_)
   have hpt:=pget_take hx at_;have i1:(i:Int)<(n:Int):=zo;have i2:(0:Int)≤(i:Int):=zo;clear hel hx hfx;by_cases hq:x.at_=at_
   ·have g1:(x.at_==at_)=true:=by simpa using hq
    have HSM:Hid (pget (prs (L.take i)) at_+x.x.q=pget (prs (L.take (i+1))) at_):=zh (by rw[hpt,gA hq]);rw[gA hq] at hws;clear hpt hq;have Bz:=zr wr;obtain⟨pb0,pb1,pb2,pb3,-⟩:=(zxb HX1 Bz).cz;obtain⟨y1,fb0,fb1,fb2,fb3,-⟩:=(zxb HX1 Bz).fz;obtain⟨pA0,pA1,pA2,pA3,pA4,-⟩:=(hnd.below (bT hB Bz)).ez;go_wp2_with fail
    (try simp only[vAa,vBa,vC])
    refine zl (.take 0 (.pure 1 (.pure 2 (.pure 3 (.pure 4 (.take 5 (.only 6 (.only 7 .done)))))))) [7] (zsa pb0 (zsa pb1 (zsa pb2 (zsa pb3 (zsa pA1 (zsa pA2 (zsa pA3 (zIa pA4)))))))) ?_;iterate 6 ((first|refine zUa ?_|refine zV ?_);try simp only[uW,uX,uY,uZ])
    refine zC 26 rfl rfl (fun K hK=>?_);go_simp
    with_reducible refine(add_r4 (R.below hs.r) (R.below hrx) zo).mono ?_
    rintro e w1 ⟨s1,A1,c1,l1,s1r,A1r,c1r,l1r,rfl,h1,z⟩;replace z:=zq (a:=wr) z;replace Bz:=bT Bz z;clear z;clear pb0 pb1 pb2 pb3 fb0 fb1 fb2 fb3 y1 pA0 pA1 pA2 pA3 pA4;obtain⟨pb0,pb1,pb2,pb3,-⟩:=(zxb HX1 Bz).cz;obtain⟨y1,fb0,fb1,fb2,fb3,-⟩:=(zxb HX1 Bz).fz;obtain⟨-,pA1,pA2,pA3,pA4,-⟩:=(hnd.below (bT hB Bz)).ez;refine hK.out _ _ ⟨pb0,pb1,pb2,pb3,pA1,pA2,pA3,pA4⟩ (fun _=>?_);try simp only[uW,uX,uY,uZ]
    clear hK K;refine zAc (o:=⟨none,_,_,_,_,_⟩) rfl rfl zd (fun K hK=>?_);go_simp
    refine hK.out _ _ ?_;try simp only[Act.put,uX,uY,uZ]
    clear hK K;refine zAa ?_;obtain⟨V1,hW,x,kk,far,bel⟩:=store4 (.bool s1) (.slice A1 l1 c1) (.bool s1r) (.slice A1r l1r c1r) (zxb HX1 Bz) nofun nofun nofun nofun;rw[←hW];clear hW;replace h1:=h1.k kk;replace hB:=bel w.heap.size w zo (bT hB Bz);replace HX0:=zf far HX0 Bz;replace HX1:=zh x;clear x kk far bel Bz;have Bz:=zr V1;clear pb0 pb1 pb2 pb3 fb0 fb1 fb2 fb3 y1 pA1 pA2 pA3 pA4;go_wp2_with fail
    go_roundg (n-(i+1))
    case measure=>have:=HGK.out;omega
    case rel=>exact⟨i+1,_,_,_,_,_,_,_,_,zo,rfl,by go_num,by rw[←HSM.out];exact RN.below h1,HX0.out.below (bT Bz),HX1.out.below (bT Bz),bT (bT hB Bz)⟩
   ·have g1:(x.at_==at_)=false:=by simpa using hq
    have HSM:Hid (pget (prs (L.take i)) at_=pget (prs (L.take (i+1))) at_):=zh (by rw[hpt,fA hq,uC]);clear hpt hq hws;have Bz:=zr wr;have pA0:=(hnd.below (bT hB Bz)).c0 (u:=.int .i64 x.at_) rfl;go_wp2_with fail
    go_roundg (n-(i+1))
    case measure=>have:=HGK.out;omega
    case rel=>exact⟨i+1,_,_,_,_,_,_,_,_,zo,rfl,by go_num,by rw[←HSM.out];exact RN.below hs,HX0.out.below (bT Bz),HX1.out.below (bT Bz),bT (bT hB Bz)⟩
  ·obtain rfl:i=n:=zo;have i1:¬(i:Int)<(i:Int):=zo;have HEND:Hid (pget (prs (L.take i)) at_=pget (prs L) at_):=zh (by rw[eA (by rw[HLN.out];exact cA _)]);have Bz:=zr wr;obtain⟨pa0,pa1,pa2,pa3,-⟩:=(zxb HX0 Bz).cz;obtain⟨y0,fa0,fa1,fa2,fa3,-⟩:=(zxb HX0 Bz).fz;obtain⟨pb0,pb1,pb2,pb3,-⟩:=(zxb HX1 Bz).cz;go_wp2_with fail
   (try simp only[Exit.inBlock,Exit.then])
   refine bodyPost_ret (by simp[results,Tryz.results82,go_sem,pa0,pa1,pa2,pa3];try rfl) rfl ?_;obtain⟨V1,hW,x,kk,far,bel⟩:=store4 (.bool sS) (.slice sA sl sc) (.bool sS') (.slice sA' sl' sc') (zxb HX0 Bz) nofun nofun nofun nofun;rw[←hW];clear hW;replace hs:=hs.k kk;replace hB:=bel w.heap.size w zo (bT hB Bz);replace HX1:=zf far HX1 Bz;replace HX0:=zh x;clear x kk far bel Bz;have Bz:=zr V1;have hF:=bT (c:=V1) hB Bz;exact⟨_,_,_,_,_,_,_,_,rfl,by rw[←HEND.out];exact RN.below hs,bT hF⟩
theorem Sl.off {α:Type} {f:α→List Value} {k:Nat} {w V:World} {b n c:Nat} {A:Option Addr} {L:List α} (h:Sl f k w A n c L) (ho:∀(k j:Nat),k≠b→V.cell? ⟨k,j,none⟩=w.cell? ⟨k,j,none⟩) (hA:∀a,A=some a→a.block≠b):Sl f k V A n c L:=by
 obtain⟨h1,h2,A',c',e,h3,h4⟩:=h;cases e;refine⟨h1,h2,A,c,rfl,h3,fun a ha j u hu=>?_⟩;have h5:=h4 a ha j u hu;have h6:=World.cell?_spot h5;have h7:(a.add j).block=a.block:=by unfold Addr.add;split<;>rfl
 rw[←h5];have h8:a.add j=⟨a.block,(a.add j).off,none⟩:=by
  rw[←h7,←h6]
 rw[h8];exact ho _ _ (hA a ha)
section
variable {w:World} {s s' t t':Bool} {A A' B B':Option Addr} {c c' l l' e e' k k':Nat}
set_option maxHeartbeats 4000000
theorem make_r4n {n d:Int} (hn:I w s A c l n) (hd:I w s' A' c' l' d) (hl:l≤7200) (hl':l'≤7200) (hd0:d<0) :
  Calls Tryz.prog 87 #[.agg #[.bool s,.slice A l c],.agg #[.bool s',.slice A' l' c']] w (TellsR w (qof n d)):=by
 have HS:Hid (d.sign = -1):=zh (gD hd0);obtain⟨W,hW,x0,x1,x2,hB⟩:=boxes3 w #[.bool s,.slice A l c] 28 #[.bool s',.slice A' l' c'] 28 #[.bool false,.slice none 0 0,.bool false,.slice none 0 0] 30;replace hd:=hd.below hB;replace hn:=hn.below hB;have HX0:=zh x0;have HX1:=zh x1;have HX2:=zh x2;clear x0 x1 x2;have Bz:=zr W;obtain⟨pb0,pb1,-⟩:=(zxb HX1 Bz).cz;go_enter Tryz.func87,Tryz.ntmps87
 go_wp2_with fail
 rw[←hW];clear hW;go_wp2_with fail
 with_reducible refine(sign_r (I.below hd) zo (-1) HS.out).mono ?_
 rintro e w1 ⟨rfl,q⟩;replace q:=zq (a:=W) q;replace hd:=hd.below q;replace hn:=hn.below q;replace Bz:=bT Bz q;clear q;clear pb0 pb1;obtain⟨pa0,pa1,-⟩:=(zxb HX0 Bz).cz;go_wp2_with fail
 with_reducible refine(neg_r (I.below hn) zo).mono ?_
 rintro e w2 ⟨s2,A2,c2,l2,rfl,h2,m2,q⟩;replace q:=zq (a:=w1) q;replace hd:=hd.below q;replace Bz:=bT Bz q;clear q;clear pa0 pa1;obtain⟨pa0,pa1,-⟩:=(zxb HX0 Bz).cz;obtain⟨y0,fa0,fa1,-⟩:=(zxb HX0 Bz).fz;go_upto_region 6 with(fail)
 obtain⟨V1,hW,x,kk,far,bel⟩:=zAk (.bool s2) (.slice A2 l2 c2) (zxb HX0 Bz) nofun nofun;rw[←hW];clear hW;replace hd:=hd.k kk;replace h2:=h2.k kk;replace hB:=bel w.heap.size w zo (bT hB Bz);replace HX1:=zf far HX1 Bz;replace HX2:=zf far HX2 Bz;replace HX0:=zh x;clear x kk far bel Bz;have Bz:=zr V1;clear pa0 pa1 fa0 fa1 y0;obtain⟨pb0,pb1,-⟩:=(zxb HX1 Bz).cz;go_wp2_with fail
 with_reducible refine(neg_r (I.below hd) zo).mono ?_
 rintro e w3 ⟨s3,A3,c3,l3,rfl,h3,m3,q⟩;replace q:=zq (a:=V1) q;replace h2:=h2.below q;replace Bz:=bT Bz q;clear q;clear pb0 pb1;obtain⟨pb0,pb1,-⟩:=(zxb HX1 Bz).cz;obtain⟨y1,fb0,fb1,-⟩:=(zxb HX1 Bz).fz;go_upto_region 7 with(fail)
 obtain⟨V2,hW,x,kk,far,bel⟩:=zAk (.bool s3) (.slice A3 l3 c3) (zxb HX1 Bz) nofun nofun;rw[←hW];clear hW;replace h2:=h2.k kk;replace h3:=h3.k kk;replace hB:=bel w.heap.size w zo (bT hB Bz);replace HX0:=zf far HX0 Bz;replace HX2:=zf far HX2 Bz;replace HX1:=zh x;clear x kk far bel Bz;have Bz:=zr V2;clear pb0 pb1 fb0 fb1 y1;obtain⟨pa0,pa1,-⟩:=(zxb HX0 Bz).cz;obtain⟨pb0,pb1,-⟩:=(zxb HX1 Bz).cz;go_wp2_with fail
 with_reducible refine(lowest_r (I.below h2.i) (I.below h3.i) zo zo zo).mono ?_
 rintro e w4 ⟨s4,A4,c4,l4,s4r,A4r,c4r,l4r,rfl,h4,q⟩;replace q:=zq (a:=V2) q;replace Bz:=bT Bz q;clear q;clear pa0 pa1 pb0 pb1;obtain⟨pc0,pc1,pc2,pc3,-⟩:=(zxb HX2 Bz).cz;obtain⟨y2,fc0,fc1,fc2,fc3,-⟩:=(zxb HX2 Bz).fz;go_wp2_with fail
 have qc0:w4.cell? ⟨w.heap.size+2,0,none⟩=some (.bool false):=pc0;have qc1:w4.cell? ⟨w.heap.size+2,1,none⟩=some (.slice none 0 0):=pc1;have qc2:w4.cell? ⟨w.heap.size+2,2,none⟩=some (.bool false):=pc2;have qc3:w4.cell? ⟨w.heap.size+2,3,none⟩=some (.slice none 0 0):=pc3;(try simp only[Exit.inBlock,Exit.then])
 refine bodyPost_ret (by simp[results,Tryz.results87,go_sem,qc0,qc1,qc2,qc3];try rfl) rfl ?_;obtain⟨V3,hW,x,kk,far,bel⟩:=store4 (.bool s4) (.slice A4 l4 c4) (.bool s4r) (.slice A4r l4r c4r) (zxb HX2 Bz) nofun nofun nofun nofun;rw[←hW];clear hW;replace h4:=h4.k kk;replace hB:=bel w.heap.size w zo (bT hB Bz);replace HX0:=zf far HX0 Bz;replace HX1:=zf far HX1 Bz;replace HX2:=zh x;clear x kk far bel Bz;have Bz:=zr V3;have hF:=bT (c:=V3) hB Bz;exact⟨s4,A4,c4,l4,s4r,A4r,c4r,l4r,rfl,by rw[←qof_neg];exact(RN.below h4),bT hF⟩
theorem make_r4a {n d:Int} (hn:I w s A c l n) (hd:I w s' A' c' l' d) (hl:l≤7200) (hl':l'≤7200) (hd0:d≠0) :
  Calls Tryz.prog 87 #[.agg #[.bool s,.slice A l c],.agg #[.bool s',.slice A' l' c']] w (TellsR w (qof n d)):=by
 rcases gE d 0 with h | h | h
 ·exact make_r4n hn hd hl hl' h
 ·exact absurd h hd0
 ·exact make_r4 hn hd hl hl' h
theorem neg_r4 {q:Rat} {m:Nat} (h:R w s A c l s' A' c' l' q m) (hm:m≤7200) :
  Calls Tryz.prog 122 #[.agg #[.bool s,.slice A l c,.bool s',.slice A' l' c']] w (TellsR w (-q)):=by
 obtain⟨W,hW,x0,x1,hB⟩:=boxes2 w #[.bool s,.slice A l c,.bool s',.slice A' l' c'] 30 #[.bool false,.slice none 0 0,.bool false,.slice none 0 0] 30;replace h:=h.below hB;have HX0:=zh x0;have HX1:=zh x1;clear x0 x1;have Bz:=zr W;obtain⟨pa0,pa1,pa2,pa3,-⟩:=(zxb HX0 Bz).cz;go_enter Tryz.func122,Tryz.ntmps122
 go_wp2_with fail
 rw[←hW];clear hW;go_wp2_with fail
 with_reducible refine(parts_r (R.below h) zo).mono ?_
 rintro e w1 ⟨n1,d1,s1,A1,c1,l1,s1r,A1r,c1r,l1r,rfl,h1,h1r,e1,q1,m1,m1r,b⟩;replace b:=zq (a:=W) b;replace Bz:=bT Bz b;clear b;clear pa0 pa1 pa2 pa3;go_upto_region 2 with(fail)
 obtain⟨V1,hW,x2,x3,hN⟩:=boxes2 w1 #[.bool s1,.slice A1 l1 c1] 28 #[.bool s1r,.slice A1r l1r c1r] 28;rw[←hW];clear hW;obtain⟨v3,hb3⟩:=ze (w1.heap.size+1);rw[←hb3] at x3 ⊢;obtain⟨v2,hb2⟩:=ze w1.heap.size;rw[←hb2] at x2 ⊢;have o1_2:w.heap.size+1<v2:=zi (zxb HX1 Bz).lt;have ow_2:w.heap.size≤v2:=zi (zw hB Bz);have o1_3:w.heap.size+1<v3:=zi (zxb HX1 Bz).lt;have ow_3:w.heap.size≤v3:=zi (zw hB Bz);replace h1:=h1.below hN;replace h1r:=h1r.below hN;replace hB:=bT (bT hB Bz) hN;replace HX0:=zba HX0 Bz hN;replace HX1:=zba HX1 Bz hN;have HX2:=zh x2;have HX3:=zh x3;clear x2 x3 hN Bz hb2 hb3;have Bz:=zr V1;obtain⟨pb0,pb1,pb2,pb3,-⟩:=(zxb HX1 Bz).cz;obtain⟨y1,fb0,fb1,fb2,fb3,-⟩:=(zxb HX1 Bz).fz;obtain⟨pc0,pc1,-⟩:=(zxb HX2 Bz).cz;obtain⟨pd0,pd1,-⟩:=(zxb HX3 Bz).cz;go_wp2_with fail
 (try simp only[vAa,vBa,vC])
 refine zl (zz [0,2] (.only 1 (.only 3 (.only 4 .done)))) [4] (zsa pc0 (zsa pc1 (zsa pd0 (zIa pd1)))) ?_;iterate 2 (refine zUa ?_;try simp only[uW,uX,uY,uZ])
 refine zC 11 rfl rfl (fun K hK=>?_);go_simp
 with_reducible refine(neg_r (I.below h1) zo).mono ?_
 rintro e w2 ⟨s2,A2,c2,l2,rfl,h2,m2,b⟩;replace b:=zq (a:=V1) b;replace h1r:=h1r.below b;replace Bz:=bT Bz b;clear b;clear pb0 pb1 pb2 pb3 fb0 fb1 fb2 fb3 y1 pc0 pc1 pd0 pd1;obtain⟨pb0,pb1,pb2,pb3,-⟩:=(zxb HX1 Bz).cz;obtain⟨y1,fb0,fb1,fb2,fb3,-⟩:=(zxb HX1 Bz).fz;obtain⟨pc0,pc1,-⟩:=(zxb HX2 Bz).cz;obtain⟨pd0,pd1,-⟩:=(zxb HX3 Bz).cz;refine hK.out _ _ ⟨pc0,pc1,pd0,pd1⟩ (fun _=>?_);try simp only[uW,uX,uY,uZ]
 clear hK K;refine zC 13 rfl rfl (fun K hK=>?_);go_simp
 with_reducible refine(lowest_r (I.below h2.i) (I.below h1r) zo zo e1).mono ?_
 rintro e w3 ⟨s3,A3,c3,l3,s3r,A3r,c3r,l3r,rfl,h3,b⟩;replace b:=zq (a:=w2) b;replace Bz:=bT Bz b;clear b;clear pb0 pb1 pb2 pb3 fb0 fb1 fb2 fb3 y1 pc0 pc1 pd0 pd1;obtain⟨pb0,pb1,pb2,pb3,-⟩:=(zxb HX1 Bz).cz;obtain⟨y1,fb0,fb1,fb2,fb3,-⟩:=(zxb HX1 Bz).fz;obtain⟨pc0,pc1,-⟩:=(zxb HX2 Bz).cz;obtain⟨pd0,pd1,-⟩:=(zxb HX3 Bz).cz;refine hK.out _ _ ⟨pc0,pc1,pd0,pd1⟩ (fun _=>?_);try simp only[uW,uX,uY,uZ]
 clear hK K;refine zAc (o:=⟨none,_,_,_,_,_⟩) rfl rfl zd (fun K hK=>?_);go_simp
 refine hK.out _ _ ?_;try simp only[Act.put,uX,uY,uZ]
 clear hK K;refine zAa ?_;go_wp2_with fail
 (try simp only[Exit.inBlock,Exit.then])
 refine bodyPost_ret (by simp[results,Tryz.results122,go_sem,pb0,pb1,pb2,pb3];try rfl) rfl ?_;obtain⟨V2,hW,x,kk,far,bel⟩:=store4 (.bool s3) (.slice A3 l3 c3) (.bool s3r) (.slice A3r l3r c3r) (zxb HX1 Bz) nofun nofun nofun nofun;rw[←hW];clear hW;replace h3:=h3.k kk;replace hB:=bel w.heap.size w zo (bT hB Bz);replace HX0:=zf far HX0 Bz;replace HX2:=zf far HX2 Bz;replace HX3:=zf far HX3 Bz;replace HX1:=zh x;clear x kk far bel Bz;have Bz:=zr V2;have hF:=bT (c:=V2) hB Bz;exact⟨s3,A3,c3,l3,s3r,A3r,c3r,l3r,rfl,by rw[←q1,←qof_opp];exact(RN.below h3),bT hF⟩
theorem sz_opp (q:Rat):sz (-q)=sz q:=by
 unfold sz
 rw[Rat.neg_num,Rat.neg_den,wF]
theorem sub_r4 {q r:Rat} {m m':Nat} (h:R w s A c l s' A' c' l' q m) (h':R w t B k e t' B' k' e' r m') (hm:m+m'≤7000) (hz:sz r≤m') :
  Calls Tryz.prog 85 #[.agg #[.bool s,.slice A l c,.bool s',.slice A' l' c'],.agg #[.bool t,.slice B e k,.bool t',.slice B' e' k']] w (TellsR w (q-r)):=by
 have HZ:=zh hz;obtain⟨W,hW,x0,x1,x2,hB⟩:=boxes3 w #[.bool s,.slice A l c,.bool s',.slice A' l' c'] 30 #[.bool t,.slice B e k,.bool t',.slice B' e' k'] 30 #[.bool false,.slice none 0 0,.bool false,.slice none 0 0] 30;replace h:=h.below hB;replace h':=h'.below hB;have HX0:=zh x0;have HX1:=zh x1;have HX2:=zh x2;clear x0 x1 x2;have Bz:=zr W;obtain⟨pa0,pa1,pa2,pa3,-⟩:=(zxb HX0 Bz).cz;obtain⟨pb0,pb1,pb2,pb3,-⟩:=(zxb HX1 Bz).cz;obtain⟨pc0,pc1,pc2,pc3,-⟩:=(zxb HX2 Bz).cz;obtain⟨y2,fc0,fc1,fc2,fc3,-⟩:=(zxb HX2 Bz).fz;go_enter Tryz.func85,Tryz.ntmps85
 go_wp2_with fail
 rw[←hW];clear hW;go_wp2_with fail
 (try simp only[vAa,vBa,vC])
 refine zl (zz [0,1] (.only 2 (.only 3 (.only 4 .done)))) [4] (zsa pa0 (zsa pa1 (zsa pa2 (zsa pa3 (zsa pb0 (zsa pb1 (zsa pb2 (zIa pb3)))))))) ?_;iterate 2 (refine zUa ?_;try simp only[uW,uX,uY,uZ])
 refine zC 7 rfl rfl (fun K hK=>?_);go_simp
 with_reducible refine(neg_r4 (R.below h') zo).mono ?_
 rintro e w1 ⟨s1,A1,c1,l1,s1r,A1r,c1r,l1r,rfl,h1,b⟩;replace b:=zq (a:=W) b;replace h:=h.below b;replace Bz:=bT Bz b;clear b;clear pa0 pa1 pa2 pa3 pb0 pb1 pb2 pb3 pc0 pc1 pc2 pc3 fc0 fc1 fc2 fc3 y2;obtain⟨pa0,pa1,pa2,pa3,-⟩:=(zxb HX0 Bz).cz;obtain⟨pb0,pb1,pb2,pb3,-⟩:=(zxb HX1 Bz).cz;obtain⟨pc0,pc1,pc2,pc3,-⟩:=(zxb HX2 Bz).cz;obtain⟨y2,fc0,fc1,fc2,fc3,-⟩:=(zxb HX2 Bz).fz;refine hK.out _ _ ⟨pa0,pa1,pa2,pa3,pb0,pb1,pb2,pb3⟩ (fun _=>?_);try simp only[uW,uX,uY,uZ]
 clear hK K;refine zC 8 rfl rfl (fun K hK=>?_);go_simp
 with_reducible refine(add_r4 (R.below h) (RN.r' (RN.below h1) (cA _)) (by rw[sz_opp];have:=HZ.out;omega)).mono ?_
 rintro e w2 ⟨s2,A2,c2,l2,s2r,A2r,c2r,l2r,rfl,h2,b⟩;replace b:=zq (a:=w1) b;replace Bz:=bT Bz b;clear b;clear pa0 pa1 pa2 pa3 pb0 pb1 pb2 pb3 pc0 pc1 pc2 pc3 fc0 fc1 fc2 fc3 y2;obtain⟨pa0,pa1,pa2,pa3,-⟩:=(zxb HX0 Bz).cz;obtain⟨pb0,pb1,pb2,pb3,-⟩:=(zxb HX1 Bz).cz;obtain⟨pc0,pc1,pc2,pc3,-⟩:=(zxb HX2 Bz).cz;obtain⟨y2,fc0,fc1,fc2,fc3,-⟩:=(zxb HX2 Bz).fz;refine hK.out _ _ ⟨pa0,pa1,pa2,pa3,pb0,pb1,pb2,pb3⟩ (fun _=>?_);try simp only[uW,uX,uY,uZ]
 clear hK K;refine zAc (o:=⟨none,_,_,_,_,_⟩) rfl rfl zd (fun K hK=>?_);go_simp
 refine hK.out _ _ ?_;try simp only[Act.put,uX,uY,uZ]
 clear hK K;refine zAa ?_;go_wp2_with fail
 have qc0:w2.cell? ⟨w.heap.size+2,0,none⟩=some (.bool false):=pc0;have qc1:w2.cell? ⟨w.heap.size+2,1,none⟩=some (.slice none 0 0):=pc1;have qc2:w2.cell? ⟨w.heap.size+2,2,none⟩=some (.bool false):=pc2;have qc3:w2.cell? ⟨w.heap.size+2,3,none⟩=some (.slice none 0 0):=pc3;(try simp only[Exit.inBlock,Exit.then])
 refine bodyPost_ret (by simp[results,Tryz.results85,go_sem,qc0,qc1,qc2,qc3];try rfl) rfl ?_;obtain⟨V1,hW,x,kk,far,bel⟩:=store4 (.bool s2) (.slice A2 l2 c2) (.bool s2r) (.slice A2r l2r c2r) (zxb HX2 Bz) nofun nofun nofun nofun;rw[←hW];clear hW;replace h2:=h2.k kk;replace hB:=bel w.heap.size w zo (bT hB Bz);replace HX0:=zf far HX0 Bz;replace HX1:=zf far HX1 Bz;replace HX2:=zh x;clear x kk far bel Bz;have Bz:=zr V1;have hF:=bT (c:=V1) hB Bz;exact⟨s2,A2,c2,l2,s2r,A2r,c2r,l2r,rfl,by rw[Rat.sub_eq_add_neg];exact(RN.below h2),bT hF⟩
theorem quo_r4 {q r:Rat} {m m':Nat} (h:R w s A c l s' A' c' l' q m) (h':R w t B k e t' B' k' e' r m') (hm:m+m'≤7000) (hr:r≠0) :
  Calls Tryz.prog 49 #[.agg #[.bool s,.slice A l c,.bool s',.slice A' l' c'],.agg #[.bool t,.slice B e k,.bool t',.slice B' e' k']] w (TellsR w (q / r)):=by
 have HR0:=zh hr;obtain⟨W,hW,x0,x1,x2,hB⟩:=boxes3 w #[.bool s,.slice A l c,.bool s',.slice A' l' c'] 30 #[.bool t,.slice B e k,.bool t',.slice B' e' k'] 30 #[.bool false,.slice none 0 0,.bool false,.slice none 0 0] 30;replace h:=h.below hB;replace h':=h'.below hB;have HX0:=zh x0;have HX1:=zh x1;have HX2:=zh x2;clear x0 x1 x2;have Bz:=zr W;obtain⟨pa0,pa1,pa2,pa3,-⟩:=(zxb HX0 Bz).cz;go_enter Tryz.func49,Tryz.ntmps49
 go_wp2_with fail
 rw[←hW];clear hW;go_wp2_with fail
 with_reducible refine(parts_r (R.below h) zo).mono ?_
 rintro e w1 ⟨n1,d1,s1,A1,c1,l1,s1r,A1r,c1r,l1r,rfl,h1,h1r,e1,q1,m1,m1r,b⟩;replace b:=zq (a:=W) b;replace h':=h'.below b;replace Bz:=bT Bz b;clear b;clear pa0 pa1 pa2 pa3;go_upto_region 2 with(fail)
 obtain⟨V1,hW,x3,x4,hN⟩:=boxes2 w1 #[.bool s1,.slice A1 l1 c1] 28 #[.bool s1r,.slice A1r l1r c1r] 28;rw[←hW];clear hW;obtain⟨v4,hb4⟩:=ze (w1.heap.size+1);rw[←hb4] at x4 ⊢;obtain⟨v3,hb3⟩:=ze w1.heap.size;rw[←hb3] at x3 ⊢;have o2_3:w.heap.size+1+1<v3:=zi (zxb HX2 Bz).lt;have ow_3:w.heap.size≤v3:=zi (zw hB Bz);have o2_4:w.heap.size+1+1<v4:=zi (zxb HX2 Bz).lt;have ow_4:w.heap.size≤v4:=zi (zw hB Bz);replace h1:=h1.below hN;replace h1r:=h1r.below hN;replace h':=h'.below hN;replace hB:=bT (bT hB Bz) hN;replace HX0:=zba HX0 Bz hN;replace HX1:=zba HX1 Bz hN;replace HX2:=zba HX2 Bz hN;have HX3:=zh x3;have HX4:=zh x4;clear x3 x4 hN Bz hb3 hb4;have Bz:=zr V1;obtain⟨pb0,pb1,pb2,pb3,-⟩:=(zxb HX1 Bz).cz;go_wp2_with fail
 with_reducible refine(parts_r (R.below h') zo).mono ?_
 rintro e w2 ⟨n2,d2,s2,A2,c2,l2,s2r,A2r,c2r,l2r,rfl,h2,h2r,e2,q2,m2,m2r,b⟩;replace b:=zq (a:=V1) b;replace h1:=h1.below b;replace h1r:=h1r.below b;replace Bz:=bT Bz b;clear b;clear pb0 pb1 pb2 pb3;go_upto_region 3 with(fail)
 obtain⟨V2,hW,x5,x6,hN⟩:=boxes2 w2 #[.bool s2,.slice A2 l2 c2] 28 #[.bool s2r,.slice A2r l2r c2r] 28;rw[←hW];clear hW;obtain⟨v6,hb6⟩:=ze (w2.heap.size+1);rw[←hb6] at x6 ⊢;obtain⟨v5,hb5⟩:=ze w2.heap.size;rw[←hb5] at x5 ⊢;have o2_5:w.heap.size+1+1<v5:=zi (zxb HX2 Bz).lt;have ow_5:w.heap.size≤v5:=zi (zw hB Bz);have o2_6:w.heap.size+1+1<v6:=zi (zxb HX2 Bz).lt;have ow_6:w.heap.size≤v6:=zi (zw hB Bz);replace h1:=h1.below hN;replace h1r:=h1r.below hN;replace h2:=h2.below hN;replace h2r:=h2r.below hN;replace hB:=bT (bT hB Bz) hN;replace HX0:=zba HX0 Bz hN;replace HX1:=zba HX1 Bz hN;replace HX2:=zba HX2 Bz hN;replace HX3:=zba HX3 Bz hN;replace HX4:=zba HX4 Bz hN;have HX5:=zh x5;have HX6:=zh x6;clear x5 x6 hN Bz hb5 hb6;have Bz:=zr V2;obtain⟨pc0,pc1,pc2,pc3,-⟩:=(zxb HX2 Bz).cz;obtain⟨y2,fc0,fc1,fc2,fc3,-⟩:=(zxb HX2 Bz).fz;obtain⟨pd0,pd1,-⟩:=(zxb HX3 Bz).cz;obtain⟨pe0,pe1,-⟩:=(zxb HX4 Bz).cz;obtain⟨pf0,pf1,-⟩:=(zxb HX5 Bz).cz;obtain⟨pg0,pg1,-⟩:=(zxb HX6 Bz).cz;go_wp2_with fail
 (try simp only[vAa,vBa,vC])
 refine zl (zz [0,1,3,4] (.only 2 (.only 5 (.only 6 (.only 7 .done))))) [7] (zsa pd0 (zsa pd1 (zsa pe0 (zsa pe1 (zsa pf0 (zsa pf1 (zsa pg0 (zIa pg1)))))))) ?_;iterate 4 (refine zUa ?_;try simp only[uW,uX,uY,uZ])
 refine zC 21 rfl rfl (fun K hK=>?_);go_simp
 with_reducible refine(mulq (I.below h1) (I.below h2r) zo zo).mono ?_
 rintro e w3 ⟨s3,A3,c3,l3,rfl,h3,m3,b⟩;replace b:=zq (a:=V2) b;replace h1r:=h1r.below b;replace h2:=h2.below b;replace Bz:=bT Bz b;clear b;clear pc0 pc1 pc2 pc3 fc0 fc1 fc2 fc3 y2 pd0 pd1 pe0 pe1 pf0 pf1 pg0 pg1;obtain⟨pc0,pc1,pc2,pc3,-⟩:=(zxb HX2 Bz).cz;obtain⟨y2,fc0,fc1,fc2,fc3,-⟩:=(zxb HX2 Bz).fz;obtain⟨pd0,pd1,-⟩:=(zxb HX3 Bz).cz;obtain⟨pe0,pe1,-⟩:=(zxb HX4 Bz).cz;obtain⟨pf0,pf1,-⟩:=(zxb HX5 Bz).cz;obtain⟨pg0,pg1,-⟩:=(zxb HX6 Bz).cz;refine hK.out _ _ ⟨pd0,pd1,pe0,pe1,pf0,pf1,pg0,pg1⟩ (fun _=>?_);try simp only[uW,uX,uY,uZ]
 clear hK K;refine zC 24 rfl rfl (fun K hK=>?_);go_simp
 with_reducible refine(mulq (I.below h1r) (I.below h2) zo zo).mono ?_
 rintro e w4 ⟨s4,A4,c4,l4,rfl,h4,m4,b⟩;replace b:=zq (a:=w3) b;replace h3:=h3.below b;replace Bz:=bT Bz b;clear b;clear pc0 pc1 pc2 pc3 fc0 fc1 fc2 fc3 y2 pd0 pd1 pe0 pe1 pf0 pf1 pg0 pg1;obtain⟨pc0,pc1,pc2,pc3,-⟩:=(zxb HX2 Bz).cz;obtain⟨y2,fc0,fc1,fc2,fc3,-⟩:=(zxb HX2 Bz).fz;obtain⟨pd0,pd1,-⟩:=(zxb HX3 Bz).cz;obtain⟨pe0,pe1,-⟩:=(zxb HX4 Bz).cz;obtain⟨pf0,pf1,-⟩:=(zxb HX5 Bz).cz;obtain⟨pg0,pg1,-⟩:=(zxb HX6 Bz).cz;refine hK.out _ _ ⟨pd0,pd1,pe0,pe1,pf0,pf1,pg0,pg1⟩ (fun _=>?_);try simp only[uW,uX,uY,uZ]
 clear hK K;refine zC 25 rfl rfl (fun K hK=>?_);go_simp
 have HNZ:Hid (n2≠0):=zh (fun e0=>HR0.out (by rw[←q2,e0];exact Rat.zero_divInt _));with_reducible refine(make_r4a (I.below h3.i) (I.below h4.i) zo zo (vD zo HNZ.out)).mono ?_
 rintro e w5 ⟨s5,A5,c5,l5,s5r,A5r,c5r,l5r,rfl,h5,b⟩;replace b:=zq (a:=w4) b;replace Bz:=bT Bz b;clear b;clear pc0 pc1 pc2 pc3 fc0 fc1 fc2 fc3 y2 pd0 pd1 pe0 pe1 pf0 pf1 pg0 pg1;obtain⟨pc0,pc1,pc2,pc3,-⟩:=(zxb HX2 Bz).cz;obtain⟨y2,fc0,fc1,fc2,fc3,-⟩:=(zxb HX2 Bz).fz;obtain⟨pd0,pd1,-⟩:=(zxb HX3 Bz).cz;obtain⟨pe0,pe1,-⟩:=(zxb HX4 Bz).cz;obtain⟨pf0,pf1,-⟩:=(zxb HX5 Bz).cz;obtain⟨pg0,pg1,-⟩:=(zxb HX6 Bz).cz;refine hK.out _ _ ⟨pd0,pd1,pe0,pe1,pf0,pf1,pg0,pg1⟩ (fun _=>?_);try simp only[uW,uX,uY,uZ]
 clear hK K;refine zAc (o:=⟨none,_,_,_,_,_⟩) rfl rfl zd (fun K hK=>?_);go_simp
 refine hK.out _ _ ?_;try simp only[Act.put,uX,uY,uZ]
 clear hK K;refine zAa ?_;go_wp2_with fail
 have qc0:w5.cell? ⟨w.heap.size+2,0,none⟩=some (.bool false):=pc0;have qc1:w5.cell? ⟨w.heap.size+2,1,none⟩=some (.slice none 0 0):=pc1;have qc2:w5.cell? ⟨w.heap.size+2,2,none⟩=some (.bool false):=pc2;have qc3:w5.cell? ⟨w.heap.size+2,3,none⟩=some (.slice none 0 0):=pc3;(try simp only[Exit.inBlock,Exit.then])
 refine bodyPost_ret (by simp[results,Tryz.results49,go_sem,qc0,qc1,qc2,qc3];try rfl) rfl ?_;obtain⟨V3,hW,x,kk,far,bel⟩:=store4 (.bool s5) (.slice A5 l5 c5) (.bool s5r) (.slice A5r l5r c5r) (zxb HX2 Bz) nofun nofun nofun nofun;rw[←hW];clear hW;replace h5:=h5.k kk;replace hB:=bel w.heap.size w zo (bT hB Bz);replace HX0:=zf far HX0 Bz;replace HX1:=zf far HX1 Bz;replace HX3:=zf far HX3 Bz;replace HX4:=zf far HX4 Bz;replace HX5:=zf far HX5 Bz;replace HX6:=zf far HX6 Bz;replace HX2:=zh x;clear x kk far bel Bz;have Bz:=zr V3;have hF:=bT (c:=V3) hB Bz;exact⟨s5,A5,c5,l5,s5r,A5r,c5r,l5r,rfl,by rw[←q1,←q2,←qof_quo];exact(RN.below h5),bT hF⟩
end
theorem Grew.after {w w1 w':World} {v v':Value} (hg:Grew w1 w' v v') (hb:Below w.heap.size w w1) (_hlt:∀g,v.ownBlock=some g→g<w.heap.size):Grew w w' v v' :=
 ⟨⟨hg.by_.os.trans hb.os,hg.by_.tape.trans hb.tape,hg.by_.output.trans hb.output,kA hb.size hg.by_.size,fun i hi hn=>(hg.by_.block i (eB hi hb.size) hn).trans (hb.block i hi)⟩,K64.trans (K64.below hb) hg.k,by
  rcases hg.new with h | ⟨g,h,h2⟩
  ·exact .inl h
  ·exact .inr ⟨g,h,kA hb.size h2⟩⟩
theorem gv_sz {w:World} {A:Option Addr} {n c M:Nat} {P:List (Int×Rat)} (h:GV w A n c P M) (a:Int):sz (pget P a)≤M+1:=by
 obtain⟨L,_,h2,rfl,h4,_⟩:=h;exact kA (get_sz h2 a) (Nat.add_le_add_right (h4 a) 1)
end Go.Proofs.YteggjbgbknkoiaaGreatDoor
