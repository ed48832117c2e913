import Derived.Test.YteggjbgbknkoiaaGreatDoorUWG
set_option maxHeartbeats 4000000
set_option maxRecDepth 100000
namespace Go.Proofs.YteggjbgbknkoiaaGreatDoor
open Go.RowKit Tw
variable {A A':Option Addr} {c' l l':Nat} {xs ys:List Nat}
theorem equal_any {w:World} {c:Nat} (h:Nums w A c xs) (h':Nums w A' c' ys) (hl:xs.length≤800000000000) (hl':ys.length≤800000000000) (t:Bool) (ht:decide (xs=ys)=t) :
  Calls Tryz.prog 102 #[.slice A xs.length c,.slice A' ys.length c'] w fun e w'=>e=.returned (.bool t)∧Below w.heap.size w w':=by
 by_cases hn:xs.length=ys.length
 ·obtain⟨n,hn1⟩:∃n,n=xs.length:=⟨_,rfl⟩;rw[←hn,←hn1];rw[←hn1] at hl;have H:=zh h;have H':=zh h';have HN:=zh hn;have HN1:=zh hn1;have HT:=zh ht;have hst:EQ1 w xs ys n n (.int .i64 ((0:Nat):Int)) w:=⟨0,nA _,rfl,rfl,Below.refl _ _,fun j hj=>by omega⟩;have HST:=zh hst;clear h h' hn hn1 ht hst hl';go_enter Tryz.func102,Tryz.ntmps102
  go_wp2_with fail
  go_loopg [13] n (fun gk s wr=>EQ1 w xs ys n gk s wr)
  case atStart=>exact HST.out
  case round =>
   clear HST;obtain⟨i,hi,hgk,rfl,hB,hd⟩:=hrel;have HGK:=zh hgk;have HD:=zh hd;clear hgk hd;by_cases hlt:i<n
   ·obtain⟨b1,o1,rfl,e1⟩:=H.out.cells (by rw[←HN1.out];omega);obtain⟨b2,o2,rfl,e2⟩:=H'.out.cells (by rw[←HN.out,←HN1.out];omega);replace e1:=e1 i (by rw[←HN1.out];exact hlt);replace e2:=e2 i (by rw[←HN.out,←HN1.out];exact hlt);obtain⟨d1,h1⟩:∃d,d=dg xs i:=⟨_,rfl⟩;obtain⟨d2,h2⟩:∃d,d=dg ys i:=⟨_,rfl⟩;rw[←h1] at e1;rw[←h2] at e2;have D1:=zh h1;have D2:=zh h2;replace e1:=(hB.cell (World.block_lt_of_cell? w _ e1)).trans e1;replace e2:=(hB.cell (World.block_lt_of_cell? w _ e2)).trans e2;have i1:(i:Int)<(n:Int):=zo;have i2:(0:Int)≤(i:Int):=zo;clear h1 h2;by_cases he:d1=d2
    ·have g1:((d1:Int) !=(d2:Int))=false:=by simp[he]
     have HE:=zh he;clear he;have Bz:=zr wr;have pB0:=(Bz.cell (World.block_lt_of_cell? wr _ e1)).trans e1;have pC0:=(Bz.cell (World.block_lt_of_cell? wr _ e2)).trans e2;go_wp2_with fail
     (try simp only[vAa,vBa,vC])
     refine zl (zz [0,1,2,3,4,5,6,7,8] .done) [] (zsa pB0 (zIa pC0)) ?_;iterate 9 (refine zUa ?_;try simp only[Act.put,uX,uY,uZ])
     refine zAa ?_;go_wp2_with fail
     go_roundg (n-(i+1))
     case measure=>have:=HGK.out;omega
     case rel=>exact⟨i+1,zo,rfl,by go_num,bT (bT hB Bz),fun j hj=>by
      rcases kB j i with h1 | h1
      ·exact HD.out j h1
      ·obtain rfl:j=i:=zo;rw[←D1.out,←D2.out];exact HE.out⟩
    ·have g1:((d1:Int) !=(d2:Int))=true:=by simp;omega
     have HE:=zh he;clear he;have Bz:=zr wr;have pB0:=(Bz.cell (World.block_lt_of_cell? wr _ e1)).trans e1;have pC0:=(Bz.cell (World.block_lt_of_cell? wr _ e2)).trans e2;go_wp2_with fail
     (try simp only[vAa,vBa,vC])
     refine zl (zz [0,1,2,3,4,5,6,7,8] .done) [] (zsa pB0 (zIa pC0)) ?_;iterate 9 (refine zUa ?_;try simp only[Act.put,uX,uY,uZ])
     refine zAa ?_;go_wp2_with fail
     go_ret
     have hF:=bT (c:=wr) hB Bz;obtain rfl:t=false:=by rw[←HT.out];simp;intro e;apply HE.out;rw[D1.out,D2.out,e]
     exact⟨rfl,bT (bT hB Bz)⟩
   ·obtain rfl:i=n:=zo;have i1:¬(i:Int)<(i:Int):=zo;obtain rfl:t=true:=by rw[←HT.out];simp;exact dg_ext HN.out (by rw[←HN1.out];exact HD.out)
    go_wp2_with fail
    go_ret
    exact⟨rfl,hB⟩
 ·obtain rfl:t=false:=by rw[←ht];simp;rintro rfl;exact hn rfl
  have g1:((xs.length:Int) !=(ys.length:Int))=true:=by simp;omega
  clear ht h h' hn;go_enter Tryz.func102,Tryz.ntmps102
  go_wp2_with fail
  go_ret
  exact⟨rfl,Below.refl _ _⟩
theorem equal_i {w:World} {c:Nat} (h:Dx w A c l xs) (h':Dx w A' c' l' ys) (hl:l≤800000000000) (hl':l'≤800000000000) (t:Bool) (ht:Hid (decide (xs=ys)=t)) :
  Calls Tryz.prog 102 #[.slice A l c,.slice A' l' c'] w fun e w'=>e=.returned (.bool t)∧Below w.heap.size w w':=by
 obtain⟨h1,rfl⟩:=h;obtain⟨h2,rfl⟩:=h';exact equal_any h1 h2 hl hl' t ht.out
theorem ex1_sparse {w:World} {s s':Bool} {c:Nat} (h:Dx w A c l xs) (h':Dx w A' c' l' ys) (hl:l≤800000000000) (hl':l'≤800000000000) (t:Bool) (ht:((s==s')&&decide (xs=ys))=t) :
  Calls Tryz.prog 101 #[.agg #[.bool s,.slice A l c],.agg #[.bool s',.slice A' l' c']] w fun e w'=>e=.returned (.bool t)∧Below w.heap.size w w':=by
 obtain⟨u,HU⟩:∃u,Hid (decide (xs=ys)=u):=⟨_,zh rfl⟩;rw[HU.out] at ht;by_cases e:s=s'
 ·subst e;obtain rfl:u=t:=by rw[←ht];simp
  clear ht;obtain⟨W,hW,x0,x1,hB⟩:=boxes2 w #[.bool s,.slice A l c] 28 #[.bool s,.slice A' l' c'] 28;replace h:=h.below hB;replace h':=h'.below hB;have HX0:=zh x0;have HX1:=zh x1;clear x0 x1;have Bz:=zr W;obtain⟨pa0,pa1,-⟩:=(zxb HX0 Bz).cz;obtain⟨pb0,pb1,-⟩:=(zxb HX1 Bz).cz;go_enter Tryz.func101,Tryz.ntmps101
  go_wp2_with fail
  rw[←hW];clear hW;go_wp2_with fail
  with_reducible refine(equal_i (Dx.below h) (Dx.below h') zo zo u HU).mono ?_
  rintro e w1 ⟨rfl,q⟩;replace q:=zq (a:=W) q;replace Bz:=bT Bz q;clear q;clear pa0 pa1 pb0 pb1;go_wp2_with fail
  go_ret
  have hF:=bT (c:=w1) hB Bz;exact⟨rfl,bT hF⟩
 ·have g1:(s==s')=false:=by simpa using e
  obtain rfl:t=false:=by rw[←ht,g1];rfl
  clear ht e;obtain⟨W,hW,x0,x1,hB⟩:=boxes2 w #[.bool s,.slice A l c] 28 #[.bool s',.slice A' l' c'] 28;have HX0:=zh x0;have HX1:=zh x1;clear x0 x1;have Bz:=zr W;have pa0:=(zxb HX0 Bz).cell 0 (.bool s) rfl;have pb0:=(zxb HX1 Bz).cell 0 (.bool s') rfl;go_enter Tryz.func101,Tryz.ntmps101
  go_wp2_with fail
  rw[←hW];clear hW;go_wp2_with fail
  go_ret
  have hF:=bT (c:=W) hB Bz;exact⟨rfl,bT hF⟩
theorem exact_sparse {w:World} {s s':Bool} {c m:Nat} {q:Rat} (h:R w s A c l s' A' c' l' q m) (dx1:Dx w A c l xs) (dx2:Dx w A' c' l' ys) (hm:m≤40000000000) (t:Bool) (ht:Hid (exB s xs s' ys q=t)) (hT:Hid (Tab w)) :
  Calls Tryz.prog 56 #[.agg #[.bool s,.slice A l c,.bool s',.slice A' l' c']] w fun e w'=>e=.returned (.bool t)∧Below w.heap.size w w':=by
 have hlen:=h.len;have hsz:=h.sz;obtain⟨t2,HT2⟩:∃t2,Hid (((s'==decide (dn q<0))&&decide (ys=limbs (dn q).natAbs))=t2):=⟨_,zh rfl⟩;obtain⟨t1,HT1⟩:∃t1,Hid (((s==decide (q.num<0))&&decide (xs=limbs q.num.natAbs))=t1):=⟨_,zh rfl⟩;have ht':(t1&&t2)=t:=by rw[←HT1.out,←HT2.out];exact ht.out
 clear ht;cases t1
 ·obtain rfl:t=false:=by rw[←ht'];rfl
  clear ht';obtain⟨W,hW,x0,hB⟩:=zAe w #[.bool s,.slice A l c,.bool s',.slice A' l' c'] 30;replace h:=h.below hB;replace dx1:=dx1.below hB;have HX0:=zh x0;clear x0;have Bz:=zr W;obtain⟨pa0,pa1,pa2,pa3,-⟩:=(zxb HX0 Bz).cz;go_enter Tryz.func56,Tryz.ntmps56
  go_wp2_with fail
  rw[←hW];clear hW;go_wp2_with fail
  with_reducible refine(norm_q (R.below h) zo (zt hT hB Bz)).mono ?_
  rintro e w1 ⟨s1,A1,c1,l1,s1r,A1r,c1r,l1r,rfl,h1,b⟩;replace b:=zq (a:=W) b;replace dx1:=dx1.below b;replace Bz:=bT Bz b;clear b;have m1:=h1.len;have SGn:=zh (J.sg (RN.n h1));have SGd:=zh (J.sg (RN.d h1));clear pa0 pa1 pa2 pa3;go_upto_region 3 with(fail)
  obtain⟨V1,hW,x1,hN⟩:=zAe w1 #[.bool s1,.slice A1 l1 c1,.bool s1r,.slice A1r l1r c1r] 30;rw[←hW];clear hW;obtain⟨v1,hb1⟩:=ze w1.heap.size;rw[←hb1] at x1 ⊢;have ow_1:w.heap.size≤v1:=zi (zw hB Bz);replace h1:=h1.below hN;replace dx1:=dx1.below hN;replace hB:=bT (bT hB Bz) hN;replace HX0:=zba HX0 Bz hN;have HX1:=zh x1;clear x1 hN Bz hb1;have Bz:=zr V1;obtain⟨pa0,pa1,-⟩:=(zxb HX0 Bz).cz;obtain⟨pb0,pb1,-⟩:=(zxb HX1 Bz).cz;go_wp2_with fail
  with_reducible refine(ex1_sparse (Dx.below dx1) (J.dx (RN.n (RN.below h1))) zo zo false (by rw[SGn.out];exact HT1.out)).mono ?_
  rintro e w2 ⟨rfl,b⟩;replace b:=zq (a:=V1) b;replace Bz:=bT Bz b;clear b;clear pa0 pa1 pb0 pb1;go_wp2_with fail
  go_ret
  have hF:=bT (c:=w2) hB Bz;exact⟨rfl,bT hF⟩
 ·obtain rfl:t=t2:=by rw[←ht'];simp
  clear ht';obtain⟨W,hW,x0,hB⟩:=zAe w #[.bool s,.slice A l c,.bool s',.slice A' l' c'] 30;replace h:=h.below hB;replace dx2:=dx2.below hB;replace dx1:=dx1.below hB;have HX0:=zh x0;clear x0;have Bz:=zr W;obtain⟨pa0,pa1,pa2,pa3,-⟩:=(zxb HX0 Bz).cz;go_enter Tryz.func56,Tryz.ntmps56
  go_wp2_with fail
  rw[←hW];clear hW;go_wp2_with fail
  with_reducible refine(norm_q (R.below h) zo (zt hT hB Bz)).mono ?_
  rintro e w1 ⟨s1,A1,c1,l1,s1r,A1r,c1r,l1r,rfl,h1,b⟩;replace b:=zq (a:=W) b;replace dx2:=dx2.below b;replace dx1:=dx1.below b;replace Bz:=bT Bz b;clear b;have m1:=h1.len;have SGn:=zh (J.sg (RN.n h1));have SGd:=zh (J.sg (RN.d h1));clear pa0 pa1 pa2 pa3;go_upto_region 3 with(fail)
  obtain⟨V1,hW,x1,hN⟩:=zAe w1 #[.bool s1,.slice A1 l1 c1,.bool s1r,.slice A1r l1r c1r] 30;rw[←hW];clear hW;obtain⟨v1,hb1⟩:=ze w1.heap.size;rw[←hb1] at x1 ⊢;have ow_1:w.heap.size≤v1:=zi (zw hB Bz);replace h1:=h1.below hN;replace dx2:=dx2.below hN;replace dx1:=dx1.below hN;replace hB:=bT (bT hB Bz) hN;replace HX0:=zba HX0 Bz hN;have HX1:=zh x1;clear x1 hN Bz hb1;have Bz:=zr V1;obtain⟨pa0,pa1,-⟩:=(zxb HX0 Bz).cz;obtain⟨pb0,pb1,-⟩:=(zxb HX1 Bz).cz;go_wp2_with fail
  with_reducible refine(ex1_sparse (Dx.below dx1) (J.dx (RN.n (RN.below h1))) zo zo true (by rw[SGn.out];exact HT1.out)).mono ?_
  rintro e w2 ⟨rfl,b⟩;replace b:=zq (a:=V1) b;replace h1:=h1.below b;replace dx2:=dx2.below b;replace Bz:=bT Bz b;clear b;clear pa0 pa1 pb0 pb1;obtain⟨-,-,pa2,pa3,-⟩:=(zxb HX0 Bz).cz;obtain⟨-,-,pb2,pb3,-⟩:=(zxb HX1 Bz).cz;go_wp2_with fail
  with_reducible refine(ex1_sparse (Dx.below dx2) (J.dx (RN.d (RN.below h1))) zo zo t (by rw[SGd.out];exact HT2.out)).mono ?_
  rintro e w3 ⟨rfl,b⟩;replace b:=zq (a:=w2) b;replace Bz:=bT Bz b;clear b;clear pa2 pa3 pb2 pb3;go_wp2_with fail
  go_ret
  have hF:=bT (c:=w3) hB Bz;exact⟨rfl,bT hF⟩
end Go.Proofs.YteggjbgbknkoiaaGreatDoor
