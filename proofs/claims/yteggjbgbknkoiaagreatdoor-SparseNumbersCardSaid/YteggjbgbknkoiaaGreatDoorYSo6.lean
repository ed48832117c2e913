import Derived.Test.YteggjbgbknkoiaaGreatDoorYSo5
set_option maxHeartbeats 8000000
set_option maxRecDepth 100000
namespace Go.Proofs.YteggjbgbknkoiaaGreatDoor
open Go.RowKit Tw
variable {L:List Tm} {x:Tm} {q:Rat} {s':Bool} {A A' X Y:Option Addr} {M M' b c' cx cy l l' m mq:Nat} {P Q:List (Int×Rat)} {te:TypeId}
def SC1 (w W:World) (cs:Array Value) (L:List Tm) (q:Rat) (n MM gk:Nat) (s5 s12:Value) (wr:World):Prop :=
 ∃(i k:Nat) (H:Option Addr) (hc:Nat) (O:List Tm),s5=.slice H k hc∧s12=.int .i64 (i:Int)∧i≤n∧n-i≤gk∧k≤i∧
  OwnR wr W.heap.size 32 5 (.slice H k hc) k (flat Tm.cs O)∧prs O=((prs (L.take i)).map fun x=>(x.1,q*x.2)).filter (fun x=>decide (x.2≠0))∧OnT wr O (fun _=>MM)∧Bx wr w.heap.size cs 30∧Below w.heap.size w wr∧Below W.heap.size W wr
theorem scale_snoc {i:Nat} (h:L[i]?=some x):((prs (L.take (i+1))).map fun x=>(x.1,q*x.2)).filter (fun x=>decide (x.2≠0))=((prs (L.take i)).map fun x=>(x.1,q*x.2)).filter (fun x=>decide (x.2≠0))++if q*x.x.q=0 then [] else [(x.at_,q*x.x.q)]:=by
 rw[take_snoc h,prs_append,List.map_append,List.filter_append];congr 1
 show([(x.at_,q*x.x.q)]:List (Int×Rat)).filter _=_
 by_cases e:q*x.x.q=0
 ·rw[yA e,List.filter_cons_of_neg (by simp[e])];rfl
 ·rw[tA e,List.filter_cons_of_pos (by simp[e])];rfl
theorem sign_zero {z:Int} (h:q.num.sign=z):(z != 0)=decide (q≠0):=by
 have:=num_sign q;rw[h] at this;unfold bne
 rw[this];by_cases e:q=0<;>simp[e]
theorem scaleV_q {w:World} {s:Bool} {c:Nat} {n:Nat} (ha:R w s A c l s' A' c' l' q mq) (h:GV w X n cx P M) (hM:M≤10000000000) (hmq:mq≤10000000000) (hn:n≤1000000) (hT:Hid (Tab w)) :
  Calls Tryz.prog 25 #[.agg #[.bool s,.slice A l c,.bool s',.slice A' l' c'],.slice X n cx] w (TellsV w (nrm (P.map fun x=>(x.1,q*x.2))) (mq+M+3)):=by
 have hx:=zh h;have hM:M≤19000000000:=zo;clear h;obtain⟨W,hW,x0,hB⟩:=zAc w #[.bool s,.slice A l c,.bool s',.slice A' l' c'] 30;replace ha:=ha.below hB;have HX0:=zh x0;clear x0;have Bz:=zr W;go_enter Tryz.func25,Tryz.ntmps25
 go_wp2_with fail
 rw[←hW];clear hW;go_wp2_with fail
 with_reducible refine(ordered_q (hx.out.below (bT hB (bT (b:=W) Bz))) hM hn (zt hT hB Bz)).mono ?_
 rintro e w1 ⟨A1,n1,c1,P1,rfl,h1,r1,e1,l1,j⟩;replace j:=zq (a:=W) j;replace ha:=ha.below j;replace Bz:=bT Bz j;clear j;go_wp2_with fail
 obtain⟨L,x1,x2,rfl,x4,x5⟩:=h1;have HS:=zh x1;have HLN:=zh x1.1;have HOK:=zh x2;have HWS:=zh x4;have HRS:=zh r1;have HGT:=zh e1;have HB1:=zh (bT hB Bz);have HA1:=zh ha;have XX0:=zh (zx HX0 Bz);have HXB:=zh (zx HX0 Bz).lt;clear x1 x2 x4 x5 r1 e1 hB Bz HX0 ha;go_loopg [5,12] n1 (fun gk s5 s12 wr=>SC1 w w1 #[.bool s,.slice A l c,.bool s',.slice A' l' c'] L q n1 (mq+M+3) gk s5 s12 wr)
 case atStart=>exact⟨0,0,_,_,[],rfl,rfl,wA _,aA _,aA _,OwnR.nil _ _ _ _,rfl,OnT.nil _ _,XX0.out,HB1.out,Below.refl _ _⟩
 case round =>
  clear XX0;have hWs:w.heap.size<w1.heap.size:=zi HXB.out;clear HB1;obtain⟨i,k,H,hc,O,rfl,rfl,hi,hgk,hk,ho,hp,hon,hx0,hB,hBW⟩:=hrel;have HP:=zh hp;have HX0:=zh hx0;clear hp hx0;by_cases hlt:i<n1
  ·obtain⟨b,off,rfl,hel⟩:=HS.out.at Tm.cs_len zo zo;obtain⟨x,hx'⟩:∃x,L[i]?=some x:=⟨L[i]'(by rw[HLN.out];exact hlt),gA _⟩;have hnd:=hel i x hx';have hfx:=HOK.out x (jA hx');have hrx:R wr x.x.s x.x.A x.x.c x.x.l x.x.s' x.x.A' x.x.c' x.x.l' x.x.q (dgT x):=(hfx.below hBW).r;have ha:=HA1.out.below hBW;have hdx:dgT x+2≤M+1:=mA (wsum_mem (jA hx')) (HWS.out _);have hsq:=ha.sz;have hsx:=hfx.szd;have hsz:sz (q*x.x.q)≤(mq+1)+(dgT x+1):=sz_mul zo hsx;obtain⟨z,HZ⟩:∃z,Hid ((q*x.x.q).num.sign=z):=⟨_,zh rfl⟩;have hz0:=sign_zero HZ.out;have i1:(i:Int)<(n1:Int):=zo;have i2:(0:Int)≤(i:Int):=zo;have hsn:=scale_snoc (q:=q) hx';clear hel hx' hfx;by_cases hs0:q*x.x.q=0
   ·have g3:(z != 0)=false:=by rw[hz0,cA (fun h=>h hs0)]
    have HP2:Hid (prs O=((prs (L.take (i+1))).map fun x=>(x.1,q*x.2)).filter (fun x=>decide (x.2≠0))):=zh (by rw[hsn,yA hs0,List.append_nil,HP.out]);have HS1:Hid (0≤M):=zh (wA _);clear hz0 hsn hs0;have Bz:=zr wr;obtain⟨pA0,pA1,pA2,pA3,pA4,-⟩:=(hnd.below (bT hBW Bz)).ez;go_upto_region 5 with(fail)
    obtain⟨V11,hW,x1,hN⟩:=zAc wr #[.int .i64 x.at_,.bool x.x.s,.slice x.x.A x.x.l x.x.c,.bool x.x.s',.slice x.x.A' x.x.l' x.x.c'] 32;rw[←hW];clear hW;obtain⟨v1,hb1⟩:=ze wr.heap.size;rw[←hb1] at x1 ⊢;have ow_1:w.heap.size≤v1:=zi (zw hB Bz);have nv1_own:=OwnR.off' (b:=v1) ho zo;replace ha:=ha.below hN;replace hon:=hon.below hN;replace ho:=ho.below hN;replace hrx:=hrx.below hN;replace hB:=bT (bT hB Bz) hN;replace hBW:=bT (bT hBW Bz) hN;replace HX0:=zba HX0 Bz hN;have HX1:=zh x1;clear x1 hN Bz hb1;have Bz:=zr V11;clear pA0 pA1 pA2 pA3 pA4;obtain⟨pa0,pa1,pa2,pa3,-⟩:=(zx HX0 Bz).cz;obtain⟨-,pb1,pb2,pb3,pb4,-⟩:=(zx HX1 Bz).cz;go_wp2_with fail
    with_reducible refine(mul_q (R.below ha) (R.below hrx) zo (zt hT hB Bz)).mono ?_
    rintro e w11 ⟨s11,A11,c11,l11,s11r,A11r,c11r,l11r,rfl,h11,j⟩;replace j:=zq (a:=V11) j;replace hon:=hon.below j;replace ho:=ho.below j;replace Bz:=bT Bz j;clear j;clear pa0 pa1 pa2 pa3 pb1 pb2 pb3 pb4;go_upto_region 6 with(fail)
    obtain⟨V12,hW,x2,hN⟩:=zAc w11 #[.bool s11,.slice A11 l11 c11,.bool s11r,.slice A11r l11r c11r] 30;rw[←hW];clear hW;obtain⟨v2,hb2⟩:=ze w11.heap.size;rw[←hb2] at x2 ⊢;have ow_2:w.heap.size≤v2:=zi (zw hB Bz);have nv2_own:=OwnR.off' (b:=v2) ho zo;replace h11:=h11.below hN;replace hon:=hon.below hN;replace ho:=ho.below hN;replace hB:=bT (bT hB Bz) hN;replace hBW:=bT (bT hBW Bz) hN;replace HX0:=zba HX0 Bz hN;replace HX1:=zba HX1 Bz hN;have HX2:=zh x2;clear x2 hN Bz hb2;have Bz:=zr V12;obtain⟨pc0,pc1,pc2,pc3,-⟩:=(zx HX2 Bz).cz;go_wp2_with fail
    with_reducible refine(sign_q (R.below h11.r) zo z HZ).mono ?_
    rintro e w12 ⟨rfl,j⟩;replace j:=zq (a:=V12) j;replace hon:=hon.below j;replace ho:=ho.below j;replace Bz:=bT Bz j;clear j;clear pc0 pc1 pc2 pc3;go_wp2_with fail
    have hs1:=HS1.out;go_roundg (n1-(i+1))
    case measure=>omega
    case rel=>exact⟨i+1,k,_,_,_,rfl,by go_num,zo,aA _,zo,OwnR.below ho,HP2.out,OnT.below hon,HX0.out.below (bT Bz),bT (bT hB Bz),bT (bT hBW Bz)⟩
   ·have g3:(z != 0)=true:=by rw[hz0,bA hs0]
    have HP2:Hid (∀r:Fr,r.q=q*x.x.q→prs (O++[⟨x.at_,r⟩])=((prs (L.take (i+1))).map fun x=>(x.1,q*x.2)).filter (fun x=>decide (x.2≠0))):=zh (fun r hr=>by rw[hsn,tA hs0,prs_append,HP.out,show prs [(⟨x.at_,r⟩:Tm)]=[(x.at_,q*x.x.q)] from by rw[←hr];rfl]);have HS1:Hid (sz (q*x.x.q)+1≤mq+M+3):=zh zo;clear hz0 hsn hs0;have Bz:=zr wr;obtain⟨pA0,pA1,pA2,pA3,pA4,-⟩:=(hnd.below (bT hBW Bz)).ez;go_upto_region 5 with(fail)
    obtain⟨V11,hW,x1,hN⟩:=zAc wr #[.int .i64 x.at_,.bool x.x.s,.slice x.x.A x.x.l x.x.c,.bool x.x.s',.slice x.x.A' x.x.l' x.x.c'] 32;rw[←hW];clear hW;obtain⟨v1,hb1⟩:=ze wr.heap.size;rw[←hb1] at x1 ⊢;have ow_1:w.heap.size≤v1:=zi (zw hB Bz);have nv1_own:=OwnR.off' (b:=v1) ho zo;replace ha:=ha.below hN;replace hon:=hon.below hN;replace ho:=ho.below hN;replace hrx:=hrx.below hN;replace hB:=bT (bT hB Bz) hN;replace hBW:=bT (bT hBW Bz) hN;replace HX0:=zba HX0 Bz hN;have HX1:=zh x1;clear x1 hN Bz hb1;have Bz:=zr V11;clear pA0 pA1 pA2 pA3 pA4;obtain⟨pa0,pa1,pa2,pa3,-⟩:=(zx HX0 Bz).cz;obtain⟨-,pb1,pb2,pb3,pb4,-⟩:=(zx HX1 Bz).cz;go_wp2_with fail
    with_reducible refine(mul_q (R.below ha) (R.below hrx) zo (zt hT hB Bz)).mono ?_
    rintro e w11 ⟨s11,A11,c11,l11,s11r,A11r,c11r,l11r,rfl,h11,j⟩;replace j:=zq (a:=V11) j;replace hon:=hon.below j;replace ho:=ho.below j;replace Bz:=bT Bz j;clear j;clear pa0 pa1 pa2 pa3 pb1 pb2 pb3 pb4;go_upto_region 6 with(fail)
    obtain⟨V12,hW,x2,hN⟩:=zAc w11 #[.bool s11,.slice A11 l11 c11,.bool s11r,.slice A11r l11r c11r] 30;rw[←hW];clear hW;obtain⟨v2,hb2⟩:=ze w11.heap.size;rw[←hb2] at x2 ⊢;have ow_2:w.heap.size≤v2:=zi (zw hB Bz);have nv2_own:=OwnR.off' (b:=v2) ho zo;replace h11:=h11.below hN;replace hon:=hon.below hN;replace ho:=ho.below hN;replace hB:=bT (bT hB Bz) hN;replace hBW:=bT (bT hBW Bz) hN;replace HX0:=zba HX0 Bz hN;replace HX1:=zba HX1 Bz hN;have HX2:=zh x2;clear x2 hN Bz hb2;have Bz:=zr V12;obtain⟨pc0,pc1,pc2,pc3,-⟩:=(zx HX2 Bz).cz;go_wp2_with fail
    with_reducible refine(sign_q (R.below h11.r) zo z HZ).mono ?_
    rintro e w12 ⟨rfl,j⟩;replace j:=zq (a:=V12) j;replace h11:=h11.below j;replace hon:=hon.below j;replace ho:=ho.below j;replace Bz:=bT Bz j;clear j;clear pc0 pc1 pc2 pc3;have pb0:=(zx HX1 Bz).cell 0 (.int .i64 x.at_) rfl;obtain⟨pc0,pc1,pc2,pc3,-⟩:=(zx HX2 Bz).cz;go_wp2_with (at_builtin;refine And.left (b:=True) ?_)
    refine⟨?_,trivial⟩;obtain⟨V13,hW,x3,hN⟩:=zAc w12 #[.int .i64 x.at_,.bool s11,.slice A11 l11 c11,.bool s11r,.slice A11r l11r c11r] 32;rw[←hW];clear hW;obtain⟨v3,hb3⟩:=ze w12.heap.size;rw[←hb3] at x3 ⊢;have ow_3:w.heap.size≤v3:=zi (zw hB Bz);have nv3_own:=OwnR.off' (b:=v3) ho zo;replace h11:=h11.below hN;replace hon:=hon.below hN;replace ho:=ho.below hN;replace hB:=bT (bT hB Bz) hN;replace hBW:=bT (bT hBW Bz) hN;replace HX0:=zba HX0 Bz hN;replace HX1:=zba HX1 Bz hN;replace HX2:=zba HX2 Bz hN;have HX3:=zh x3;clear x3 hN Bz hb3;have Bz:=zr V13;clear pb0 pc0 pc1 pc2 pc3;have hdr:V13.drew.heap.size=V13.heap.size:=rfl;have hdr2:V13.drew.drew.heap.size=V13.heap.size:=rfl;refine Elt.app elt_vec rfl _ _ rfl (w1.heap.size) (.slice H k hc) (k) (O) rfl ho (.slice (some ⟨v3,0,none⟩) 1 1) (1) ([⟨x.at_,⟨s11,A11,c11,l11,s11r,A11r,c11r,l11r,q*x.x.q,true⟩⟩]) rfl (From.one (HX3.out.below (bT Bz)) (⟨x.at_,⟨s11,A11,c11,l11,s11r,A11r,c11r,l11r,q*x.x.q,true⟩⟩) rfl (elt_vec.len _)) zo (zj hBW.size Bz.size) ?_;intro H13 c13 w13 ho13 hg13;replace hB:=(bT (bT hB Bz)).trans (hg13.below (zi (zw hB Bz)) (fun g hg=>by have:=ho.base g hg;omega));replace hBW:=(bT (bT hBW Bz)).trans (hg13.below (zj hBW.size Bz.size) (fun g hg=>by have:=ho.base g hg;omega));replace HX0:=zh (hg13.bx (zx HX0 Bz) (ho.off zo));clear HX1;clear HX2;clear HX3;clear hdr hdr2;replace h11:=h11.k hg13.k;replace hon:=hon.k hg13.k;clear hg13 Bz;have Bz:=zr w13;go_wp2_with fail
    have hs1:=HS1.out;go_roundg (n1-(i+1))
    case measure=>omega
    case rel=>exact⟨i+1,k+1,_,_,_,rfl,by go_num,zo,aA _,zo,OwnR.below ho13,HP2.out _ rfl,(OnT.below hon).snoc (RN.below h11) rfl hs1,HX0.out.below (bT Bz),bT (bT hB Bz),bT (bT hBW Bz)⟩
  ·obtain rfl:i=n1:=zo;have i1:¬(i:Int)<(i:Int):=zo;have HOS:=zh (ho.sl' elt_vec (ho.eltn elt_vec zo));have HCAP:=zh ho.slice;have HON:=zh hon;clear ho hon;go_wp2_with fail
   go_ret
   refine⟨_,_,_,rfl,⟨O,HOS.out.below (by go_grown),HON.out.below (by go_grown),?_,fun hn=>?_⟩,bT hB⟩
   ·have h9:=HP.out;rw[fA (by rw[HLN.out];exact aA _),←rise_scale HRS.out] at h9;rw[h9];exact nrm_ext fun a=>by rw[pget_scale,pget_scale,HGT.out]
   ·obtain⟨_,_,e9,h9,_⟩:=HCAP.out;cases e9;exact(h9 hn).2
theorem axpyO_q {w:World} {s:Bool} {c:Nat} {n:Nat} (hy0:GV w Y m cy P M') (ha:R w s A c l s' A' c' l' q mq) (h:GV w X n cx Q M) (hM:M≤8000000000) (hM':M'≤4000000000) (hmq:mq≤4000000000) (hn:n≤1000000) (hm:m≤1000000) (hT:Hid (Tab w)) :
  Calls Tryz.prog 70 #[.slice Y m cy,.agg #[.bool s,.slice A l c,.bool s',.slice A' l' c'],.slice X n cx] w (TellsVO w (nrm (P++Q.map fun x=>(x.1,q*x.2))) (M'+(mq+M+3))):=by
 have hx:=zh h;have hy:=zh hy0;have HLX:=zh h.len;have HLY:=zh hy0.len;have hM:M≤10000000000:=zo;have hmq:mq≤10000000000:=zo;clear h hy0;obtain⟨W,hW,x0,hB⟩:=zAc w #[.bool s,.slice A l c,.bool s',.slice A' l' c'] 30;replace ha:=ha.below hB;have HX0:=zh x0;clear x0;have Bz:=zr W;obtain⟨pa0,pa1,pa2,pa3,-⟩:=(zx HX0 Bz).cz;go_enter Tryz.func70,Tryz.ntmps70
 go_wp2_with fail
 rw[←hW];clear hW;go_wp2_with fail
 (try simp only[vA,vBa,vC])
 refine zl (zz [0,2,3] (.only 1 (.only 4 (.only 5 (.take 6 .done))))) [] (zsa pa0 (zsa pa1 (zsa pa2 (zIa pa3)))) ?_;iterate 3 (refine zUa ?_;try simp only[uW,uX,uY,uZ])
 refine zC 8 rfl rfl (fun K hK=>?_);go_simp
 with_reducible refine(normV_q (hy.out.below (bT hB (bT (b:=W) Bz))) zo hm (zt hT hB Bz)).mono ?_
 rintro e w1 ⟨A1,n1,c1,rfl,h1,z⟩;replace z:=zq (a:=W) z;replace ha:=ha.below z;replace Bz:=bT Bz z;clear z;clear pa0 pa1 pa2 pa3;obtain⟨pa0,pa1,pa2,pa3,-⟩:=(zx HX0 Bz).cz;refine hK.out _ _ ⟨pa0,pa1,pa2,pa3⟩ (fun _=>?_);try simp only[uW,uX,uY,uZ]
 clear hK K;refine zC 11 rfl rfl (fun K hK=>?_);go_simp
 with_reducible refine(scaleV_q (R.below ha) (hx.out.below (bT hB (bT (b:=w1) Bz))) hM hmq hn (zt hT hB Bz)).mono ?_
 rintro e w2 ⟨A2,n2,c2,rfl,h2,z⟩;replace z:=zq (a:=w1) z;replace h1:=h1.below z;replace Bz:=bT Bz z;clear z;clear pa0 pa1 pa2 pa3;obtain⟨pa0,pa1,pa2,pa3,-⟩:=(zx HX0 Bz).cz;refine hK.out _ _ ⟨pa0,pa1,pa2,pa3⟩ (fun _=>?_);try simp only[uW,uX,uY,uZ]
 clear hK K;refine zC 12 rfl rfl (fun K hK=>?_);go_simp
 have hb2:w.heap.size≤w2.heap.size:=zi (zw hB Bz);with_reducible refine(joinO_q (NV.below h1) (NV.below h2) (nrm_nrm _) (nrm_nrm _) zo (by have:=h1.len;have:=nrm_len P;have:=HLY.out;omega) (by have:=h2.len;have:=nrm_len (Q.map fun x=>(x.1,q*x.2));have:=HLX.out;rw[List.length_map] at *;omega) (zt hT hB Bz)).mono ?_
 rintro e w3 ⟨A3,n3,c3,L3,rfl,h3,on3,ep3,z⟩;replace z:=zq (a:=w2) z;replace Bz:=bT Bz z;clear z;clear pa0 pa1 pa2 pa3;obtain⟨pa0,pa1,pa2,pa3,-⟩:=(zx HX0 Bz).cz;refine hK.out _ _ ⟨pa0,pa1,pa2,pa3⟩ (fun _=>?_);try simp only[uW,uX,uY,uZ]
 clear hK K;refine zUa ?_;try simp only[uW,uX,uY,uZ]
 refine zAa ?_;go_wp2_with fail
 go_ret
 have hF:=bT (c:=w3) hB Bz;exact⟨_,_,_,L3,rfl,(h3.below (by go_grown)).rebase hb2,(on3.below (by go_grown)).mono fun _ _=>by omega,by rw[←nrm_app];exact ep3,bT hF⟩
theorem axpyV_q {w:World} {s:Bool} {c:Nat} {n:Nat} (hy0:GV w Y m cy P M') (ha:R w s A c l s' A' c' l' q mq) (h:GV w X n cx Q M) (hM:M≤8000000000) (hM':M'≤4000000000) (hmq:mq≤4000000000) (hn:n≤1000000) (hm:m≤1000000) (hT:Hid (Tab w)) :
  Calls Tryz.prog 70 #[.slice Y m cy,.agg #[.bool s,.slice A l c,.bool s',.slice A' l' c'],.slice X n cx] w (TellsV w (nrm (P++Q.map fun x=>(x.1,q*x.2))) (M'+(mq+M+3))) :=
 (axpyO_q hy0 ha h hM hM' hmq hn hm hT).mono fun _ _ k=>k.v
def GT1 (w:World) (L:List Tm) (at_:Int) (n gk:Nat) (s:Value) (wr:World):Prop :=
 ∃(i:Nat) (sS:Bool) (sA:Option Addr) (sc sl:Nat) (sS':Bool) (sA':Option Addr) (sc' sl':Nat),i≤n∧n-i=gk∧s=.int .i64 (i:Int)∧RN wr sS sA sc sl sS' sA' sc' sl' (pget (prs (L.take i)) at_)∧Bx wr w.heap.size #[.bool false,.slice none 0 0,.bool false,.slice none 0 0] 30∧Bx wr (w.heap.size+1) #[.bool sS,.slice sA sl sc,.bool sS',.slice sA' sl' sc'] 30∧Below w.heap.size w wr
theorem get_sz {w:World} (h:OkT w L) (a:Int):sz (pget (prs L) a)≤wsum L a+1:=by
 induction L with
 | nil=>exact mA sz_zero (by simp[wsum])
 | cons x L ih =>
  have h1:=ih fun t ht=>h t (xA _ ht);have h2:=(h x cB).szd;show sz (pget ((x.at_,x.x.q) :: prs L) a)≤_
  rw[zAd];unfold wsum
  split
  ·have:=sz_add h2 h1;show sz (x.x.q+pget (prs L) a)≤_
   unfold dgT
   omega
  ·omega
theorem pget_take {i:Nat} (h:L[i]?=some x) (a:Int):pget (prs (L.take (i+1))) a=pget (prs (L.take i)) a+if x.at_=a then x.x.q else 0:=by
 rw[take_snoc h,prs_append];exact pget_snoc _ (x.at_,x.x.q) a
theorem getV_q {w:World} {n c:Nat} (at_:Int) (h:GV w A n c P M) (hM:M≤18000000000) (hn:n≤1000000) (hT:Hid (Tab w)) :
  Calls Tryz.prog 23 #[.slice A n c,.int .i64 at_] w (TellsR w (pget P at_)):=by
 obtain⟨L,h1,h2,rfl,h4,h5⟩:=h;have HS:=zh h1;have HLN:=zh h1.1;have HOK:=zh h2;have HWS:=zh h4;clear h1 h2 h4 h5;obtain⟨W,hW,x0,x1,hB⟩:=boxes2 w #[.bool false,.slice none 0 0,.bool false,.slice none 0 0] 30 #[.bool false,.slice none 0 0,.bool false,.slice none 0 0] 30;have HX0:=zh x0;have HX1:=zh x1;clear x0 x1;have Bz:=zr W;go_enter Tryz.func23,Tryz.ntmps23
 go_wp2_with fail
 rw[←hW];clear hW;go_wp2_with fail
 have HB1:=zh (bT hB Bz);have XX0:=zh (zx HX0 Bz);have XX1:=zh (zx HX1 Bz);clear hB Bz HX0 HX1;go_loopg [10] n (fun gk s wr=>GT1 w L at_ n gk s wr)
 case atStart=>exact⟨0,_,_,_,_,_,_,_,_,wA _,rfl,rfl,RN.zero _,XX0.out,XX1.out,HB1.out⟩
 case round =>
  clear HB1 XX0 XX1;obtain⟨i,sS,sA,sc,sl,sS',sA',sc',sl',hi,hgk,rfl,hs,hx0,hx1,hB⟩:=hrel;have HGK:=zh hgk;have HX0:=zh hx0;have HX1:=zh hx1;clear hgk hx0 hx1;by_cases hlt:i<n
  ·obtain⟨b,off,rfl,hel⟩:=HS.out.at Tm.cs_len zo zo;obtain⟨x,hx⟩:∃x,L[i]?=some x:=⟨L[i]'(by rw[HLN.out];exact hlt),gA _⟩;have hnd:=hel i x hx;have hfx:=HOK.out x (jA hx);have hrx:R wr x.x.s x.x.A x.x.c x.x.l x.x.s' x.x.A' x.x.c' x.x.l' x.x.q (dgT x):=(hfx.below hB).r;have hdx:dgT x+2≤M:=mA (wsum_mem (jA hx)) (HWS.out _);have hss:sz (pget (prs (L.take i)) at_)≤M+1:=mA (get_sz (fun t ht=>HOK.out t (List.mem_of_mem_take ht)) at_) (zi (mA (wsum_take_le L i at_) (HWS.out at_)));have hpt:=pget_take hx at_;have i1:(i:Int)<(n:Int):=zo;have i2:(0:Int)≤(i:Int):=zo;have HS1:Hid (0≤M):=zh (wA _);clear hel hx hfx;by_cases hq:x.at_=at_
   ·have g1:(x.at_==at_)=true:=by simpa using hq
    have HSM:Hid (pget (prs (L.take i)) at_+x.x.q=pget (prs (L.take (i+1))) at_):=zh (by rw[hpt,yA hq]);clear hpt hq;have Bz:=zr wr;obtain⟨pA0,pA1,pA2,pA3,pA4,-⟩:=(hnd.below (bT hB Bz)).ez;go_upto_region 5 with(fail)
    obtain⟨V1,hW,x2,hN⟩:=zAc wr #[.int .i64 x.at_,.bool x.x.s,.slice x.x.A x.x.l x.x.c,.bool x.x.s',.slice x.x.A' x.x.l' x.x.c'] 32;rw[←hW];clear hW;obtain⟨v2,hb2⟩:=ze wr.heap.size;rw[←hb2] at x2 ⊢;have o0_2:w.heap.size<v2:=zi (zx HX0 Bz).lt;have o1_2:(w.heap.size+1)<v2:=zi (zx HX1 Bz).lt;have ow_2:w.heap.size≤v2:=zi (zw hB Bz);replace hrx:=hrx.below hN;replace hs:=hs.below hN;replace hB:=bT (bT hB Bz) hN;replace HX0:=zba HX0 Bz hN;replace HX1:=zba HX1 Bz hN;have HX2:=zh x2;clear x2 hN Bz hb2;have Bz:=zr V1;clear pA0 pA1 pA2 pA3 pA4;obtain⟨pb0,pb1,pb2,pb3,-⟩:=(zx HX1 Bz).cz;obtain⟨pc0,pc1,pc2,pc3,pc4,-⟩:=(zx HX2 Bz).cz;go_wp2_with fail
    with_reducible refine(add_q (R.below hs.r) (R.below hrx) zo (zt hT hB Bz)).mono ?_
    rintro e w1 ⟨s1,A1,c1,l1,s1r,A1r,c1r,l1r,rfl,h1,z⟩;replace z:=zq (a:=V1) z;replace Bz:=bT Bz z;clear z;clear pb0 pb1 pb2 pb3 pc0 pc1 pc2 pc3 pc4;obtain⟨pb0,pb1,pb2,pb3,-⟩:=(zx HX1 Bz).cz;obtain⟨y1,fb0,fb1,fb2,fb3,-⟩:=(zx HX1 Bz).fz;go_upto_region 7 with(fail)
    obtain⟨V2,hW,x,kk,far,bel⟩:=store4 (.bool s1) (.slice A1 l1 c1) (.bool s1r) (.slice A1r l1r c1r) (zx HX1 Bz) nofun nofun nofun nofun;rw[←hW];clear hW;replace h1:=h1.k kk;replace hB:=bel w.heap.size w zo (bT hB Bz);replace HX0:=zf far HX0 Bz;replace HX2:=zf far HX2 Bz;replace HX1:=zh x;clear x kk far bel Bz;have Bz:=zr V2;clear pb0 pb1 pb2 pb3 fb0 fb1 fb2 fb3 y1;go_wp2_with fail
    have hs1:=HS1.out;go_roundg (n-(i+1))
    case measure=>have:=HGK.out;omega
    case rel=>exact⟨i+1,_,_,_,_,_,_,_,_,zo,rfl,by go_num,by rw[←HSM.out];exact RN.below h1,HX0.out.below (bT Bz),HX1.out.below (bT Bz),bT (bT hB Bz)⟩
   ·have g1:(x.at_==at_)=false:=by simpa using hq
    have HSM:Hid (pget (prs (L.take i)) at_=pget (prs (L.take (i+1))) at_):=zh (by rw[hpt,tA hq,kD]);clear hpt hq;have Bz:=zr wr;obtain⟨pA0,pA1,pA2,pA3,pA4,-⟩:=(hnd.below (bT hB Bz)).ez;go_upto_region 5 with(fail)
    obtain⟨V1,hW,x2,hN⟩:=zAc wr #[.int .i64 x.at_,.bool x.x.s,.slice x.x.A x.x.l x.x.c,.bool x.x.s',.slice x.x.A' x.x.l' x.x.c'] 32;rw[←hW];clear hW;obtain⟨v2,hb2⟩:=ze wr.heap.size;rw[←hb2] at x2 ⊢;have o0_2:w.heap.size<v2:=zi (zx HX0 Bz).lt;have o1_2:(w.heap.size+1)<v2:=zi (zx HX1 Bz).lt;have ow_2:w.heap.size≤v2:=zi (zw hB Bz);replace hs:=hs.below hN;replace hB:=bT (bT hB Bz) hN;replace HX0:=zba HX0 Bz hN;replace HX1:=zba HX1 Bz hN;have HX2:=zh x2;clear x2 hN Bz hb2;have Bz:=zr V1;clear pA0 pA1 pA2 pA3 pA4;have pc0:=(zx HX2 Bz).cell 0 (.int .i64 x.at_) rfl;go_wp2_with fail
    have hs1:=HS1.out;go_roundg (n-(i+1))
    case measure=>have:=HGK.out;omega
    case rel=>exact⟨i+1,_,_,_,_,_,_,_,_,zo,rfl,by go_num,by rw[←HSM.out];exact RN.below hs,HX0.out.below (bT Bz),HX1.out.below (bT Bz),bT (bT hB Bz)⟩
  ·obtain rfl:i=n:=zo;have i1:¬(i:Int)<(i:Int):=zo;have HEND:Hid (pget (prs (L.take i)) at_=pget (prs L) at_):=zh (by rw[fA (by rw[HLN.out];exact aA _)]);have Bz:=zr wr;obtain⟨pa0,pa1,pa2,pa3,-⟩:=(zx HX0 Bz).cz;obtain⟨y0,fa0,fa1,fa2,fa3,-⟩:=(zx HX0 Bz).fz;obtain⟨pb0,pb1,pb2,pb3,-⟩:=(zx HX1 Bz).cz;go_wp2_with fail
   (try simp only[Exit.inBlock,Exit.then])
   refine bodyPost_ret (by simp[results,Tryz.results23,go_sem,pa0,pa1,pa2,pa3];try rfl) rfl ?_;obtain⟨V1,hW,x,kk,far,bel⟩:=store4 (.bool sS) (.slice sA sl sc) (.bool sS') (.slice sA' sl' sc') (zx HX0 Bz) nofun nofun nofun nofun;rw[←hW];clear hW;replace hs:=hs.k kk;replace hB:=bel w.heap.size w zo (bT hB Bz);replace HX1:=zf far HX1 Bz;replace HX0:=zh x;clear x kk far bel Bz;have Bz:=zr V1;have hF:=bT (c:=V1) hB Bz;exact⟨_,_,_,_,_,_,_,_,rfl,by rw[←HEND.out];exact RN.below hs,bT hF⟩
def DT1 (w W:World) (vb:Nat) (P Q:List (Int×Rat)) (n m D gk:Nat) (s6 s7:Value) (wr:World):Prop :=
 ∃(i j:Nat) (q:Rat) (sS:Bool) (sA:Option Addr) (sc sl:Nat) (sS':Bool) (sA':Option Addr) (sc' sl':Nat),s6=.int .i64 (i:Int)∧s7=.int .i64 (j:Int)∧i≤n∧j≤m∧n-i+(m-j)≤gk∧RN wr sS sA sc sl sS' sA' sc' sl' q∧Dotted q P Q i j∧sz q≤1+i*D∧
  Bx wr w.heap.size #[.bool false,.slice none 0 0,.bool false,.slice none 0 0] 30∧Bx wr vb #[.bool sS,.slice sA sl sc,.bool sS',.slice sA' sl' sc'] 30∧Below w.heap.size w wr∧Below W.heap.size W wr
theorem dotV_q {w:World} {n:Nat} (h:GV w X n cx P M) (h':GV w Y m cy Q M') (hM0:n*(M+M'+3)≤15000000000) (hM:M≤15000000000) (hM':M'≤15000000000) (hn:n≤1000000) (hm:m≤1000000) (hT:Hid (Tab w)) :
  Calls Tryz.prog 71 #[.slice X n cx,.slice Y m cy] w (TellsR w (pdot P Q)):=by
 have hx:=zh h;have hy:=zh h';have hM:M≤19000000000:=zo;have hM':M'≤19000000000:=zo;clear h h';obtain⟨W,hW,x0,hB⟩:=zAc w #[.bool false,.slice none 0 0,.bool false,.slice none 0 0] 30;have HX0:=zh x0;clear x0;have Bz:=zr W;go_enter Tryz.func71,Tryz.ntmps71
 go_wp2_with fail
 rw[←hW];clear hW;go_wp2_with fail
 with_reducible refine(ordered_q (hx.out.below (bT hB (bT (b:=W) Bz))) hM hn (zt hT hB Bz)).mono ?_
 rintro e w1 ⟨A1,n1,c1,P1,rfl,h1,r1,e1,l1,z⟩;replace z:=zq (a:=W) z;replace Bz:=bT Bz z;clear z;go_wp2_with fail
 with_reducible refine(ordered_q (hy.out.below (bT hB (bT (b:=w1) Bz))) hM' hm (zt hT hB Bz)).mono ?_
 rintro e w2 ⟨A2,n2,c2,P2,rfl,h2,r2,e2,l2,z⟩;replace z:=zq (a:=w1) z;replace h1:=h1.below z;replace Bz:=bT Bz z;clear z;go_upto_region 3 with(fail)
 obtain⟨V1,hW,x1,hN⟩:=zAc w2 #[.bool false,.slice none 0 0,.bool false,.slice none 0 0] 30;rw[←hW];clear hW;obtain⟨v1,hb1⟩:=ze w2.heap.size;rw[←hb1] at x1 ⊢;have o0_1:w.heap.size<v1:=zi (zx HX0 Bz).lt;have ow_1:w.heap.size≤v1:=zi (zw hB Bz);replace hB:=bT (bT hB Bz) hN;replace HX0:=zba HX0 Bz hN;have HX1:=zh x1;have HN2:=zh hN;have how2:w2.heap.size≤v1:=zo;clear x1 hN Bz hb1;have Bz:=zr V1;go_wp2_with fail
 obtain⟨LX,x1,x2,rfl,x4,x5⟩:=h1;obtain⟨LY,y1,y2,rfl,y4,y5⟩:=h2;obtain⟨D,hD⟩:∃D,D=M+M'+3:=⟨_,rfl⟩;rw[←hD] at hM0;have HSX:=zh x1;have HSY:=zh y1;have HLX:=zh x1.1;have HLY:=zh y1.1;have HOX:=zh x2;have HOY:=zh y2;have HWX:=zh x4;have HWY:=zh y4;have HRX:=zh r1;have HRY:=zh r2;have HGX:=zh e1;have HGY:=zh e2;have HB1:=zh (bT hB Bz);have XX0:=zh (zx HX0 Bz);have XX1:=zh (zx HX1 Bz);clear x1 x2 x4 x5 y1 y2 y4 y5 r1 r2 e1 e2 hB Bz HX0 HX1;go_loopg [6,7] (n1+n2) (fun gk s6 s7 wr=>DT1 w w2 v1 (prs LX) (prs LY) n1 n2 D gk s6 s7 wr)
 case atStart=>exact⟨0,0,0,_,_,_,_,_,_,_,_,rfl,rfl,wA _,wA _,aA _,RN.zero _,Dotted.start _ _,mA sz_zero zo,XX0.out,XX1.out,HB1.out,HN2.out⟩
 case round =>
  clear HB1 XX0 XX1 HN2;obtain⟨i,j,q,sS,sA,sc,sl,sS',sA',sc',sl',rfl,rfl,hi,hj,hgk,hs,hd,hsq,hx0,hx1,hB,hBW⟩:=hrel;have HDT:=zh hd;have HX0:=zh hx0;have HX1:=zh hx1;clear hd hx0 hx1;by_cases hin:i<n1
  ·have i1:(i:Int)<(n1:Int):=zo;by_cases hjm:j<n2
   ·obtain⟨bx,ox,rfl,hel⟩:=HSX.out.at Tm.cs_len zo zo;obtain⟨by_,oy,rfl,hel'⟩:=HSY.out.at Tm.cs_len zo zo;obtain⟨x,ex⟩:∃x,LX[i]?=some x:=⟨LX[i]'(by rw[HLX.out];exact hin),gA _⟩;obtain⟨y,ey⟩:∃y,LY[j]?=some y:=⟨LY[j]'(by rw[HLY.out];exact hjm),gA _⟩;have hnd:=hel i x ex;have hnd':=hel' j y ey;have hfx:=HOX.out x (jA ex);have hfy:=HOY.out y (jA ey);have hrx:R wr x.x.s x.x.A x.x.c x.x.l x.x.s' x.x.A' x.x.c' x.x.l' x.x.q (dgT x):=(hfx.below hBW).r;have hry:R wr y.x.s y.x.A y.x.c y.x.l y.x.s' y.x.A' y.x.c' y.x.l' y.x.q (dgT y):=(hfy.below hBW).r;have hdx:dgT x+2≤M+1:=mA (wsum_mem (jA ex)) (HWX.out _);have hdy:dgT y+2≤M'+1:=mA (wsum_mem (jA ey)) (HWY.out _);have hsx:=hfx.szd;have hsy:=hfy.szd;have hsm:sz (x.x.q*y.x.q)≤(dgT x+1)+(dgT y+1):=sz_mul hsx hsy;have hsa:=sz_add hsq hsm;have hiD:i*D≤n*D:=fB _ zo;have hiS:(i+1)*D=i*D+D:=by rw[jB,bD]
    have hD1:D≤n*D:=Nat.le_mul_of_pos_left D zo;have hpx:=prs_get ex;have hpy:=prs_get ey;have j1:(j:Int)<(n2:Int):=zo;have i2:(0:Int)≤(i:Int):=zo;have j2:(0:Int)≤(j:Int):=zo;clear hel hel' ex ey hfx hfy;by_cases hxy:x.at_<y.at_
    ·have HD2:Hid (Dotted q (prs LX) (prs LY) (i+1) j):=zh (HDT.out.left HRX.out HRY.out hpx hpy hxy);have HS1:Hid (sz q≤1+(i+1)*D):=zh (by rw[hiS];omega);have g1:x.at_<y.at_:=hxy;clear hxy hpx hpy;have Bz:=zr wr;have pA0:=(hnd.below (bT hBW Bz)).c0 (u:=.int .i64 x.at_) rfl;have pB0:=(hnd'.below (bT hBW Bz)).c0 (u:=.int .i64 y.at_) rfl;go_wp2_with fail
     (try simp only[vA,vBa,vC])
     refine zl (zz [0,1,2,3,4,5,6,7,8,9,10,11] .done) [] (zsa pA0 (zIa pB0)) ?_;iterate 12 (refine zUa ?_;try simp only[uW,uX,uY,uZ])
     refine zAa ?_;go_wp2_with fail
     have hs1:=HS1.out;go_roundg (n1-(i+1)+(n2-(j)))
     case measure=>omega
     case rel=>exact⟨i+1,j,_,_,_,_,_,_,_,_,_,by go_num,rfl,zo,zo,aA _,RN.below hs,HD2.out,hs1,HX0.out.below (bT Bz),HX1.out.below (bT Bz),bT (bT hB Bz),bT (bT hBW Bz)⟩
    ·have g1:¬x.at_<y.at_:=hxy;by_cases hyx:y.at_<x.at_
     ·have HD2:Hid (Dotted q (prs LX) (prs LY) i (j+1)):=zh (HDT.out.right HRX.out HRY.out hpx hpy hyx);have HS1:Hid (sz q≤1+i*D):=zh hsq;have g2:y.at_<x.at_:=hyx;clear hxy hyx hpx hpy;have Bz:=zr wr;have pA0:=(hnd.below (bT hBW Bz)).c0 (u:=.int .i64 x.at_) rfl;have pB0:=(hnd'.below (bT hBW Bz)).c0 (u:=.int .i64 y.at_) rfl;go_wp2_with fail
      (try simp only[vA,vBa,vC])
      refine zl (zz [0,1,2,3,4,5,6,7,8,9,10,11] .done) [] (zsa pA0 (zIa pB0)) ?_;iterate 12 (refine zUa ?_;try simp only[uW,uX,uY,uZ])
      refine zAa ?_;go_wp2_with fail
      (try simp only[vA,vBa,vC])
      refine zl (zz [0,1,2,3,4,5,6,7,8,9,10,11] .done) [] (zsa pA0 (zIa pB0)) ?_;iterate 12 (refine zUa ?_;try simp only[uW,uX,uY,uZ])
      refine zAa ?_;go_wp2_with fail
      have hs1:=HS1.out;go_roundg (n1-(i)+(n2-(j+1)))
      case measure=>omega
      case rel=>exact⟨i,j+1,_,_,_,_,_,_,_,_,_,rfl,by go_num,zo,zo,aA _,RN.below hs,HD2.out,hs1,HX0.out.below (bT Bz),HX1.out.below (bT Bz),bT (bT hB Bz),bT (bT hBW Bz)⟩
     ·have HD2:Hid (Dotted (q+x.x.q*y.x.q) (prs LX) (prs LY) (i+1) (j+1)):=zh (HDT.out.both HRX.out HRY.out hpx hpy (show x.at_=y.at_ by omega));have HS1:Hid (sz (q+x.x.q*y.x.q)≤1+(i+1)*D):=zh (by rw[hiS];omega);have g2:¬y.at_<x.at_:=hyx;clear hxy hyx hpx hpy;have Bz:=zr wr;obtain⟨pb0,pb1,pb2,pb3,-⟩:=(zx HX1 Bz).cz;obtain⟨y1,fb0,fb1,fb2,fb3,-⟩:=(zx HX1 Bz).fz;obtain⟨pA0,pA1,pA2,pA3,pA4,-⟩:=(hnd.below (bT hBW Bz)).ez;obtain⟨pB0,pB1,pB2,pB3,pB4,-⟩:=(hnd'.below (bT hBW Bz)).ez;go_wp2_with fail
      (try simp only[vA,vBa,vC])
      refine zl (zz [0,1,2,3,4,5,6,7,8,9,10,11] .done) [] (zsa pA0 (zIa pB0)) ?_;iterate 12 (refine zUa ?_;try simp only[uW,uX,uY,uZ])
      refine zAa ?_;go_wp2_with fail
      (try simp only[vA,vBa,vC])
      refine zl (zz [0,1,2,3,4,5,6,7,8,9,10,11] .done) [] (zsa pA0 (zIa pB0)) ?_;iterate 12 (refine zUa ?_;try simp only[uW,uX,uY,uZ])
      refine zAa ?_;go_wp2_with fail
      (try simp only[vA,vBa,vC])
      refine zl (.take 0 (.pure 1 (.pure 2 (.pure 3 (.pure 4 (.take 5 (.pure 6 (.pure 7 (.pure 8 (.pure 9 (.take 10 (.only 11 (.only 12 (.only 13 .done)))))))))))))) [13] (zsa pb0 (zsa pb1 (zsa pb2 (zsa pb3 (zsa pA1 (zsa pA2 (zsa pA3 (zsa pA4 (zsa pB1 (zsa pB2 (zsa pB3 (zIa pB4)))))))))))) ?_;iterate 11 ((first|refine zUa ?_|refine zV ?_);try simp only[uW,uX,uY,uZ])
      refine zC 33 rfl rfl (fun K hK=>?_);go_simp
      with_reducible refine(mul_q (R.below hrx) (R.below hry) zo (zt hT hB Bz)).mono ?_
      rintro e w11 ⟨s11,A11,c11,l11,s11r,A11r,c11r,l11r,rfl,h11,z⟩;replace z:=zq (a:=wr) z;replace hs:=hs.below z;replace Bz:=bT Bz z;clear z;clear pb0 pb1 pb2 pb3 fb0 fb1 fb2 fb3 y1 pA0 pA1 pA2 pA3 pA4 pB0 pB1 pB2 pB3 pB4;obtain⟨pb0,pb1,pb2,pb3,-⟩:=(zx HX1 Bz).cz;obtain⟨y1,fb0,fb1,fb2,fb3,-⟩:=(zx HX1 Bz).fz;obtain⟨-,pA1,pA2,pA3,pA4,-⟩:=(hnd.below (bT hBW Bz)).ez;obtain⟨-,pB1,pB2,pB3,pB4,-⟩:=(hnd'.below (bT hBW Bz)).ez;refine hK.out _ _ ⟨pb0,pb1,pb2,pb3,pA1,pA2,pA3,pA4,pB1,pB2,pB3,pB4⟩ (fun _=>?_);try simp only[uW,uX,uY,uZ]
      clear hK K;refine zC 34 rfl rfl (fun K hK=>?_);go_simp
      with_reducible refine(add_q (R.below hs.r) (R.below h11.r) zo (zt hT hB Bz)).mono ?_
      rintro e w12 ⟨s12,A12,c12,l12,s12r,A12r,c12r,l12r,rfl,h12,z⟩;replace z:=zq (a:=w11) z;replace Bz:=bT Bz z;clear z;clear pb0 pb1 pb2 pb3 fb0 fb1 fb2 fb3 y1 pA1 pA2 pA3 pA4 pB1 pB2 pB3 pB4;obtain⟨pb0,pb1,pb2,pb3,-⟩:=(zx HX1 Bz).cz;obtain⟨y1,fb0,fb1,fb2,fb3,-⟩:=(zx HX1 Bz).fz;obtain⟨-,pA1,pA2,pA3,pA4,-⟩:=(hnd.below (bT hBW Bz)).ez;obtain⟨-,pB1,pB2,pB3,pB4,-⟩:=(hnd'.below (bT hBW Bz)).ez;refine hK.out _ _ ⟨pb0,pb1,pb2,pb3,pA1,pA2,pA3,pA4,pB1,pB2,pB3,pB4⟩ (fun _=>?_);try simp only[uW,uX,uY,uZ]
      clear hK K;refine zAe (o:=⟨none,_,_,_,_,_⟩) rfl rfl zd (fun K hK=>?_);go_simp
      refine hK.out _ _ ?_;try simp only[Act.put,uX,uY,uZ]
      clear hK K;refine zAa ?_;obtain⟨V11,hW,x,kk,far,bel⟩:=store4 (.bool s12) (.slice A12 l12 c12) (.bool s12r) (.slice A12r l12r c12r) (zx HX1 Bz) nofun nofun nofun nofun;rw[←hW];clear hW;replace h12:=h12.k kk;replace hB:=bel w.heap.size w zo (bT hB Bz);replace hBW:=bel w2.heap.size w2 zo (bT hBW Bz);replace HX0:=zf far HX0 Bz;replace HX1:=zh x;clear x kk far bel Bz;have Bz:=zr V11;clear pb0 pb1 pb2 pb3 fb0 fb1 fb2 fb3 y1 pA1 pA2 pA3 pA4 pB1 pB2 pB3 pB4;go_wp2_with fail
      have hs1:=HS1.out;go_roundg (n1-(i+1)+(n2-(j+1)))
      case measure=>omega
      case rel=>exact⟨i+1,j+1,_,_,_,_,_,_,_,_,_,by go_num,by go_num,zo,zo,aA _,RN.below h12,HD2.out,hs1,HX0.out.below (bT Bz),HX1.out.below (bT Bz),bT (bT hB Bz),bT (bT hBW Bz)⟩
   ·obtain rfl:j=n2:=zo;have j1:¬(j:Int)<(j:Int):=zo;have HEND:Hid (q=pdot P Q):=zh (by rw[HDT.out.done (.inr (by rw[prs_len,HLY.out];exact aA _)),pdot_congr HGY.out,pdot_congr_left HGX.out]);have Bz:=zr wr;obtain⟨pa0,pa1,pa2,pa3,-⟩:=(zx HX0 Bz).cz;obtain⟨y0,fa0,fa1,fa2,fa3,-⟩:=(zx HX0 Bz).fz;obtain⟨pb0,pb1,pb2,pb3,-⟩:=(zx HX1 Bz).cz;go_wp2_with fail
    (try simp only[Exit.inBlock,Exit.then])
    refine bodyPost_ret (by simp[results,Tryz.results71,go_sem,pa0,pa1,pa2,pa3];try rfl) rfl ?_;obtain⟨V1,hW,x,kk,far,bel⟩:=store4 (.bool sS) (.slice sA sl sc) (.bool sS') (.slice sA' sl' sc') (zx HX0 Bz) nofun nofun nofun nofun;rw[←hW];clear hW;replace hs:=hs.k kk;replace hB:=bel w.heap.size w zo (bT hB Bz);replace HX1:=zf far HX1 Bz;replace HX0:=zh x;clear x kk far bel Bz;have Bz:=zr V1;have hF:=bT (c:=V1) hB Bz;exact⟨_,_,_,_,_,_,_,_,rfl,by rw[←HEND.out];exact RN.below hs,bT hF⟩
  ·obtain rfl:i=n1:=zo;have i1:¬(i:Int)<(i:Int):=zo;have HEND:Hid (q=pdot P Q):=zh (by rw[HDT.out.done (.inl (by rw[prs_len,HLX.out];exact aA _)),pdot_congr HGY.out,pdot_congr_left HGX.out]);have Bz:=zr wr;obtain⟨pa0,pa1,pa2,pa3,-⟩:=(zx HX0 Bz).cz;obtain⟨y0,fa0,fa1,fa2,fa3,-⟩:=(zx HX0 Bz).fz;obtain⟨pb0,pb1,pb2,pb3,-⟩:=(zx HX1 Bz).cz;go_wp2_with fail
   (try simp only[Exit.inBlock,Exit.then])
   refine bodyPost_ret (by simp[results,Tryz.results71,go_sem,pa0,pa1,pa2,pa3];try rfl) rfl ?_;obtain⟨V1,hW,x,kk,far,bel⟩:=store4 (.bool sS) (.slice sA sl sc) (.bool sS') (.slice sA' sl' sc') (zx HX0 Bz) nofun nofun nofun nofun;rw[←hW];clear hW;replace hs:=hs.k kk;replace hB:=bel w.heap.size w zo (bT hB Bz);replace HX1:=zf far HX1 Bz;replace HX0:=zh x;clear x kk far bel Bz;have Bz:=zr V1;have hF:=bT (c:=V1) hB Bz;exact⟨_,_,_,_,_,_,_,_,rfl,by rw[←HEND.out];exact RN.below hs,bT hF⟩
def sameT (p:Tm×Tm):Bool:=decide (p.1.at_=p.2.at_)&&decide (p.1.x.q=p.2.x.q)
theorem prs_zip:∀{L M:List Tm},L.length=M.length→((L.zip M).all sameT=true↔prs L=prs M):=by
 intro L;induction L with
 | nil=>intro M h;cases M with
  | nil=>simp[prs]
  | cons y M=>simp at h
 | cons x L ih =>
  intro M h;cases M with
  | nil=>simp at h
  | cons y M =>
   have h2:=ih (M:=M) (by simpa using h);rw[List.zip_cons_cons,List.all_cons,gC,h2];show _↔(x.at_,x.x.q) :: prs L=(y.at_,y.x.q) :: prs M
   unfold sameT
   simp only[gC,decide_eq_true_eq,List.cons.injEq,Prod.mk.injEq]
theorem prs_zip_all {M:List Tm} (h:L.length=M.length):decide (prs L=prs M)=(L.zip M).all sameT:=by
 have:=prs_zip h;cases e:(L.zip M).all sameT
 ·rw[e] at this;exact cA (fun h2=>by have:=this.2 h2;cases this)
 ·rw[e] at this;exact bA (this.1 rfl)
def SV1 (w:World) (Z:List (Tm×Tm)) (n gk:Nat) (s:Value) (wr:World):Prop:=∃i:Nat,i≤n∧n-i=gk∧s=.int .i64 (i:Int)∧Below w.heap.size w wr∧(Z.take i).all sameT=true
theorem OnT.len {w:World} (h:OnT w L (fun _=>M)):∀t∈L,t.x.l≤M∧t.x.l'≤M:=fun t ht=>by have h1:=h.dg t ht;have h2:=(h t ht).2.2;unfold dgT at h1;simp only at h2;omega
theorem sameVec_q {w:World} {n n' c:Nat} (h:NV w A n c P M) (h':NV w A' n' c' Q M') (hM:M≤40000000000) (hM':M'≤40000000000) (hn:n≤1000000) (hn':n'≤1000000) (r:Bool) (hr:Hid (decide (P=Q)=r)) :
  Calls Tryz.prog 14 #[.slice A n c,.slice A' n' c'] w fun e w'=>e=.returned (.bool r)∧Below w.heap.size w w':=by
 obtain⟨L,x1,x2,rfl,x4⟩:=h;obtain⟨K,y1,y2,rfl,y4⟩:=h';have H:=zh x1;have H':=zh y1;have HLN:=zh x1.1;have HMN:=zh y1.1;have HOX:=zh x2;have HOY:=zh y2;clear x1 x2 x4 y1 y2 y4;by_cases hnn:n=n'
 ·subst hnn;have g0:((n:Int) !=(n:Int))=false:=by simp
  have hra:Hid ((L.zip K).all sameT=r):=zh (by rw[←hr.out,prs_zip_all (HLN.out.trans HMN.out.symm)]);have HZL:Hid ((L.zip K).length=n):=zh (by rw[List.length_zip,HLN.out,HMN.out];exact Nat.min_self _);have hst:SV1 w (L.zip K) n n (.int .i64 ((0:Nat):Int)) w:=⟨0,wA _,rfl,rfl,Below.refl _ _,by simp⟩;have HST:=zh hst;clear hst hr;go_enter Tryz.func14,Tryz.ntmps14
  go_wp2_with fail
  go_loopg [5] n (fun gk s wr=>SV1 w (L.zip K) n gk s wr)
  case atStart=>exact HST.out
  case round =>
   clear HST;obtain⟨i,hi,hgk,rfl,hB,hd⟩:=hrel;have HGK:=zh hgk;have HD:=zh hd;clear hgk hd;by_cases hlt:i<n
   ·obtain⟨b,off,rfl,hel⟩:=H.out.at Tm.cs_len zo zo;obtain⟨b',off',rfl,hel'⟩:=H'.out.at Tm.cs_len zo zo;obtain⟨x,ex⟩:∃x,L[i]?=some x:=⟨L[i]'(by rw[HLN.out];exact hlt),gA _⟩;obtain⟨y,ey⟩:∃y,K[i]?=some y:=⟨K[i]'(by rw[HMN.out];exact hlt),gA _⟩;have hnd:=hel i x ex;have hnd':=hel' i y ey;have HZI:Hid ((L.zip K)[i]?=some (x,y)):=zh (by rw[List.getElem?_zip_eq_some];exact⟨ex,ey⟩);have HRX:=zh (HOX.out x (jA ex)).1;have HRY:=zh (HOY.out y (jA ey)).1;have hlx0:=HOX.out.len x (jA ex);have hly0:=HOY.out.len y (jA ey);have hlx:x.x.l≤800000000000∧x.x.l'≤800000000000:=zo;have hly:y.x.l≤800000000000∧y.x.l'≤800000000000:=zo;have hsx:sz x.x.q+1≤M:=(HOX.out x (jA ex)).2.2;have hsy:sz y.x.q+1≤M':=(HOY.out y (jA ey)).2.2;have i1:(i:Int)<(n:Int):=zo;have i2:(0:Int)≤(i:Int):=zo;clear ex hel ey hel' hlx0 hly0;by_cases hat:x.at_=y.at_
    ·have g1:(x.at_ != y.at_)=false:=by simpa using hat
     by_cases hq:x.x.q=y.x.q
     ·have HQ:Hid (decide (x.x.q=y.x.q)=true):=zh (bA hq);have HP:Hid (sameT (x,y)=true):=zh (by unfold sameT;rw[bA hat,bA hq];rfl);clear hat hq;have Bz:=zr wr;obtain⟨pA0,pA1,pA2,pA3,pA4,-⟩:=(hnd.below (bT hB Bz)).ez;obtain⟨pB0,pB1,pB2,pB3,pB4,-⟩:=(hnd'.below (bT hB Bz)).ez;go_wp2_with fail
      (try simp only[vA,vBa,vC])
      refine zl (zz [0,1,2,3,4,5,6,7,8,9,10,11,12,13,14,15,16,17,18,19,20,21] (.only 22 (zz [23,24] .done))) [] (zsa pA0 (zsa pA1 (zsa pA2 (zsa pA3 (zsa pA4 (zsa pB0 (zsa pB1 (zsa pB2 (zsa pB3 (zIa pB4)))))))))) ?_;iterate 22 (refine zUa ?_;try simp only[uW,uX,uY,uZ])
      refine zC 39 rfl rfl (fun K hK=>?_);go_simp
      with_reducible refine(sameRat_rn (HRX.out.below (bT hB (bT (b:=wr) Bz))) (HRY.out.below (bT hB (bT (b:=wr) Bz))) hlx hly true HQ).mono ?_
      rintro e w1 ⟨rfl,z⟩;replace z:=zq (a:=wr) z;replace Bz:=bT Bz z;clear z;clear pA0 pA1 pA2 pA3 pA4 pB0 pB1 pB2 pB3 pB4;obtain⟨pA0,pA1,pA2,pA3,pA4,-⟩:=(hnd.below (bT hB Bz)).ez;obtain⟨pB0,pB1,pB2,pB3,pB4,-⟩:=(hnd'.below (bT hB Bz)).ez;refine hK.out _ _ ⟨pA0,pA1,pA2,pA3,pA4,pB0,pB1,pB2,pB3,pB4⟩ (fun _=>?_);try simp only[uW,uX,uY,uZ]
      clear hK K;iterate 2 (refine zUa ?_;try simp only[uW,uX,uY,uZ])
      refine zAa ?_;go_wp2_with fail
      go_roundg (n-(i+1))
      case measure=>have:=HGK.out;omega
      case rel=>exact⟨i+1,zo,rfl,by go_num,bT (bT hB Bz),take_all HD.out HZI.out HP.out⟩
     ·have HQ:Hid (decide (x.x.q=y.x.q)=false):=zh (cA hq);have HP:Hid (sameT (x,y)=false):=zh (by unfold sameT;rw[cA hq,Bool.and_false]);clear hat hq;have Bz:=zr wr;obtain⟨pA0,pA1,pA2,pA3,pA4,-⟩:=(hnd.below (bT hB Bz)).ez;obtain⟨pB0,pB1,pB2,pB3,pB4,-⟩:=(hnd'.below (bT hB Bz)).ez;go_wp2_with fail
      (try simp only[vA,vBa,vC])
      refine zl (zz [0,1,2,3,4,5,6,7,8,9,10,11,12,13,14,15,16,17,18,19,20,21] (.only 22 (zz [23,24] .done))) [] (zsa pA0 (zsa pA1 (zsa pA2 (zsa pA3 (zsa pA4 (zsa pB0 (zsa pB1 (zsa pB2 (zsa pB3 (zIa pB4)))))))))) ?_;iterate 22 (refine zUa ?_;try simp only[uW,uX,uY,uZ])
      refine zC 39 rfl rfl (fun K hK=>?_);go_simp
      with_reducible refine(sameRat_rn (HRX.out.below (bT hB (bT (b:=wr) Bz))) (HRY.out.below (bT hB (bT (b:=wr) Bz))) hlx hly false HQ).mono ?_
      rintro e w1 ⟨rfl,z⟩;replace z:=zq (a:=wr) z;replace Bz:=bT Bz z;clear z;clear pA0 pA1 pA2 pA3 pA4 pB0 pB1 pB2 pB3 pB4;obtain⟨pA0,pA1,pA2,pA3,pA4,-⟩:=(hnd.below (bT hB Bz)).ez;obtain⟨pB0,pB1,pB2,pB3,pB4,-⟩:=(hnd'.below (bT hB Bz)).ez;refine hK.out _ _ ⟨pA0,pA1,pA2,pA3,pA4,pB0,pB1,pB2,pB3,pB4⟩ (fun _=>?_);try simp only[uW,uX,uY,uZ]
      clear hK K;iterate 2 (refine zUa ?_;try simp only[uW,uX,uY,uZ])
      refine zAa ?_;go_wp2_with fail
      go_ret
      have hF:=bT (c:=w1) hB Bz;obtain rfl:r=false:=by rw[←hra.out];exact all_no HZI.out HP.out
      exact⟨rfl,bT (bT hB Bz)⟩
    ·have g1:(x.at_ != y.at_)=true:=by simpa using hat
     have HP:Hid (sameT (x,y)=false):=zh (by unfold sameT;rw[cA hat,Bool.false_and]);clear hat;have Bz:=zr wr;have pA0:=(hnd.below (bT hB Bz)).c0 (u:=.int .i64 x.at_) rfl;have pB0:=(hnd'.below (bT hB Bz)).c0 (u:=.int .i64 y.at_) rfl;go_wp2_with fail
     (try simp only[vA,vBa,vC])
     refine zl (zz [0,1,2,3,4,5,6,7,8,9,10,11,12,13,14,15,16,17,18,19,20,21] (.only 22 (zz [23,24] .done))) [] (zsa pA0 (zIa pB0)) ?_;iterate 12 (refine zUa ?_;try simp only[uW,uX,uY,uZ])
     iterate 10 (refine zN rfl rfl ?_;try simp only[uW,uX,uY,uZ])
     refine wpPlan_pass (o:=⟨some 39,_,_,_,_,_⟩) rfl rfl ⟨pA0,pB0⟩ ?_;try simp only[uW,uX,uY,uZ]
     refine zN rfl rfl ?_;try simp only[uW,uX,uY,uZ]
     refine zUa ?_;try simp only[uW,uX,uY,uZ]
     refine zAa ?_;go_wp2_with fail
     go_ret
     have hF:=bT (c:=wr) hB Bz;obtain rfl:r=false:=by rw[←hra.out];exact all_no HZI.out HP.out
     exact⟨rfl,bT (bT hB Bz)⟩
   ·obtain rfl:i=n:=zo;have i1:¬(i:Int)<(i:Int):=zo;obtain rfl:r=true:=by rw[←hra.out];exact all_yes HZL.out HD.out
    go_wp2_with fail
    go_ret
    exact⟨rfl,hB⟩
 ·have g0:((n:Int) !=(n':Int))=true:=by simp;omega
  obtain rfl:r=false:=by rw[←hr.out];exact cA (fun e=>hnn (by have e2:=congrArg List.length e;rw[prs_len,prs_len,HLN.out,HMN.out] at e2;exact e2))
  clear hr;go_enter Tryz.func14,Tryz.ntmps14
  go_wp2_with fail
  go_ret
  exact⟨rfl,Below.refl _ _⟩
theorem same1_q {w:World} {y:Tm} (hrx:R w x.x.s x.x.A x.x.c x.x.l x.x.s' x.x.A' x.x.c' x.x.l' x.x.q (sz x.x.q)) (hry:R w y.x.s y.x.A y.x.c y.x.l y.x.s' y.x.A' y.x.c' y.x.l' y.x.q (sz y.x.q)) (hsz:sz x.x.q+sz y.x.q≤40000000000) (r:Bool) (hr:Hid (sameT (x,y)=r)) :
  Calls Tryz.prog 67 #[.agg #[.int .i64 x.at_,.bool x.x.s,.slice x.x.A x.x.l x.x.c,.bool x.x.s',.slice x.x.A' x.x.l' x.x.c'],.agg #[.int .i64 y.at_,.bool y.x.s,.slice y.x.A y.x.l y.x.c,.bool y.x.s',.slice y.x.A' y.x.l' y.x.c']] w fun e w'=>e=.returned (.bool r)∧Below w.heap.size w w':=by
 by_cases hat:x.at_=y.at_
 ·have g1:(x.at_==y.at_)=true:=by simpa using hat
  have HQ:Hid (decide (x.x.q=y.x.q)=r):=zh (by rw[←hr.out];unfold sameT;rw[bA hat,Bool.true_and]);clear hat hr;obtain⟨W,hW,x0,x1,hB⟩:=boxes2 w #[.int .i64 x.at_,.bool x.x.s,.slice x.x.A x.x.l x.x.c,.bool x.x.s',.slice x.x.A' x.x.l' x.x.c'] 32 #[.int .i64 y.at_,.bool y.x.s,.slice y.x.A y.x.l y.x.c,.bool y.x.s',.slice y.x.A' y.x.l' y.x.c'] 32;replace hrx:=hrx.below hB;replace hry:=hry.below hB;have HX0:=zh x0;have HX1:=zh x1;clear x0 x1;have Bz:=zr W;obtain⟨pa0,pa1,pa2,pa3,pa4,-⟩:=(zx HX0 Bz).cz;obtain⟨pb0,pb1,pb2,pb3,pb4,-⟩:=(zx HX1 Bz).cz;go_enter Tryz.func67,Tryz.ntmps67
  go_wp2_with fail
  rw[←hW];clear hW;go_wp2_with fail
  with_reducible refine(same_q (R.below hrx) (R.below hry) zo r HQ).mono ?_
  rintro e w1 ⟨rfl,b⟩;replace b:=zq (a:=W) b;replace Bz:=bT Bz b;clear b;clear pa0 pa1 pa2 pa3 pa4 pb0 pb1 pb2 pb3 pb4;go_wp2_with fail
  go_ret
  have hF:=bT (c:=w1) hB Bz;exact⟨rfl,bT hF⟩
 ·have g1:(x.at_==y.at_)=false:=by simpa using hat
  obtain rfl:r=false:=by rw[←hr.out];unfold sameT;rw[cA hat,Bool.false_and]
  clear hat hr;obtain⟨W,hW,x0,x1,hB⟩:=boxes2 w #[.int .i64 x.at_,.bool x.x.s,.slice x.x.A x.x.l x.x.c,.bool x.x.s',.slice x.x.A' x.x.l' x.x.c'] 32 #[.int .i64 y.at_,.bool y.x.s,.slice y.x.A y.x.l y.x.c,.bool y.x.s',.slice y.x.A' y.x.l' y.x.c'] 32;have HX0:=zh x0;have HX1:=zh x1;clear x0 x1;have Bz:=zr W;have pa0:=(zx HX0 Bz).cell 0 (.int .i64 x.at_) rfl;have pb0:=(zx HX1 Bz).cell 0 (.int .i64 y.at_) rfl;go_enter Tryz.func67,Tryz.ntmps67
  go_wp2_with fail
  rw[←hW];clear hW;go_wp2_with fail
  go_ret
  have hF:=bT (c:=W) hB Bz;exact⟨rfl,bT hF⟩
theorem equalFunc_q {w:World} {n n' c:Nat} (h:NV w A n c P M) (h':NV w A' n' c' Q M') (hM:M≤20000000000) (hM':M'≤20000000000) (hn:n≤1000000) (hn':n'≤1000000) (r:Bool) (hr:Hid (decide (P=Q)=r)) :
  Calls Tryz.prog 66 #[.slice A n c,.slice A' n' c',.func (.func 67) #[] #[]] w fun e w'=>e=.returned (.bool r)∧Below w.heap.size w w':=by
 obtain⟨L,x1,x2,rfl,x4⟩:=h;obtain⟨K,y1,y2,rfl,y4⟩:=h';have H:=zh x1;have H':=zh y1;have HLN:=zh x1.1;have HMN:=zh y1.1;have HOX:=zh x2;have HOY:=zh y2;clear x1 x2 x4 y1 y2 y4;by_cases hnn:n=n'
 ·subst hnn;have g0:((n:Int) !=(n:Int))=false:=by simp
  have hra:Hid ((L.zip K).all sameT=r):=zh (by rw[←hr.out,prs_zip_all (HLN.out.trans HMN.out.symm)]);have HZL:Hid ((L.zip K).length=n):=zh (by rw[List.length_zip,HLN.out,HMN.out];exact Nat.min_self _);have hst:SV1 w (L.zip K) n n (.int .i64 ((0:Nat):Int)) w:=⟨0,wA _,rfl,rfl,Below.refl _ _,by simp⟩;have HST:=zh hst;clear hst hr;go_enter Tryz.func66,Tryz.ntmps66
  go_wp2_with fail
  go_loopg [17] n (fun gk s wr=>SV1 w (L.zip K) n gk s wr)
  case atStart=>exact HST.out
  case round =>
   clear HST;obtain⟨i,hi,hgk,rfl,hB,hd⟩:=hrel;have HGK:=zh hgk;have HD:=zh hd;clear hgk hd;by_cases hlt:i<n
   ·obtain⟨b,off,rfl,hel⟩:=H.out.at Tm.cs_len zo zo;obtain⟨b',off',rfl,hel'⟩:=H'.out.at Tm.cs_len zo zo;obtain⟨x,ex⟩:∃x,L[i]?=some x:=⟨L[i]'(by rw[HLN.out];exact hlt),gA _⟩;obtain⟨y,ey⟩:∃y,K[i]?=some y:=⟨K[i]'(by rw[HMN.out];exact hlt),gA _⟩;have hnd:=hel i x ex;have hnd':=hel' i y ey;have HZI:Hid ((L.zip K)[i]?=some (x,y)):=zh (by rw[List.getElem?_zip_eq_some];exact⟨ex,ey⟩);have HRX:=zh (HOX.out x (jA ex)).1;have HRY:=zh (HOY.out y (jA ey)).1;have hlx0:=HOX.out.len x (jA ex);have hly0:=HOY.out.len y (jA ey);have hlx:x.x.l≤800000000000∧x.x.l'≤800000000000:=zo;have hly:y.x.l≤800000000000∧y.x.l'≤800000000000:=zo;have hsx:sz x.x.q+1≤M:=(HOX.out x (jA ex)).2.2;have hsy:sz y.x.q+1≤M':=(HOY.out y (jA ey)).2.2;have i1:(i:Int)<(n:Int):=zo;have i2:(0:Int)≤(i:Int):=zo;clear ex hel ey hel' hlx0 hly0;cases hp:sameT (x,y)
    ·have HP:=zh hp;clear hp;have Bz:=zr wr;obtain⟨pA0,pA1,pA2,pA3,pA4,-⟩:=(hnd.below (bT hB Bz)).ez;go_upto_region 6 with(fail)
     obtain⟨V1,hW,x0,hN⟩:=zAc wr #[.int .i64 x.at_,.bool x.x.s,.slice x.x.A x.x.l x.x.c,.bool x.x.s',.slice x.x.A' x.x.l' x.x.c'] 32;rw[←hW];clear hW;obtain⟨v0,hb0⟩:=ze wr.heap.size;rw[←hb0] at x0 ⊢;have ow_0:w.heap.size≤v0:=zi (zw hB Bz);replace hB:=bT (bT hB Bz) hN;have HX0:=zh x0;clear x0 hN Bz hb0;have Bz:=zr V1;clear pA0 pA1 pA2 pA3 pA4;obtain⟨pB0,pB1,pB2,pB3,pB4,-⟩:=(hnd'.below (bT hB Bz)).ez;go_upto_region 7 with(fail)
     obtain⟨V2,hW,x1,hN⟩:=zAc V1 #[.int .i64 y.at_,.bool y.x.s,.slice y.x.A y.x.l y.x.c,.bool y.x.s',.slice y.x.A' y.x.l' y.x.c'] 32;rw[←hW];clear hW;obtain⟨v1,hb1⟩:=ze V1.heap.size;rw[←hb1] at x1 ⊢;have ow_1:w.heap.size≤v1:=zi (zw hB Bz);replace hB:=bT (bT hB Bz) hN;replace HX0:=zba HX0 Bz hN;have HX1:=zh x1;clear x1 hN Bz hb1;have Bz:=zr V2;clear pB0 pB1 pB2 pB3 pB4;obtain⟨pa0,pa1,pa2,pa3,pa4,-⟩:=(zx HX0 Bz).cz;obtain⟨pb0,pb1,pb2,pb3,pb4,-⟩:=(zx HX1 Bz).cz;go_wp2_with fail
     with_reducible refine(same1_q (HRX.out.below (bT hB (bT (b:=V2) Bz))).r (HRY.out.below (bT hB (bT (b:=V2) Bz))).r zo false HP).mono ?_
     rintro e w1 ⟨rfl,z⟩;replace z:=zq (a:=V2) z;replace Bz:=bT Bz z;clear z;clear pa0 pa1 pa2 pa3 pa4 pb0 pb1 pb2 pb3 pb4;go_wp2_with fail
     go_ret
     have hF:=bT (c:=w1) hB Bz;obtain rfl:r=false:=by rw[←hra.out];exact all_no HZI.out HP.out
     exact⟨rfl,bT (bT hB Bz)⟩
    ·have HP:=zh hp;clear hp;have Bz:=zr wr;obtain⟨pA0,pA1,pA2,pA3,pA4,-⟩:=(hnd.below (bT hB Bz)).ez;go_upto_region 6 with(fail)
     obtain⟨V1,hW,x0,hN⟩:=zAc wr #[.int .i64 x.at_,.bool x.x.s,.slice x.x.A x.x.l x.x.c,.bool x.x.s',.slice x.x.A' x.x.l' x.x.c'] 32;rw[←hW];clear hW;obtain⟨v0,hb0⟩:=ze wr.heap.size;rw[←hb0] at x0 ⊢;have ow_0:w.heap.size≤v0:=zi (zw hB Bz);replace hB:=bT (bT hB Bz) hN;have HX0:=zh x0;clear x0 hN Bz hb0;have Bz:=zr V1;clear pA0 pA1 pA2 pA3 pA4;obtain⟨pB0,pB1,pB2,pB3,pB4,-⟩:=(hnd'.below (bT hB Bz)).ez;go_upto_region 7 with(fail)
     obtain⟨V2,hW,x1,hN⟩:=zAc V1 #[.int .i64 y.at_,.bool y.x.s,.slice y.x.A y.x.l y.x.c,.bool y.x.s',.slice y.x.A' y.x.l' y.x.c'] 32;rw[←hW];clear hW;obtain⟨v1,hb1⟩:=ze V1.heap.size;rw[←hb1] at x1 ⊢;have ow_1:w.heap.size≤v1:=zi (zw hB Bz);replace hB:=bT (bT hB Bz) hN;replace HX0:=zba HX0 Bz hN;have HX1:=zh x1;clear x1 hN Bz hb1;have Bz:=zr V2;clear pB0 pB1 pB2 pB3 pB4;obtain⟨pa0,pa1,pa2,pa3,pa4,-⟩:=(zx HX0 Bz).cz;obtain⟨pb0,pb1,pb2,pb3,pb4,-⟩:=(zx HX1 Bz).cz;go_wp2_with fail
     with_reducible refine(same1_q (HRX.out.below (bT hB (bT (b:=V2) Bz))).r (HRY.out.below (bT hB (bT (b:=V2) Bz))).r zo true HP).mono ?_
     rintro e w1 ⟨rfl,z⟩;replace z:=zq (a:=V2) z;replace Bz:=bT Bz z;clear z;clear pa0 pa1 pa2 pa3 pa4 pb0 pb1 pb2 pb3 pb4;go_wp2_with fail
     go_roundg (n-(i+1))
     case measure=>have:=HGK.out;omega
     case rel=>exact⟨i+1,zo,rfl,by go_num,bT (bT hB Bz),take_all HD.out HZI.out HP.out⟩
   ·obtain rfl:i=n:=zo;have i1:¬(i:Int)<(i:Int):=zo;obtain rfl:r=true:=by rw[←hra.out];exact all_yes HZL.out HD.out
    go_wp2_with fail
    go_ret
    exact⟨rfl,hB⟩
 ·have g0:((n:Int) !=(n':Int))=true:=by simp;omega
  obtain rfl:r=false:=by rw[←hr.out];exact cA (fun e=>hnn (by have e2:=congrArg List.length e;rw[prs_len,prs_len,HLN.out,HMN.out] at e2;exact e2))
  clear hr;go_enter Tryz.func66,Tryz.ntmps66
  go_wp2_with fail
  go_ret
  exact⟨rfl,Below.refl _ _⟩
theorem sameV_q {w:World} {n:Nat} (h:GV w X n cx P M) (h':GV w Y m cy Q M') (hM:M≤19000000000) (hM':M'≤19000000000) (hn:n≤1000000) (hm:m≤1000000) (hT:Hid (Tab w)) (r:Bool) (hr:Hid (decide (nrm P=nrm Q)=r)) :
  Calls Tryz.prog 26 #[.slice X n cx,.slice Y m cy] w fun e w'=>e=.returned (.bool r)∧Below w.heap.size w w':=by
 have HX:=zh h;have HY:=zh h';have HLX:=zh h.len;have HLY:=zh h'.len;clear h h';have hB:=Below.refl w.heap.size w;have Bz:=zr w;go_enter Tryz.func26,Tryz.ntmps26
 go_wp2_with fail
 with_reducible refine(normV_q (HX.out.below (bT hB (bT (b:=w) Bz))) hM hn (zt hT hB Bz)).mono ?_
 rintro e w1 ⟨A1,n1,c1,rfl,h1,q⟩;replace q:=zq (a:=w) q;replace Bz:=bT Bz q;clear q;go_wp2_with fail
 with_reducible refine(normV_q (HY.out.below (bT hB (bT (b:=w1) Bz))) hM' hm (zt hT hB Bz)).mono ?_
 rintro e w2 ⟨A2,n2,c2,rfl,h2,q⟩;replace q:=zq (a:=w1) q;replace h1:=h1.below q;replace Bz:=bT Bz q;clear q;go_wp2_with fail
 with_reducible refine(equalFunc_q (NV.below h1) (NV.below h2) zo zo (by have:=h1.len;have:=nrm_len P;have:=HLX.out;omega) (by have:=h2.len;have:=nrm_len Q;have:=HLY.out;omega) r hr).mono ?_
 rintro e w3 ⟨rfl,q⟩;replace q:=zq (a:=w2) q;replace Bz:=bT Bz q;clear q;go_wp2_with fail
 go_ret
 have hF:=bT (c:=w3) hB Bz;exact⟨rfl,bT hF⟩
def putF (P:List (Int×Rat)) (at_:Int) (q:Rat):List (Int×Rat):=(P.filter fun x=>decide (x.1≠at_))++[(at_,q)]
def offT (at_:Int) (t:Tm):Bool:=decide (t.at_≠at_)
theorem off_snoc {i:Nat} {at_:Int} (h:L[i]?=some x):(L.take (i+1)).filter (offT at_)=(L.take i).filter (offT at_)++if x.at_=at_ then [] else [x]:=by
 rw[take_snoc h,List.filter_append];congr 1
 by_cases e:x.at_=at_
 ·rw[yA e,List.filter_cons_of_neg (by simp[offT,e])];rfl
 ·rw[tA e,List.filter_cons_of_pos (by simp[offT,e])];rfl
theorem wsum_filter (L:List Tm) (p:Tm→Bool) (a:Int):wsum (L.filter p) a≤wsum L a:=by
 induction L with
 | nil=>exact aA _
 | cons x L ih =>
  rw[List.filter_cons];split
  ·simp only[wsum];omega
  ·simp only[wsum];omega
def PT1 (w:World) (cs:Array Value) (L:List Tm) (at_:Int) (n gk:Nat) (s7 s16:Value) (wr:World):Prop :=
 ∃(i k:Nat) (H:Option Addr) (hc:Nat) (O:List Tm),s7=.slice H k hc∧s16=.int .i64 (i:Int)∧i≤n∧n-i≤gk∧k≤i∧OwnR wr (w.heap.size+1) 32 5 (.slice H k hc) k (flat Tm.cs O)∧O=(L.take i).filter (offT at_)∧Bx wr w.heap.size cs 30∧Below w.heap.size w wr
theorem one_wrap {n:Nat} (hn:n≤1000000):IntKind.i64.wrap ((n:Int)+1)=((n+1:Nat):Int):=by rw[IntWalk.i64_in _ zo];omega
theorem putO_q {w:World} {s:Bool} {c:Nat} {n:Nat} (h:GV w X n cx P M) (at_:Int) (ha:R w s A c l s' A' c' l' q mq) (hM:M+mq≤18000000000) (hn:n≤900000) (hT:Hid (Tab w)) :
  Calls Tryz.prog 24 #[.slice X n cx,.int .i64 at_,.agg #[.bool s,.slice A l c,.bool s',.slice A' l' c']] w (TellsVO w (nrm (putF P at_ q)) (M+mq+2)):=by
 obtain⟨L,x1,x2,rfl,x4,x5⟩:=h;obtain⟨ex,hfa⟩:=ha.fr;have HS:=zh x1;have HLN:=zh x1.1;have HOK:=zh x2;have HWS:=zh x4;have HFA:=zh hfa;have HAL:=zh ha.len;have w0:=one_wrap (n:=n) zo;clear x1 x2 x4 x5 hfa ha;obtain⟨W,hW,x0,hB⟩:=zAc w #[.bool s,.slice A l c,.bool s',.slice A' l' c'] 30;have HX0:=zh x0;have hWl:=x0.lt;clear x0;go_enter Tryz.func24,Tryz.ntmps24
 go_wp2_with (at_make;rw[←hW];refine And.left (b:=True) ?_)
 clear hW;refine⟨?_,trivial⟩;refine Elt.make elt_term rfl _ _ rfl .i64 .i64 _ (n+1) rfl rfl (by first | rfl | (push_cast;rfl) | omega) zo (w.heap.size+1) hWl ?_;intro g0 w1 ho1 hB1 hg0;have HO1:=zh ho1;have HB1:=zh (bT hB hB1);have XX0:=zh (HX0.out.below hB1);clear ho1 hB1 hg0 hB HX0 hWl;go_wp2_with fail
 go_loopg [7,16] n (fun gk s7 s16 wr=>PT1 w #[.bool s,.slice A l c,.bool s',.slice A' l' c'] L at_ n gk s7 s16 wr)
 case atStart=>exact⟨0,0,_,_,[],rfl,rfl,wA _,aA _,aA _,HO1.out.below (by go_grown),rfl,XX0.out.below (by go_grown),bT HB1.out⟩
 case round =>
  clear HO1 HB1 XX0 w0;obtain⟨i,k,H,hc,O,rfl,rfl,hi,hgk,hk,ho,hp,hx0,hB⟩:=hrel;have HP:=zh hp;have HX0:=zh hx0;clear hp hx0;by_cases hlt:i<n
  ·obtain⟨b,off,rfl,hel⟩:=HS.out.at Tm.cs_len zo zo;obtain⟨x,hx⟩:∃x,L[i]?=some x:=⟨L[i]'(by rw[HLN.out];exact hlt),gA _⟩;have hnd:=hel i x hx;have hsn:=off_snoc (at_:=at_) hx;have i1:(i:Int)<(n:Int):=zo;have i2:(0:Int)≤(i:Int):=zo;clear hel hx;by_cases hq:x.at_=at_
   ·have g1:(x.at_ != at_)=false:=by simpa using hq
    have HP2:Hid (O=(L.take (i+1)).filter (offT at_)):=zh (by rw[hsn,yA hq,List.append_nil,HP.out]);clear hsn hq;have Bz:=zr wr;obtain⟨pA0,pA1,pA2,pA3,pA4,-⟩:=(hnd.below (bT hB Bz)).ez;go_upto_region 5 with(fail)
    obtain⟨V1,hW,x1,hN⟩:=zAc wr #[.int .i64 x.at_,.bool x.x.s,.slice x.x.A x.x.l x.x.c,.bool x.x.s',.slice x.x.A' x.x.l' x.x.c'] 32;rw[←hW];clear hW;obtain⟨v1,hb1⟩:=ze wr.heap.size;rw[←hb1] at x1 ⊢;have ow_1:w.heap.size≤v1:=zi (zw hB Bz);replace ho:=ho.below hN;replace hB:=bT (bT hB Bz) hN;replace HX0:=zba HX0 Bz hN;have HX1:=zh x1;clear x1 hN Bz hb1;have Bz:=zr V1;clear pA0 pA1 pA2 pA3 pA4;have pb0:=(zx HX1 Bz).cell 0 (.int .i64 x.at_) rfl;go_wp2_with fail
    go_roundg (n-(i+1))
    case measure=>omega
    case rel=>exact⟨i+1,k,_,_,_,rfl,by go_num,zo,aA _,zo,OwnR.below ho,HP2.out,HX0.out.below (bT Bz),bT (bT hB Bz)⟩
   ·have g1:(x.at_ != at_)=true:=by simpa using hq
    have HP2:Hid (O++[x]=(L.take (i+1)).filter (offT at_)):=zh (by rw[hsn,tA hq,HP.out]);clear hsn hq;have Bz:=zr wr;obtain⟨pA0,pA1,pA2,pA3,pA4,-⟩:=(hnd.below (bT hB Bz)).ez;go_upto_region 5 with(fail)
    obtain⟨V1,hW,x1,hN⟩:=zAc wr #[.int .i64 x.at_,.bool x.x.s,.slice x.x.A x.x.l x.x.c,.bool x.x.s',.slice x.x.A' x.x.l' x.x.c'] 32;rw[←hW];clear hW;obtain⟨v1,hb1⟩:=ze wr.heap.size;rw[←hb1] at x1 ⊢;have ow_1:w.heap.size≤v1:=zi (zw hB Bz);replace ho:=ho.below hN;replace hB:=bT (bT hB Bz) hN;replace HX0:=zba HX0 Bz hN;have HX1:=zh x1;clear x1 hN Bz hb1;have Bz:=zr V1;clear pA0 pA1 pA2 pA3 pA4;obtain⟨pb0,pb1,pb2,pb3,pb4,-⟩:=(zx HX1 Bz).cz;go_wp2_with (at_builtin;refine And.left (b:=True) ?_)
    refine⟨?_,trivial⟩;obtain⟨V2,hW,x2,hN⟩:=zAc V1 #[.int .i64 x.at_,.bool x.x.s,.slice x.x.A x.x.l x.x.c,.bool x.x.s',.slice x.x.A' x.x.l' x.x.c'] 32;rw[←hW];clear hW;obtain⟨v2,hb2⟩:=ze V1.heap.size;rw[←hb2] at x2 ⊢;have ow_2:w.heap.size≤v2:=zi (zw hB Bz);replace ho:=ho.below hN;replace hB:=bT (bT hB Bz) hN;replace HX0:=zba HX0 Bz hN;replace HX1:=zba HX1 Bz hN;have HX2:=zh x2;clear x2 hN Bz hb2;have Bz:=zr V2;clear pb0 pb1 pb2 pb3 pb4;have hdr:V2.drew.heap.size=V2.heap.size:=rfl;have hdr2:V2.drew.drew.heap.size=V2.heap.size:=rfl;refine Elt.app elt_term rfl _ _ rfl (w.heap.size+1) (.slice H k hc) (k) (O) rfl ho (.slice (some ⟨v2,0,none⟩) 1 1) (1) ([x]) rfl (From.one (HX2.out.below (bT Bz)) (x) rfl (elt_term.len _)) zo (zj (zx HX0 Bz).lt Bz.size) ?_;intro H1 c1 w1 ho1 hg1;replace hB:=(bT (bT hB Bz)).trans (hg1.below (zi (zw hB Bz)) (fun g hg=>by have:=ho.base g hg;omega));replace HX0:=zh (hg1.bx (zx HX0 Bz) (ho.off zo));clear HX1;clear HX2;clear hdr hdr2;clear hg1 Bz;have Bz:=zr w1;go_wp2_with fail
    go_roundg (n-(i+1))
    case measure=>omega
    case rel=>exact⟨i+1,k+1,_,_,_,rfl,by go_num,zo,aA _,zo,OwnR.below ho1,HP2.out,HX0.out.below (bT Bz),bT (bT hB Bz)⟩
  ·obtain rfl:i=n:=zo;have i1:¬(i:Int)<(i:Int):=zo;have gvp:∀{H1:Option Addr} {c1:Nat} (w1:World),Below w.heap.size w w1→OwnR w1 (w.heap.size+1) 32 5 (.slice H1 (k+1) c1) (k+1) (flat Tm.cs (O++[⟨at_,⟨s,A,c,l,s',A',c',l',q,ex⟩⟩]))→GV w1 H1 (k+1) c1 (putF (prs L) at_ q) (M+mq+2):=fun {H1} {c1} w1 hb ho1=>by
    have hO:O=L.filter (offT at_):=by rw[HP.out,fA (by rw[HLN.out];exact aA _)]
    refine⟨_,ho1.sl' elt_term (ho1.eltn elt_term zo),fun t ht=>?_,?_,fun a=>?_,fun hn=>?_⟩
    ·rcases xC.1 ht with ht | ht
     ·rw[hO] at ht;exact(HOK.out t (List.mem_filter.1 ht).1).below hb
     ·obtain rfl:=kC.1 ht;exact HFA.out.rep.below hb
    ·have hfp:prs (L.filter (offT at_))=(prs L).filter fun x=>decide (x.1≠at_):=filter_prs L fun x=>decide (x.1≠at_);rw[prs_append,hO,hfp];rfl
    ·rw[wsum_append,hO];have h1:=mA (wsum_filter L (offT at_) a) (HWS.out a);have h2:=HAL.out;simp only[wsum,dgT]
     split<;>omega
    ·obtain⟨_,_,e9,h9,_⟩:=ho1.slice;cases e9;exact(h9 hn).2
   have Bz:=zr wr;obtain⟨pa0,pa1,pa2,pa3,-⟩:=(zx HX0 Bz).cz;go_wp2_with (at_builtin;refine And.left (b:=True) ?_)
   refine⟨?_,trivial⟩;obtain⟨V1,hW,x1,hN⟩:=zAc wr #[.int .i64 at_,.bool s,.slice A l c,.bool s',.slice A' l' c'] 32;rw[←hW];clear hW;obtain⟨v1,hb1⟩:=ze wr.heap.size;rw[←hb1] at x1 ⊢;have ow_1:w.heap.size≤v1:=zi (zw hB Bz);replace ho:=ho.below hN;replace hB:=bT (bT hB Bz) hN;replace HX0:=zba HX0 Bz hN;have HX1:=zh x1;clear x1 hN Bz hb1;have Bz:=zr V1;clear pa0 pa1 pa2 pa3;have hdr:V1.drew.heap.size=V1.heap.size:=rfl;have hdr2:V1.drew.drew.heap.size=V1.heap.size:=rfl;refine Elt.app elt_term rfl _ _ rfl (w.heap.size+1) (.slice H k hc) (k) (O) rfl ho (.slice (some ⟨v1,0,none⟩) 1 1) (1) ([⟨at_,⟨s,A,c,l,s',A',c',l',q,ex⟩⟩]) rfl (From.one (HX1.out.below (bT Bz)) (⟨at_,⟨s,A,c,l,s',A',c',l',q,ex⟩⟩) rfl (elt_term.len _)) zo (zj (zx HX0 Bz).lt Bz.size) ?_;intro H1 c1 w1 ho1 hg1;replace hB:=(bT (bT hB Bz)).trans (hg1.below (zi (zw hB Bz)) (fun g hg=>by have:=ho.base g hg;omega));clear HX0;clear HX1;clear hdr hdr2;clear hg1 Bz;have Bz:=zr w1;go_wp2_with fail
   with_reducible refine(normO_q (gvp w1 (bT hB Bz) ho1) zo zo (zt hT hB Bz)).mono ?_
   rintro e w2 ⟨A2,n2,c2,L2,rfl,h2,on2,ep2,z⟩;replace z:=zq (a:=w1) z;replace Bz:=bT Bz z;clear z;go_wp2_with fail
   go_ret
   have hF:=bT (c:=w2) hB Bz;exact⟨_,_,_,L2,rfl,(h2.below (by go_grown)).rebase (zi hB.size),on2.below (by go_grown),ep2,bT hF⟩
theorem putV_q {w:World} {s:Bool} {c:Nat} {n:Nat} (h:GV w X n cx P M) (at_:Int) (ha:R w s A c l s' A' c' l' q mq) (hM:M+mq≤18000000000) (hn:n≤900000) (hT:Hid (Tab w)) :
  Calls Tryz.prog 24 #[.slice X n cx,.int .i64 at_,.agg #[.bool s,.slice A l c,.bool s',.slice A' l' c']] w (TellsV w (nrm (putF P at_ q)) (M+mq+2)) :=
 (putO_q h at_ ha hM hn hT).mono fun _ _ k=>k.v
def TellsW (w:World) (P:List (Int×Rat)) (K N:Nat) (e:Ending) (w':World):Prop:=∃A n c,e=.returned (.slice A n c)∧NV w' A n c P K∧n≤N∧Below w.heap.size w w'
def TellsNum (w:World) (q:Rat) (K:Nat) (e:Ending) (w':World):Prop:=∃s A c l s' A' c' l',e=.returned (.agg #[.bool s,.slice A l c,.bool s',.slice A' l' c'])∧RN w' s A c l s' A' c' l' q∧sz q≤K∧Below w.heap.size w w'
theorem TellsV.w {w w':World} {K N:Nat} {e:Ending} (h:TellsV w P M e w') (hK:M≤K) (hN:P.length≤N):TellsW w P K N e w':=by
 obtain⟨A,n,c,rfl,h1,h2⟩:=h;exact⟨A,n,c,rfl,h1.mono hK,by have:=h1.len;omega,h2⟩
theorem TellsR.num {w w':World} {K:Nat} {e:Ending} (h:TellsR w q e w') (hK:sz q≤K):TellsNum w q K e w':=by
 obtain⟨s,A,c,l,s',A',c',l',rfl,h1,h2⟩:=h;exact⟨s,A,c,l,s',A',c',l',rfl,h1,hK,h2⟩
theorem GV.size {w:World} {n c N:Nat} (h:GV w A n c P M) (hn:n≤N):P.length≤N:=by rw[h.len];exact hn
def TellsT (w:World) (at_:Int) (q:Rat) (e:Ending) (w':World):Prop:=∃s A c l s' A' c' l',e=.returned (.agg #[.int .i64 at_,.bool s,.slice A l c,.bool s',.slice A' l' c'])∧RN w' s A c l s' A' c' l' q∧Below w.heap.size w w'
theorem term_q {w:World} (at_ n d:Int) (hn:Hid (-9223372036854775808≤n∧n≤9223372036854775807)) (hd:Hid (-9223372036854775808≤d∧d≤9223372036854775807)) (hT:Hid (Tab w)) :
  Calls Tryz.prog 17 #[.int .i64 at_,.int .i64 n,.int .i64 d] w (TellsT w at_ (qof n d)):=by
 obtain⟨W,hW,x0,hB⟩:=zAc w #[.int .i64 0,.bool false,.slice none 0 0,.bool false,.slice none 0 0] 32;have HX0:=zh x0;clear x0;have Bz:=zr W;go_enter Tryz.func17,Tryz.ntmps17
 go_wp2_with fail
 rw[←hW];clear hW;go_wp2_with fail
 with_reducible refine(of_q n d hn hd (zt hT hB Bz)).mono ?_
 rintro e w1 ⟨s1,A1,c1,l1,s1r,A1r,c1r,l1r,rfl,h1,q⟩;replace q:=zq (a:=W) q;replace Bz:=bT Bz q;clear q;obtain⟨pa0,pa1,pa2,pa3,pa4,-⟩:=(zx HX0 Bz).cz;obtain⟨y0,fa0,fa1,fa2,fa3,fa4,-⟩:=(zx HX0 Bz).fz;go_wp2_with fail
 (try simp only[Exit.inBlock,Exit.then])
 refine bodyPost_ret (by simp[results,Tryz.results17,go_sem,pa0,pa1,pa2,pa3,pa4];try rfl) rfl ?_;obtain⟨V1,hW,x,kk,far,bel⟩:=store5 (.int .i64 at_) (.bool s1) (.slice A1 l1 c1) (.bool s1r) (.slice A1r l1r c1r) (zx HX0 Bz) nofun nofun nofun nofun nofun;rw[←hW];clear hW;replace h1:=h1.k kk;replace hB:=bel w.heap.size w zo (bT hB Bz);replace HX0:=zh x;clear x kk far bel Bz;have Bz:=zr V1;have hF:=bT (c:=V1) hB Bz;exact⟨_,_,_,_,_,_,_,_,rfl,RN.below h1,bT hF⟩
theorem OnT.c {w:World} {s:Bool} {c:Nat} (at_:Int) (h:RN w s A c l s' A' c' l' q) (hs:sz q≤1) (hL:OnT w L (fun _=>2)):OnT w (⟨at_,⟨s,A,c,l,s',A',c',l',q,true⟩⟩ :: L) (fun _=>2):=fun t ht=>by
 rcases wB.1 ht with rfl | ht
 ·exact⟨h,rfl,by simp only;omega⟩
 ·exact hL t ht
theorem wsum_small {w:World} (h:OnT w L (fun _=>2)) (a:Int):wsum L a≤3*L.length:=by
 induction L with
 | nil=>exact aA _
 | cons x L ih =>
  have h1:=ih fun t ht=>h t (xA _ ht);have h2:=h.dg x cB;have h3:=(h x cB).2.2;simp only[wsum,nD] at h3 ⊢
  split<;>omega
theorem sl_lit {w:World} {n:Nat} {cs:Array Value} (h:Bx w b cs te) (hcs:cs.toList=flat Tm.cs L) (hl:L.length=n):Sl Tm.cs 5 w (some ⟨b,0,none⟩) n n L:=by
 subst hl;refine⟨rfl,by rw[flat_len Tm.cs_len],_,_,rfl,(fun h=>(by cases h)),fun a ha j u hu=>?_⟩;cases ha;rw[add_off,qB];refine h.cell j u ?_;rw[←hcs] at hu;simpa using hu
theorem nv_lit {w:World} {n:Nat} {cs:Array Value} (L:List Tm) (P:List (Int×Rat)) (hp:prs L=P) (h:Bx w b cs te) (hcs:cs.toList=flat Tm.cs L) (hl:L.length=n) (hon:OnT w L (fun _=>2)):NV w (some ⟨b,0,none⟩) n n P 2:=⟨L,sl_lit h hcs hl,hon,hp,(fun h=>(by cases h))⟩
theorem gv_lit {w:World} {n:Nat} {cs:Array Value} (L:List Tm) (P:List (Int×Rat)) (hp:prs L=P) (h:Bx w b cs te) (hcs:cs.toList=flat Tm.cs L) (hl:L.length=n) (hon:OnT w L (fun _=>2)):GV w (some ⟨b,0,none⟩) n n P (3*n):=⟨L,sl_lit h hcs hl,hon.ok,hp,fun a=>by rw[←hl];exact wsum_small hon a,(fun h=>(by cases h))⟩
theorem awake5_q {w:World} (hT:Hid (Tab w)):Calls Tryz.prog 27 #[] w fun e w'=>e=.returned (.bool true)∧Below w.heap.size w w':=by
 have hdz:sz (pdot [(0,qof (1) 1),(2,qof (3) 1)] [(2,qof (1) 3),(5,qof (9) 1)])≤1:=by
  rw[show pdot [(0,qof (1) 1),(2,qof (3) 1)] [(2,qof (1) 3),(5,qof (9) 1)]=qof 1 1 by decide +kernel];exact sz_one zd zd zd
 have hB:=Below.refl w.heap.size w;have Bz:=zr w;go_enter Tryz.func27,Tryz.ntmps27
 go_wp2_with fail
 with_reducible refine(term_q 2 (1) 1 (zh zo) (zh zo) (zt hT hB Bz)).mono ?_
 rintro e w1 ⟨s1,A1,c1,l1,s1r,A1r,c1r,l1r,rfl,h1,q⟩;replace q:=zq (a:=w) q;replace Bz:=bT Bz q;clear q;go_wp2_with fail
 with_reducible refine(term_q 0 (1) 2 (zh zo) (zh zo) (zt hT hB Bz)).mono ?_
 rintro e w2 ⟨s2,A2,c2,l2,s2r,A2r,c2r,l2r,rfl,h2,q⟩;replace q:=zq (a:=w1) q;replace h1:=h1.below q;replace Bz:=bT Bz q;clear q;go_wp2_with fail
 with_reducible refine(term_q 2 (-1) 1 (zh zo) (zh zo) (zt hT hB Bz)).mono ?_
 rintro e w3 ⟨s3,A3,c3,l3,s3r,A3r,c3r,l3r,rfl,h3,q⟩;replace q:=zq (a:=w2) q;replace h1:=h1.below q;replace h2:=h2.below q;replace Bz:=bT Bz q;clear q;go_wp2_with fail
 obtain⟨V1,hW,x0,hN⟩:=zAc w3 #[.int .i64 2,.bool s1,.slice A1 l1 c1,.bool s1r,.slice A1r l1r c1r,.int .i64 0,.bool s2,.slice A2 l2 c2,.bool s2r,.slice A2r l2r c2r,.int .i64 2,.bool s3,.slice A3 l3 c3,.bool s3r,.slice A3r l3r c3r] 32;rw[←hW];clear hW;obtain⟨v0,hb0⟩:=ze w3.heap.size;rw[←hb0] at x0 ⊢;have ow_0:w.heap.size≤v0:=zi (zw hB Bz);replace h1:=h1.below hN;replace h2:=h2.below hN;replace h3:=h3.below hN;replace hB:=bT (bT hB Bz) hN;have HX0:=zh x0;clear x0 hN Bz hb0;have Bz:=zr V1;with_reducible refine(normV_q (gv_lit (n:=3) [⟨2,⟨s1,A1,c1,l1,s1r,A1r,c1r,l1r,qof (1) 1,true⟩⟩,⟨0,⟨s2,A2,c2,l2,s2r,A2r,c2r,l2r,qof (1) 2,true⟩⟩,⟨2,⟨s3,A3,c3,l3,s3r,A3r,c3r,l3r,qof (-1) 1,true⟩⟩] [(2,qof (1) 1),(0,qof (1) 2),(2,qof (-1) 1)] rfl (HX0.out.below (bT Bz)) rfl rfl (OnT.c 2 (RN.below h1) (sz_one zd zd zd) (OnT.c 0 (RN.below h2) (sz_one zd zd zd) (OnT.c 2 (RN.below h3) (sz_one zd zd zd) (OnT.nil _ _))))) zo zo (zt hT hB Bz)).mono ?_
 rintro e w4 ⟨A4,n4,c4,rfl,h4,q⟩;replace q:=zq (a:=V1) q;replace Bz:=bT Bz q;clear q;have l4:=h4.len;go_wp2_with fail
 with_reducible refine(term_q 0 (1) 1 (zh zo) (zh zo) (zt hT hB Bz)).mono ?_
 rintro e w5 ⟨s5,A5,c5,l5,s5r,A5r,c5r,l5r,rfl,h5,q⟩;replace q:=zq (a:=w4) q;replace h4:=h4.below q;replace Bz:=bT Bz q;clear q;go_wp2_with fail
 with_reducible refine(term_q 3 (2) 1 (zh zo) (zh zo) (zt hT hB Bz)).mono ?_
 rintro e w6 ⟨s6,A6,c6,l6,s6r,A6r,c6r,l6r,rfl,h6,q⟩;replace q:=zq (a:=w5) q;replace h5:=h5.below q;replace h4:=h4.below q;replace Bz:=bT Bz q;clear q;go_wp2_with fail
 obtain⟨V2,hW,x1,hN⟩:=zAc w6 #[.int .i64 0,.bool s5,.slice A5 l5 c5,.bool s5r,.slice A5r l5r c5r,.int .i64 3,.bool s6,.slice A6 l6 c6,.bool s6r,.slice A6r l6r c6r] 32;rw[←hW];clear hW;obtain⟨v1,hb1⟩:=ze w6.heap.size;rw[←hb1] at x1 ⊢;have ow_1:w.heap.size≤v1:=zi (zw hB Bz);replace h5:=h5.below hN;replace h6:=h6.below hN;replace h4:=h4.below hN;replace hB:=bT (bT hB Bz) hN;replace HX0:=zba HX0 Bz hN;have HX1:=zh x1;clear x1 hN Bz hb1;have Bz:=zr V2;with_reducible refine(term_q 3 (-2) 1 (zh zo) (zh zo) (zt hT hB Bz)).mono ?_
 rintro e w7 ⟨s7,A7,c7,l7,s7r,A7r,c7r,l7r,rfl,h7,q⟩;replace q:=zq (a:=V2) q;replace h5:=h5.below q;replace h6:=h6.below q;replace h4:=h4.below q;replace Bz:=bT Bz q;clear q;go_wp2_with fail
 with_reducible refine(term_q 4 (1) 1 (zh zo) (zh zo) (zt hT hB Bz)).mono ?_
 rintro e w8 ⟨s8,A8,c8,l8,s8r,A8r,c8r,l8r,rfl,h8,q⟩;replace q:=zq (a:=w7) q;replace h5:=h5.below q;replace h6:=h6.below q;replace h7:=h7.below q;replace h4:=h4.below q;replace Bz:=bT Bz q;clear q;go_wp2_with fail
 obtain⟨V3,hW,x2,hN⟩:=zAc w8 #[.int .i64 3,.bool s7,.slice A7 l7 c7,.bool s7r,.slice A7r l7r c7r,.int .i64 4,.bool s8,.slice A8 l8 c8,.bool s8r,.slice A8r l8r c8r] 32;rw[←hW];clear hW;obtain⟨v2,hb2⟩:=ze w8.heap.size;rw[←hb2] at x2 ⊢;have ow_2:w.heap.size≤v2:=zi (zw hB Bz);replace h5:=h5.below hN;replace h6:=h6.below hN;replace h7:=h7.below hN;replace h8:=h8.below hN;replace h4:=h4.below hN;replace hB:=bT (bT hB Bz) hN;replace HX0:=zba HX0 Bz hN;replace HX1:=zba HX1 Bz hN;have HX2:=zh x2;clear x2 hN Bz hb2;have Bz:=zr V3;with_reducible refine(addV_q (gv_lit (n:=2) [⟨0,⟨s5,A5,c5,l5,s5r,A5r,c5r,l5r,qof (1) 1,true⟩⟩,⟨3,⟨s6,A6,c6,l6,s6r,A6r,c6r,l6r,qof (2) 1,true⟩⟩] [(0,qof (1) 1),(3,qof (2) 1)] rfl (HX1.out.below (bT Bz)) rfl rfl (OnT.c 0 (RN.below h5) (sz_one zd zd zd) (OnT.c 3 (RN.below h6) (sz_one zd zd zd) (OnT.nil _ _)))) (gv_lit (n:=2) [⟨3,⟨s7,A7,c7,l7,s7r,A7r,c7r,l7r,qof (-2) 1,true⟩⟩,⟨4,⟨s8,A8,c8,l8,s8r,A8r,c8r,l8r,qof (1) 1,true⟩⟩] [(3,qof (-2) 1),(4,qof (1) 1)] rfl (HX2.out.below (bT Bz)) rfl rfl (OnT.c 3 (RN.below h7) (sz_one zd zd zd) (OnT.c 4 (RN.below h8) (sz_one zd zd zd) (OnT.nil _ _)))) zo zo zo (zt hT hB Bz)).mono ?_
 rintro e w9 ⟨A9,n9,c9,rfl,h9,q⟩;replace q:=zq (a:=V3) q;replace h4:=h4.below q;replace Bz:=bT Bz q;clear q;have l9:=h9.len;go_wp2_with fail
 with_reducible refine(term_q 0 (1) 1 (zh zo) (zh zo) (zt hT hB Bz)).mono ?_
 rintro e w10 ⟨s10,A10,c10,l10,s10r,A10r,c10r,l10r,rfl,h10,q⟩;replace q:=zq (a:=w9) q;replace h4:=h4.below q;replace h9:=h9.below q;replace Bz:=bT Bz q;clear q;go_wp2_with fail
 obtain⟨V4,hW,x3,hN⟩:=zAc w10 #[.int .i64 0,.bool s10,.slice A10 l10 c10,.bool s10r,.slice A10r l10r c10r] 32;rw[←hW];clear hW;obtain⟨v3,hb3⟩:=ze w10.heap.size;rw[←hb3] at x3 ⊢;have ow_3:w.heap.size≤v3:=zi (zw hB Bz);replace h10:=h10.below hN;replace h4:=h4.below hN;replace h9:=h9.below hN;replace hB:=bT (bT hB Bz) hN;replace HX0:=zba HX0 Bz hN;replace HX1:=zba HX1 Bz hN;replace HX2:=zba HX2 Bz hN;have HX3:=zh x3;clear x3 hN Bz hb3;have Bz:=zr V4;with_reducible refine(of_q (-2) 1 (zh zo) (zh zo) (zt hT hB Bz)).mono ?_
 rintro e w11 ⟨s11,A11,c11,l11,s11r,A11r,c11r,l11r,rfl,h11,q⟩;replace q:=zq (a:=V4) q;replace h10:=h10.below q;replace h4:=h4.below q;replace h9:=h9.below q;replace Bz:=bT Bz q;clear q;go_wp2_with fail
 with_reducible refine(term_q 0 (1) 2 (zh zo) (zh zo) (zt hT hB Bz)).mono ?_
 rintro e w12 ⟨s12,A12,c12,l12,s12r,A12r,c12r,l12r,rfl,h12,q⟩;replace q:=zq (a:=w11) q;replace h10:=h10.below q;replace h11:=h11.below q;replace h4:=h4.below q;replace h9:=h9.below q;replace Bz:=bT Bz q;clear q;go_wp2_with fail
 with_reducible refine(term_q 1 (1) 1 (zh zo) (zh zo) (zt hT hB Bz)).mono ?_
 rintro e w13 ⟨s13,A13,c13,l13,s13r,A13r,c13r,l13r,rfl,h13,q⟩;replace q:=zq (a:=w12) q;replace h10:=h10.below q;replace h11:=h11.below q;replace h12:=h12.below q;replace h4:=h4.below q;replace h9:=h9.below q;replace Bz:=bT Bz q;clear q;go_wp2_with fail
 obtain⟨V5,hW,x4,hN⟩:=zAc w13 #[.int .i64 0,.bool s12,.slice A12 l12 c12,.bool s12r,.slice A12r l12r c12r,.int .i64 1,.bool s13,.slice A13 l13 c13,.bool s13r,.slice A13r l13r c13r] 32;rw[←hW];clear hW;obtain⟨v4,hb4⟩:=ze w13.heap.size;rw[←hb4] at x4 ⊢;have ow_4:w.heap.size≤v4:=zi (zw hB Bz);replace h10:=h10.below hN;replace h11:=h11.below hN;replace h12:=h12.below hN;replace h13:=h13.below hN;replace h4:=h4.below hN;replace h9:=h9.below hN;replace hB:=bT (bT hB Bz) hN;replace HX0:=zba HX0 Bz hN;replace HX1:=zba HX1 Bz hN;replace HX2:=zba HX2 Bz hN;replace HX3:=zba HX3 Bz hN;have HX4:=zh x4;clear x4 hN Bz hb4;have Bz:=zr V5;with_reducible refine(axpyV_q (mq:=1) (gv_lit (n:=1) [⟨0,⟨s10,A10,c10,l10,s10r,A10r,c10r,l10r,qof (1) 1,true⟩⟩] [(0,qof (1) 1)] rfl (HX3.out.below (bT Bz)) rfl rfl (OnT.c 0 (RN.below h10) (sz_one zd zd zd) (OnT.nil _ _))) ((R.below h11.r).mono (sz_one zd zd zd)) (gv_lit (n:=2) [⟨0,⟨s12,A12,c12,l12,s12r,A12r,c12r,l12r,qof (1) 2,true⟩⟩,⟨1,⟨s13,A13,c13,l13,s13r,A13r,c13r,l13r,qof (1) 1,true⟩⟩] [(0,qof (1) 2),(1,qof (1) 1)] rfl (HX4.out.below (bT Bz)) rfl rfl (OnT.c 0 (RN.below h12) (sz_one zd zd zd) (OnT.c 1 (RN.below h13) (sz_one zd zd zd) (OnT.nil _ _)))) zo zo zo zo zo (zt hT hB Bz)).mono ?_
 rintro e w14 ⟨A14,n14,c14,rfl,h14,q⟩;replace q:=zq (a:=V5) q;replace h4:=h4.below q;replace h9:=h9.below q;replace Bz:=bT Bz q;clear q;have l14:=h14.len;go_wp2_with fail
 with_reducible refine(term_q 0 (1) 1 (zh zo) (zh zo) (zt hT hB Bz)).mono ?_
 rintro e w15 ⟨s15,A15,c15,l15,s15r,A15r,c15r,l15r,rfl,h15,q⟩;replace q:=zq (a:=w14) q;replace h14:=h14.below q;replace h4:=h4.below q;replace h9:=h9.below q;replace Bz:=bT Bz q;clear q;go_wp2_with fail
 with_reducible refine(term_q 2 (3) 1 (zh zo) (zh zo) (zt hT hB Bz)).mono ?_
 rintro e w16 ⟨s16,A16,c16,l16,s16r,A16r,c16r,l16r,rfl,h16,q⟩;replace q:=zq (a:=w15) q;replace h15:=h15.below q;replace h14:=h14.below q;replace h4:=h4.below q;replace h9:=h9.below q;replace Bz:=bT Bz q;clear q;go_wp2_with fail
 obtain⟨V6,hW,x5,hN⟩:=zAc w16 #[.int .i64 0,.bool s15,.slice A15 l15 c15,.bool s15r,.slice A15r l15r c15r,.int .i64 2,.bool s16,.slice A16 l16 c16,.bool s16r,.slice A16r l16r c16r] 32;rw[←hW];clear hW;obtain⟨v5,hb5⟩:=ze w16.heap.size;rw[←hb5] at x5 ⊢;have ow_5:w.heap.size≤v5:=zi (zw hB Bz);replace h15:=h15.below hN;replace h16:=h16.below hN;replace h14:=h14.below hN;replace h4:=h4.below hN;replace h9:=h9.below hN;replace hB:=bT (bT hB Bz) hN;replace HX0:=zba HX0 Bz hN;replace HX1:=zba HX1 Bz hN;replace HX2:=zba HX2 Bz hN;replace HX3:=zba HX3 Bz hN;replace HX4:=zba HX4 Bz hN;have HX5:=zh x5;clear x5 hN Bz hb5;have Bz:=zr V6;with_reducible refine(term_q 2 (1) 3 (zh zo) (zh zo) (zt hT hB Bz)).mono ?_
 rintro e w17 ⟨s17,A17,c17,l17,s17r,A17r,c17r,l17r,rfl,h17,q⟩;replace q:=zq (a:=V6) q;replace h15:=h15.below q;replace h16:=h16.below q;replace h14:=h14.below q;replace h4:=h4.below q;replace h9:=h9.below q;replace Bz:=bT Bz q;clear q;go_wp2_with fail
 with_reducible refine(term_q 5 (9) 1 (zh zo) (zh zo) (zt hT hB Bz)).mono ?_
 rintro e w18 ⟨s18,A18,c18,l18,s18r,A18r,c18r,l18r,rfl,h18,q⟩;replace q:=zq (a:=w17) q;replace h15:=h15.below q;replace h16:=h16.below q;replace h17:=h17.below q;replace h14:=h14.below q;replace h4:=h4.below q;replace h9:=h9.below q;replace Bz:=bT Bz q;clear q;go_wp2_with fail
 obtain⟨V7,hW,x6,hN⟩:=zAc w18 #[.int .i64 2,.bool s17,.slice A17 l17 c17,.bool s17r,.slice A17r l17r c17r,.int .i64 5,.bool s18,.slice A18 l18 c18,.bool s18r,.slice A18r l18r c18r] 32;rw[←hW];clear hW;obtain⟨v6,hb6⟩:=ze w18.heap.size;rw[←hb6] at x6 ⊢;have ow_6:w.heap.size≤v6:=zi (zw hB Bz);replace h15:=h15.below hN;replace h16:=h16.below hN;replace h17:=h17.below hN;replace h18:=h18.below hN;replace h14:=h14.below hN;replace h4:=h4.below hN;replace h9:=h9.below hN;replace hB:=bT (bT hB Bz) hN;replace HX0:=zba HX0 Bz hN;replace HX1:=zba HX1 Bz hN;replace HX2:=zba HX2 Bz hN;replace HX3:=zba HX3 Bz hN;replace HX4:=zba HX4 Bz hN;replace HX5:=zba HX5 Bz hN;have HX6:=zh x6;clear x6 hN Bz hb6;have Bz:=zr V7;with_reducible refine(dotV_q (gv_lit (n:=2) [⟨0,⟨s15,A15,c15,l15,s15r,A15r,c15r,l15r,qof (1) 1,true⟩⟩,⟨2,⟨s16,A16,c16,l16,s16r,A16r,c16r,l16r,qof (3) 1,true⟩⟩] [(0,qof (1) 1),(2,qof (3) 1)] rfl (HX5.out.below (bT Bz)) rfl rfl (OnT.c 0 (RN.below h15) (sz_one zd zd zd) (OnT.c 2 (RN.below h16) (sz_one zd zd zd) (OnT.nil _ _)))) (gv_lit (n:=2) [⟨2,⟨s17,A17,c17,l17,s17r,A17r,c17r,l17r,qof (1) 3,true⟩⟩,⟨5,⟨s18,A18,c18,l18,s18r,A18r,c18r,l18r,qof (9) 1,true⟩⟩] [(2,qof (1) 3),(5,qof (9) 1)] rfl (HX6.out.below (bT Bz)) rfl rfl (OnT.c 2 (RN.below h17) (sz_one zd zd zd) (OnT.c 5 (RN.below h18) (sz_one zd zd zd) (OnT.nil _ _)))) zo zo zo zo zo (zt hT hB Bz)).mono ?_
 rintro e w19 ⟨s19,A19,c19,l19,s19r,A19r,c19r,l19r,rfl,h19,q⟩;replace q:=zq (a:=V7) q;replace h14:=h14.below q;replace h4:=h4.below q;replace h9:=h9.below q;replace Bz:=bT Bz q;clear q;go_upto_region 5 with(fail)
 obtain⟨V8,hW,x7,hN⟩:=zAc w19 #[.bool s19,.slice A19 l19 c19,.bool s19r,.slice A19r l19r c19r] 30;rw[←hW];clear hW;obtain⟨v7,hb7⟩:=ze w19.heap.size;rw[←hb7] at x7 ⊢;have ow_7:w.heap.size≤v7:=zi (zw hB Bz);replace h19:=h19.below hN;replace h14:=h14.below hN;replace h4:=h4.below hN;replace h9:=h9.below hN;replace hB:=bT (bT hB Bz) hN;replace HX0:=zba HX0 Bz hN;replace HX1:=zba HX1 Bz hN;replace HX2:=zba HX2 Bz hN;replace HX3:=zba HX3 Bz hN;replace HX4:=zba HX4 Bz hN;replace HX5:=zba HX5 Bz hN;replace HX6:=zba HX6 Bz hN;have HX7:=zh x7;clear x7 hN Bz hb7;have Bz:=zr V8;obtain⟨ph0,ph1,ph2,ph3,-⟩:=(zx HX7 Bz).cz;go_wp2_with fail
 (try simp only[vA,vBa,vC])
 refine zl (zz [0,1] (.only 2 (.only 3 (.only 4 (zz [5,6,7] (.only 8 (.only 9 (.only 10 (.only 11 (zz [12,13,14,15] (.only 16 (.only 17 (.only 18 (zz [19,20,21] (.only 22 (.only 23 (zz [24,25] .done))))))))))))))))) [] (zsa ph0 (zsa ph1 (zsa ph2 (zIa ph3)))) ?_;iterate 2 (refine zUa ?_;try simp only[uW,uX,uY,uZ])
 refine zC 34 rfl rfl (fun K hK=>?_);go_simp
 with_reducible refine(term_q 0 (1) 2 (zh zo) (zh zo) (zt hT hB Bz)).mono ?_
 rintro e w20 ⟨s20,A20,c20,l20,s20r,A20r,c20r,l20r,rfl,h20,q⟩;replace q:=zq (a:=V8) q;replace h19:=h19.below q;replace h14:=h14.below q;replace h4:=h4.below q;replace h9:=h9.below q;replace Bz:=bT Bz q;clear q;clear ph0 ph1 ph2 ph3;obtain⟨ph0,ph1,ph2,ph3,-⟩:=(zx HX7 Bz).cz;refine hK.out _ _ ⟨ph0,ph1,ph2,ph3⟩ (fun _=>?_);try simp only[uW,uX,uY,uZ]
 clear hK K;refine zC 35 rfl rfl (fun K hK=>?_);go_simp
 refine hK.out _ _ ⟨(zAb ph0),(zAb ph1),(zAb ph2),(zAb ph3)⟩ (fun _=>?_);try simp only[uW,uX,uY,uZ]
 clear hK K;refine zC 36 rfl rfl (fun K hK=>?_);go_simp
 obtain⟨V9,hW,x8,hN⟩:=zAc w20 #[.int .i64 0,.bool s20,.slice A20 l20 c20,.bool s20r,.slice A20r l20r c20r] 32;rw[←hW];clear hW;obtain⟨v8,hb8⟩:=ze w20.heap.size;rw[←hb8] at x8 ⊢;have ow_8:w.heap.size≤v8:=zi (zw hB Bz);replace h19:=h19.below hN;replace h20:=h20.below hN;replace h14:=h14.below hN;replace h4:=h4.below hN;replace h9:=h9.below hN;replace hB:=bT (bT hB Bz) hN;replace HX0:=zba HX0 Bz hN;replace HX1:=zba HX1 Bz hN;replace HX2:=zba HX2 Bz hN;replace HX3:=zba HX3 Bz hN;replace HX4:=zba HX4 Bz hN;replace HX5:=zba HX5 Bz hN;replace HX6:=zba HX6 Bz hN;replace HX7:=zba HX7 Bz hN;have HX8:=zh x8;clear x8 hN Bz hb8;have Bz:=zr V9;clear ph0 ph1 ph2 ph3;with_reducible refine(sameVec_q (NV.below h4) (nv_lit (n:=1) [⟨0,⟨s20,A20,c20,l20,s20r,A20r,c20r,l20r,qof (1) 2,true⟩⟩] [(0,qof (1) 2)] rfl (HX8.out.below (bT Bz)) rfl rfl (OnT.c 0 (RN.below h20) (sz_one zd zd zd) (OnT.nil _ _))) zo zo (by rw[←l4];exact mA (nrm_len _) zd) zo true (zh (by decide +kernel))).mono ?_
 rintro e w21 ⟨rfl,q⟩;replace q:=zq (a:=V9) q;replace h19:=h19.below q;replace h14:=h14.below q;replace h9:=h9.below q;replace Bz:=bT Bz q;clear q;obtain⟨ph0,ph1,ph2,ph3,-⟩:=(zx HX7 Bz).cz;refine hK.out _ _ ⟨ph0,ph1,ph2,ph3⟩ (fun _=>?_);try simp only[uW,uX,uY,uZ]
 clear hK K;iterate 3 (refine zUa ?_;try simp only[uW,uX,uY,uZ])
 refine zC 40 rfl rfl (fun K hK=>?_);go_simp
 with_reducible refine(term_q 0 (1) 1 (zh zo) (zh zo) (zt hT hB Bz)).mono ?_
 rintro e w22 ⟨s22,A22,c22,l22,s22r,A22r,c22r,l22r,rfl,h22,q⟩;replace q:=zq (a:=w21) q;replace h19:=h19.below q;replace h14:=h14.below q;replace h9:=h9.below q;replace Bz:=bT Bz q;clear q;clear ph0 ph1 ph2 ph3;obtain⟨ph0,ph1,ph2,ph3,-⟩:=(zx HX7 Bz).cz;refine hK.out _ _ ⟨ph0,ph1,ph2,ph3⟩ (fun _=>?_);try simp only[uW,uX,uY,uZ]
 clear hK K;refine zC 41 rfl rfl (fun K hK=>?_);go_simp
 with_reducible refine(term_q 4 (1) 1 (zh zo) (zh zo) (zt hT hB Bz)).mono ?_
 rintro e w23 ⟨s23,A23,c23,l23,s23r,A23r,c23r,l23r,rfl,h23,q⟩;replace q:=zq (a:=w22) q;replace h19:=h19.below q;replace h22:=h22.below q;replace h14:=h14.below q;replace h9:=h9.below q;replace Bz:=bT Bz q;clear q;clear ph0 ph1 ph2 ph3;obtain⟨ph0,ph1,ph2,ph3,-⟩:=(zx HX7 Bz).cz;refine hK.out _ _ ⟨ph0,ph1,ph2,ph3⟩ (fun _=>?_);try simp only[uW,uX,uY,uZ]
 clear hK K;refine zC 42 rfl rfl (fun K hK=>?_);go_simp
 refine hK.out _ _ ⟨(zAb ph0),(zAb ph1),(zAb ph2),(zAb ph3)⟩ (fun _=>?_);try simp only[uW,uX,uY,uZ]
 clear hK K;refine zC 43 rfl rfl (fun K hK=>?_);go_simp
 obtain⟨V10,hW,x9,hN⟩:=zAc w23 #[.int .i64 0,.bool s22,.slice A22 l22 c22,.bool s22r,.slice A22r l22r c22r,.int .i64 4,.bool s23,.slice A23 l23 c23,.bool s23r,.slice A23r l23r c23r] 32;rw[←hW];clear hW;obtain⟨v9,hb9⟩:=ze w23.heap.size;rw[←hb9] at x9 ⊢;have ow_9:w.heap.size≤v9:=zi (zw hB Bz);replace h19:=h19.below hN;replace h22:=h22.below hN;replace h23:=h23.below hN;replace h14:=h14.below hN;replace h9:=h9.below hN;replace hB:=bT (bT hB Bz) hN;replace HX0:=zba HX0 Bz hN;replace HX1:=zba HX1 Bz hN;replace HX2:=zba HX2 Bz hN;replace HX3:=zba HX3 Bz hN;replace HX4:=zba HX4 Bz hN;replace HX5:=zba HX5 Bz hN;replace HX6:=zba HX6 Bz hN;replace HX7:=zba HX7 Bz hN;replace HX8:=zba HX8 Bz hN;have HX9:=zh x9;clear x9 hN Bz hb9;have Bz:=zr V10;clear ph0 ph1 ph2 ph3;with_reducible refine(sameVec_q (NV.below h9) (nv_lit (n:=2) [⟨0,⟨s22,A22,c22,l22,s22r,A22r,c22r,l22r,qof (1) 1,true⟩⟩,⟨4,⟨s23,A23,c23,l23,s23r,A23r,c23r,l23r,qof (1) 1,true⟩⟩] [(0,qof (1) 1),(4,qof (1) 1)] rfl (HX9.out.below (bT Bz)) rfl rfl (OnT.c 0 (RN.below h22) (sz_one zd zd zd) (OnT.c 4 (RN.below h23) (sz_one zd zd zd) (OnT.nil _ _)))) zo zo (by rw[←l9];exact mA (nrm_len _) zd) zo true (zh (by decide +kernel))).mono ?_
 rintro e w24 ⟨rfl,q⟩;replace q:=zq (a:=V10) q;replace h19:=h19.below q;replace h14:=h14.below q;replace Bz:=bT Bz q;clear q;obtain⟨ph0,ph1,ph2,ph3,-⟩:=(zx HX7 Bz).cz;refine hK.out _ _ ⟨ph0,ph1,ph2,ph3⟩ (fun _=>?_);try simp only[uW,uX,uY,uZ]
 clear hK K;iterate 4 (refine zUa ?_;try simp only[uW,uX,uY,uZ])
 refine zC 48 rfl rfl (fun K hK=>?_);go_simp
 with_reducible refine(term_q 1 (-2) 1 (zh zo) (zh zo) (zt hT hB Bz)).mono ?_
 rintro e w25 ⟨s25,A25,c25,l25,s25r,A25r,c25r,l25r,rfl,h25,q⟩;replace q:=zq (a:=w24) q;replace h19:=h19.below q;replace h14:=h14.below q;replace Bz:=bT Bz q;clear q;clear ph0 ph1 ph2 ph3;obtain⟨ph0,ph1,ph2,ph3,-⟩:=(zx HX7 Bz).cz;refine hK.out _ _ ⟨ph0,ph1,ph2,ph3⟩ (fun _=>?_);try simp only[uW,uX,uY,uZ]
 clear hK K;refine zC 49 rfl rfl (fun K hK=>?_);go_simp
 refine hK.out _ _ ⟨(zAb ph0),(zAb ph1),(zAb ph2),(zAb ph3)⟩ (fun _=>?_);try simp only[uW,uX,uY,uZ]
 clear hK K;refine zC 50 rfl rfl (fun K hK=>?_);go_simp
 obtain⟨V11,hW,x10,hN⟩:=zAc w25 #[.int .i64 1,.bool s25,.slice A25 l25 c25,.bool s25r,.slice A25r l25r c25r] 32;rw[←hW];clear hW;obtain⟨v10,hb10⟩:=ze w25.heap.size;rw[←hb10] at x10 ⊢;have ow_10:w.heap.size≤v10:=zi (zw hB Bz);replace h19:=h19.below hN;replace h25:=h25.below hN;replace h14:=h14.below hN;replace hB:=bT (bT hB Bz) hN;replace HX0:=zba HX0 Bz hN;replace HX1:=zba HX1 Bz hN;replace HX2:=zba HX2 Bz hN;replace HX3:=zba HX3 Bz hN;replace HX4:=zba HX4 Bz hN;replace HX5:=zba HX5 Bz hN;replace HX6:=zba HX6 Bz hN;replace HX7:=zba HX7 Bz hN;replace HX8:=zba HX8 Bz hN;replace HX9:=zba HX9 Bz hN;have HX10:=zh x10;clear x10 hN Bz hb10;have Bz:=zr V11;clear ph0 ph1 ph2 ph3;with_reducible refine(sameVec_q (NV.below h14) (nv_lit (n:=1) [⟨1,⟨s25,A25,c25,l25,s25r,A25r,c25r,l25r,qof (-2) 1,true⟩⟩] [(1,qof (-2) 1)] rfl (HX10.out.below (bT Bz)) rfl rfl (OnT.c 1 (RN.below h25) (sz_one zd zd zd) (OnT.nil _ _))) zo zo (by rw[←l14];exact mA (nrm_len _) zd) zo true (zh (by decide +kernel))).mono ?_
 rintro e w26 ⟨rfl,q⟩;replace q:=zq (a:=V11) q;replace h19:=h19.below q;replace Bz:=bT Bz q;clear q;obtain⟨ph0,ph1,ph2,ph3,-⟩:=(zx HX7 Bz).cz;refine hK.out _ _ ⟨ph0,ph1,ph2,ph3⟩ (fun _=>?_);try simp only[uW,uX,uY,uZ]
 clear hK K;iterate 3 (refine zUa ?_;try simp only[uW,uX,uY,uZ])
 refine zC 54 rfl rfl (fun K hK=>?_);go_simp
 with_reducible refine(of_q (1) 1 (zh zo) (zh zo) (zt hT hB Bz)).mono ?_
 rintro e w27 ⟨s27,A27,c27,l27,s27r,A27r,c27r,l27r,rfl,h27,q⟩;replace q:=zq (a:=w26) q;replace h19:=h19.below q;replace Bz:=bT Bz q;clear q;clear ph0 ph1 ph2 ph3;obtain⟨ph0,ph1,ph2,ph3,-⟩:=(zx HX7 Bz).cz;refine hK.out _ _ ⟨ph0,ph1,ph2,ph3⟩ (fun _=>?_);try simp only[uW,uX,uY,uZ]
 clear hK K;refine zC 55 rfl rfl (fun K hK=>?_);go_simp
 with_reducible refine(sameRat_rn (RN.below h19) (RN.below h27) (zj h19.len hdz) (zj h27.len (sz_one (n:=1) (d:=1) zd zd zd)) true (zh (by decide +kernel))).mono ?_
 rintro e w28 ⟨rfl,q⟩;replace q:=zq (a:=w27) q;replace Bz:=bT Bz q;clear q;clear ph0 ph1 ph2 ph3;obtain⟨ph0,ph1,ph2,ph3,-⟩:=(zx HX7 Bz).cz;refine hK.out _ _ ⟨ph0,ph1,ph2,ph3⟩ (fun _=>?_);try simp only[uW,uX,uY,uZ]
 clear hK K;iterate 2 (refine zUa ?_;try simp only[uW,uX,uY,uZ])
 refine zAa ?_;go_wp2_with fail
 go_ret
 have hF:=bT (c:=w28) hB Bz;exact⟨rfl,bT hF⟩
end Go.Proofs.YteggjbgbknkoiaaGreatDoor
