import Derived.Test.YteggjbgbknkoiaaGreatDoorYLf1
import Derived.Test.YteggjbgbknkoiaaGreatDoorYTx
import Derived.Test.YteggjbgbknkoiaaGreatDoorYTab3
set_option maxHeartbeats 32000000
set_option maxRecDepth 100000
namespace Go.Proofs.YteggjbgbknkoiaaGreatDoor
open Go.RowKit Tw
theorem denseK_q {w:World} {X:Option Addr} {nx cx m M:Nat} {P:List (Int×Rat)} (h:GV w X nx cx P M) (hM:M≤18000000000) (hM2:2≤M) (hnx:nx≤1000000) {k:Int} (hk1:1≤k) (hk:min k 65536=(m:Int)) (hm1:1≤m) (hm:m≤65536) (hT:Hid (Tab w)) :
  Calls Tryz.prog 18 #[.slice X nx cx,.int .i64 k] w (TellsFsO w m (denseF P m) M):=by
 have HX:=zh h;have HPL:=zh h.len;have g1:¬k<1:=zo;have g2:(m:Int)≤65536:=zo;clear h;go_enter Tryz.func18,Tryz.ntmps18
 go_wp2_with (at_make;refine And.left (b:=True) ?_)
 refine⟨?_,trivial⟩;refine Elt.makeN elt_frs zFr (fun i z h1 h2=>fr_zero h1 h2) rfl _ _ rfl .i64 .i64 m (rfl) (rfl) zo w.heap.size (aA _) ?_;intro g w1 ho1 b1;have HO1:=zh ho1;have hnq:=normO_q (HX.out.below b1) zo hnx (zh (hT.out.below b1));have HB1:=zh b1;clear ho1 b1;go_wp2_with fail
 with_reducible refine hnq.mono ?_
 rintro e w2 ⟨Am,nm,cm,T,rfl,ho2,on2,ep,b2⟩;have HAP:Ap (.slice Am nm cm) (.slice (some ⟨g,0,none⟩) m m):=by
  cases e:(Value.slice Am nm cm).ownBlock with
  | none=>exact .inl e
  | some b =>
   refine .inr fun e2=>?_;rw[e] at e2;have h1:=ho2.base b e;have h2:=HO1.out.lt b e2.symm;omega
 have HO2:=zh (ho2.rebase HB1.out.size);have HO3:=zh (HO1.out.below b2);have HN2:=zh on2;have HEP:=zh ep;have HRI:Hid (Rise (prs T)):=zh (by rw[ep];exact(nrm_nrm P).rise);have HTL:=zh (ho2.eltn elt_vec zo);have HB2:=zh (bT HB1.out b2);have hnm:nm≤1000000:=by
  have h1:=nrm_len P;rw[←ep,prs_len,ho2.eltn elt_vec zo] at h1;have:=HPL.out;omega
 clear hnq ho2 on2 ep b2 HO1 HB1;go_wp2_with fail
 go_loopg [16] nm (fun gk s wr=>DS1 w g m M nm (.slice Am nm cm) T gk s wr)
 case atStart=>exact⟨0,_,wA _,rfl,rfl,HO3.out,HO2.out,AllRn.zeros _ _ hM2,by rw[List.take_zero];exact DnsE.start m,HN2.out,HB2.out⟩
 case round =>
  clear HO2 HO3 HN2 HB2;obtain⟨j,D0,hj,hgj,rfl,ho,ht,hfr,hd,hon,hB⟩:=hrel;have HGJ:=zh hgj;have HD:=zh hd;have HDL:=zh (ho.eltn elt_frs zo);clear hgj hd;by_cases hlj:j<nm
  ·obtain⟨eb,offe,rfl,hel⟩:=(ht.sl' elt_vec HTL.out).at Tm.cs_len zo zo;obtain⟨x,hx⟩:∃x,T[j]?=some x:=⟨T[j]'(by rw[HTL.out];exact hlj),gA _⟩;have hnd:=hel j x hx;have HXI:=zh hx;have HXN:=zh (hon x (jA hx));have apT:=HAP;have j1:(j:Int)<(nm:Int):=zo;have j2:(0:Int)≤(j:Int):=zo;clear hel hx;by_cases k1:x.at_<0
   ·have HD2:=zh (HD.out.skip HXI.out (.inl k1));have g3:¬0≤x.at_:=zo;have Bz:=zr wr;obtain⟨pA0,pA1,pA2,pA3,pA4,-⟩:=(hnd.below Bz).ez;go_upto_region 7 with(fail)
    obtain⟨V11,hW,x0,hN⟩:=zAc wr #[.int .i64 x.at_,.bool x.x.s,.slice x.x.A x.x.l x.x.c,.bool x.x.s',.slice x.x.A' x.x.l' x.x.c'] 32;rw[←hW];clear hW;obtain⟨v0,hb0⟩:=ze wr.heap.size;rw[←hb0] at x0 ⊢;have ow_0:w.heap.size≤v0:=zi (zw hB Bz);replace hfr:=hfr.below hN;replace hon:=hon.below hN;replace ho:=ho.below hN;replace ht:=ht.below hN;replace hB:=bT (bT hB Bz) hN;have HX0:=zh x0;clear x0 hN Bz hb0;have Bz:=zr V11;clear pA0 pA1 pA2 pA3 pA4;have pa0:=(zx HX0 Bz).cell 0 (.int .i64 x.at_) rfl;go_wp2_with fail
    go_roundg (nm-(j+1))
    case measure=>have:=HGJ.out;omega
    case rel=>exact⟨j+1,_,zo,rfl,by go_num,OwnR.below ho,OwnR.below ht,AllRn.below hfr,HD2.out,OnT.below hon,bT (bT hB Bz)⟩
   ·by_cases k2:(m:Int)≤x.at_
    ·have HD2:=zh (HD.out.skip HXI.out (.inr (by rw[HDL.out];exact k2)));have g3:0≤x.at_:=zo;have g4:¬x.at_<(m:Int):=zo;have Bz:=zr wr;obtain⟨pA0,pA1,pA2,pA3,pA4,-⟩:=(hnd.below Bz).ez;go_upto_region 7 with(fail)
     obtain⟨V11,hW,x0,hN⟩:=zAc wr #[.int .i64 x.at_,.bool x.x.s,.slice x.x.A x.x.l x.x.c,.bool x.x.s',.slice x.x.A' x.x.l' x.x.c'] 32;rw[←hW];clear hW;obtain⟨v0,hb0⟩:=ze wr.heap.size;rw[←hb0] at x0 ⊢;have ow_0:w.heap.size≤v0:=zi (zw hB Bz);replace hfr:=hfr.below hN;replace hon:=hon.below hN;replace ho:=ho.below hN;replace ht:=ht.below hN;replace hB:=bT (bT hB Bz) hN;have HX0:=zh x0;clear x0 hN Bz hb0;have Bz:=zr V11;clear pA0 pA1 pA2 pA3 pA4;have pa0:=(zx HX0 Bz).cell 0 (.int .i64 x.at_) rfl;go_wp2_with fail
     go_roundg (nm-(j+1))
     case measure=>have:=HGJ.out;omega
     case rel=>exact⟨j+1,_,zo,rfl,by go_num,OwnR.below ho,OwnR.below ht,AllRn.below hfr,HD2.out,OnT.below hon,bT (bT hB Bz)⟩
    ·have g3:0≤x.at_:=zo;have g4:x.at_<(m:Int):=zo;obtain⟨y,hy⟩:∃y,D0[x.at_.toNat]?=some y:=⟨D0[x.at_.toNat]'(by rw[HDL.out];omega),gA _⟩;have HY:=zh hy;have HD2:Hid (∀r:Fr,r.q=x.x.q→DnsE (D0.set x.at_.toNat r) (T.take (j+1))):=zh (fun r hr=>HD.out.step HRI.out HXI.out zo HY.out r hr);have hxr:=HXN.out.1;clear hy;have Bz:=zr wr;obtain⟨pA0,pA1,pA2,pA3,pA4,-⟩:=(hnd.below Bz).ez;go_upto_region 7 with(fail)
     obtain⟨V11,hW,x0,hN⟩:=zAc wr #[.int .i64 x.at_,.bool x.x.s,.slice x.x.A x.x.l x.x.c,.bool x.x.s',.slice x.x.A' x.x.l' x.x.c'] 32;rw[←hW];clear hW;obtain⟨v0,hb0⟩:=ze wr.heap.size;rw[←hb0] at x0 ⊢;have ow_0:w.heap.size≤v0:=zi (zw hB Bz);replace hfr:=hfr.below hN;replace hon:=hon.below hN;replace ho:=ho.below hN;replace ht:=ht.below hN;replace hxr:=hxr.below hN;replace hB:=bT (bT hB Bz) hN;have HX0:=zh x0;clear x0 hN Bz hb0;have Bz:=zr V11;clear pA0 pA1 pA2 pA3 pA4;obtain⟨pa0,pa1,pa2,pa3,pa4,-⟩:=(zx HX0 Bz).cz;have pB0:=fr_0 ho HY.out;have pB1:=elt_frs.cell ho HY.out (j:=1) (u:=.slice y.A y.l y.c) zo rfl;have pB2:=elt_frs.cell ho HY.out (j:=2) (u:=.bool y.s') zo rfl;have pB3:=elt_frs.cell ho HY.out (j:=3) (u:=.slice y.A' y.l' y.c') zo rfl;have fB0:=ho.frozen (x.at_.toNat*4);have fB1:=ho.frozen (x.at_.toNat*4+1);have fB2:=ho.frozen (x.at_.toNat*4+2);have fB3:=ho.frozen (x.at_.toNat*4+3);have y51:=ho.blk.1;go_upto_region 9 with(fail)
     obtain⟨V12,hV,ho2,hg2⟩:=fr_store ho HY.out ⟨x.x.s,x.x.A,x.x.c,x.x.l,x.x.s',x.x.A',x.x.c',x.x.l',x.x.q,true⟩;rw[←hV];clear hV;replace hB:=(bT hB Bz).trans (hg2.below (zi (zw hB Bz)) (fun g' hg'=>by have:=ho.base g' hg';omega));have ht2:=ht.grown hg2 apT;replace hfr:=AllRn.set hfr x.at_.toNat (x:=⟨x.x.s,x.x.A,x.x.c,x.x.l,x.x.s',x.x.A',x.x.c',x.x.l',x.x.q,true⟩) (AllRn.put (RN.below hxr) HXN.out.2.2);clear HX0;replace hfr:=hfr.k hg2.k;replace hon:=hon.k hg2.k;clear ho ht;have ho:=ho2;have ht:=ht2;clear ho2 hg2 ht2 Bz;have Bz:=zr V12;clear pa0 pa1 pa2 pa3 pa4 pB0 pB1 pB2 pB3 fB0 fB1 fB2 fB3 y51;go_wp2_with fail
     go_roundg (nm-(j+1))
     case measure=>have:=HGJ.out;omega
     case rel=>exact⟨j+1,_,zo,rfl,by go_num,OwnR.below ho,OwnR.below ht,AllRn.below hfr,HD2.out _ rfl,OnT.below hon,bT (bT hB Bz)⟩
  ·obtain rfl:j=nm:=zo;have j1:¬(j:Int)<(j:Int):=zo;have HDN:Hid (D0.map (fun x=>x.q)=denseF P m):=zh (by
    have h9:=HD.out;rw[fA (by rw[HTL.out];exact aA _)] at h9;rw[h9.done HDL.out,HEP.out,denseF_nrm])
   have HSL:=zh ho;have HFR:=zh hfr;clear ho ht hfr hon;go_wp2_with fail
   go_ret
   exact⟨_,D0,rfl,HSL.out,HFR.out,HDN.out,hB⟩
theorem ElA.ato {w:World} {b off:Nat} {cs:List Value} (h:ElA w b off cs) (o j:Nat) (u:Value) (hu:cs[j]?=some u) (ho:off+j=o):w.cell? ⟨b,o,none⟩=some u:=by
 subst ho;exact h j u hu
theorem fs_at {w:World} {B g m M:Nat} {L:List Fr} {P:List (Int×Rat)} (ho:OwnR w B 30 4 (.slice (some ⟨g,0,none⟩) m m) m (flat Fr.cs L)) (ha:AllRn w M L) (hq:L.map (fun x=>x.q)=denseF P m) (i:Nat) (hi:i<m) (q:Rat) (h:pget P (i:Int)=q) :
  ∃s A l c s' A' l' c',ElA w g (i*4) [.bool s,.slice A l c,.bool s',.slice A' l' c']∧RN w s A c l s' A' c' l' q:=by
 obtain⟨y,hy⟩:∃y,L[i]?=some y:=⟨_,gA (by rw[ho.eltn elt_frs zo];exact hi)⟩;have hyq:y.q=q:=by
  have h1:=congrArg (fun l:List Rat=>l[i]?) hq;unfold denseF at h1
  simp only[qC,hy,List.getElem?_range hi,dE,Option.some.injEq] at h1
  rw[h1,h]
 exact⟨y.s,y.A,y.l,y.c,y.s',y.A',y.l',y.c',fun j u hu=>elt_frs.cell ho hy (j:=j) (aC.1 hu).1 hu,hyq ▸ (ha y (jA hy)).1⟩
theorem own_nv {w:World} {B n c M k:Nat} {A:Option Addr} {L:List Tm} {P:List (Int×Rat)} (ho:OwnR w B 32 5 (.slice A n c) n (flat Tm.cs L)) (hon:OnT w L (fun _=>M)) (hp:prs L=P) (hk:P.length=k) (h0:0<k) :
  n=k∧∃g,A=some ⟨g,0,none⟩∧NV w (some ⟨g,0,none⟩) n c P M∧∀(i:Nat) (a:Int) (q:Rat),P[i]?=some (a,q)→
   ∃s A l c s' A' l' c',ElA w g (i*5) [.int .i64 a,.bool s,.slice A l c,.bool s',.slice A' l' c']∧RN w s A c l s' A' c' l' q:=by
 have hl:=ho.eltn elt_vec zo;have hn:n=k:=by rw[←hl,←prs_len,hp,hk]
 obtain⟨_,⟨h2,_⟩ | ⟨g,cap,cur,h2,_⟩⟩:=id ho
 ·injection h2 with _ h3
  omega
 ·obtain rfl:A=some ⟨g,0,none⟩:=by injection h2
  refine⟨hn,g,rfl,⟨L,ho.sl' elt_vec hl,hon,hp,fun h=>by cases h⟩,fun i a q hi=>?_⟩;subst hp;obtain⟨t,ht,e⟩:∃t,L[i]?=some t∧(t.at_,t.x.q)=(a,q):=by
   unfold prs at hi
   rw[qC] at hi;cases e:L[i]? with
   | none=>rw[e] at hi;cases hi
   | some t=>rw[e] at hi;exact⟨t,rfl,Option.some.inj hi⟩
  injection e with e5 e6
  subst e5 e6;exact⟨t.x.s,t.x.A,t.x.l,t.x.c,t.x.s',t.x.A',t.x.l',t.x.c',fun j u hu=>elt_vec.cell ho ht (j:=j) (aC.1 hu).1 hu,(hon t (jA ht)).1⟩
theorem Bx.nums1 {w:World} {b d:Nat} {t:TypeId} (h:Bx w b #[.int .u64 (d:Int)] t) (hd:d<18446744073709551616):Nums w (some ⟨b,0,none⟩) 1 [d] :=
 ⟨fun x hx=>by obtain rfl:=kC.1 hx;exact hd,aA _,fun _=>⟨b,0,rfl,fun k hk=>by
  obtain rfl:k=0:=by simpa using hk
  exact h.cell 0 _ rfl⟩⟩
def rawF (a b:Nat):Fr:=⟨false,some ⟨a,0,none⟩,1,1,false,some ⟨b,0,none⟩,1,1,qof 2 4,false⟩
theorem rawF_ok {w:World} {a b:Nat} {t:TypeId} (h:Bx w a #[.int .u64 2] t) (h':Bx w b #[.int .u64 4] t):FrOk w 1 (rawF a b):=by
 have n1:=Bx.nums1 (d:=2) h zd;have n2:=Bx.nums1 (d:=4) h' zd;refine⟨⟨2,4,⟨2,⟨[2],n1,rfl,rfl⟩,rfl⟩,⟨4,⟨[4],n2,rfl,rfl⟩,rfl⟩,rfl,aA _,aA _⟩,[2],[4],⟨n1,rfl⟩,⟨n2,rfl⟩,?_⟩;show exB false [2] false [4] (qof 2 4)=false
 have e:decide ([2]=limbs (qof 2 4).num.natAbs)=false:=cA fun e=>by
  have h1:=congrArg val e;rw[val_limbs] at h1;revert h1
  decide
 unfold exB
 rw[e];simp
theorem gv_far {w:World} {b va vb:Nat} {cs:Array Value} {te:TypeId} {t1 t2:Tm} (P:List (Int×Rat)) (h:Bx w b cs te) (hcs:cs.toList=flat Tm.cs [t1,t2,⟨0,rawF va vb⟩]) (hon:OnT w [t1,t2] fun _=>2) (hr:FrOk w 1 (rawF va vb)) (hp:prs [t1,t2,⟨0,rawF va vb⟩]=P):GV w (some ⟨b,0,none⟩) 3 3 P 100:=by
 have d1:dgT t1≤1:=by have h1:=hon.dg t1 (by simp);have h2:sz t1.x.q+1≤2:=(hon t1 (by simp)).2.2;omega
 have d2:dgT t2≤1:=by have h1:=hon.dg t2 (by simp);have h2:sz t2.x.q+1≤2:=(hon t2 (by simp)).2.2;omega
 have d3:dgT ⟨0,rawF va vb⟩=1:=rfl;refine⟨_,sl_lit h hcs rfl,fun t ht=>?_,hp,fun a=>?_,fun h=>by cases h⟩
 ·rcases wB.1 ht with rfl | ht
  ·exact hon.ok _ (by simp)
  rcases wB.1 ht with rfl | ht
  ·exact hon.ok _ (by simp)
  obtain rfl:=kC.1 ht;exact hr
 ·unfold wsum wsum wsum wsum
  split<;>split<;>split<;>omega
theorem gv_nil5 (w:World) (M:Nat):GV w none 0 0 [] M:=⟨[],Sl.nil _,(fun t ht=>by cases ht),rfl,fun _=>wA _,fun _=>rfl⟩
def rightAtP (P:List (Int×Rat)) (n:Int) (i:Nat):Bool :=
 match P[i]? with
 | none=>true
 | some t=>decide (0≤t.1)&&decide (t.1<n)&&(match i with | 0=>true | j+1=>match P[j]? with | none=>true | some p=>decide (p.1<t.1))&&decide (t.2≠0)
theorem rightB_prs {w:World} {L:List Tm} {b:Int→Nat} (hon:OnT w L b) (n:Int) (P:List (Int×Rat)) (hp:prs L=P) (r:Bool) (hr:(List.range P.length).all (rightAtP P n)=r):rightB L n=r:=by
 subst hp hr;unfold rightB
 rw[prs_len];congr 1
 funext i
 unfold rightAt rightAtP
 have hg:∀j:Nat,(prs L)[j]?=(L[j]?).map fun t=>(t.at_,t.x.q):=fun j=>by unfold prs;rw[qC]
 rw[hg];cases e:L[i]? with
 | none=>rfl
 | some t =>
  have he:=(hon t (jA e)).2.1;simp only[dE,he,Bool.and_true]
  cases i with
  | zero=>rfl
  | succ j =>
   simp only[hg]
   cases L[j]?<;>rfl
theorem rightB_raw (a n:Int) (va vb:Nat):rightB [⟨a,rawF va vb⟩] n=false:=by
 have e:rightB [⟨a,rawF va vb⟩] n=(decide (0≤a)&&decide (a<n)&&true&&decide (qof 2 4≠0)&&false&&true):=rfl;rw[e,Bool.and_false];rfl
theorem sparseNumbers_q {w:World} (hT:Hid (Tab w)):Calls Tryz.prog 4 #[] w (Yes w):=by
 have hB:=Below.refl w.heap.size w;have Bz:=zr w;go_enter Tryz.func4,Tryz.ntmps4
 go_wp2_with fail
 with_reducible refine(term_q (1) (5) 1 (zh zo) (zh zo) (zt hT hB Bz)).mono ?_
 rintro e w1 ⟨s1,A1,c1,l1,s1r,A1r,c1r,l1r,rfl,h1,q⟩;replace q:=zq (a:=w) q;replace Bz:=bT Bz q;clear q;go_upto_region 2 with(fail)
 obtain⟨V1,hW,x0,hN⟩:=zAc w1 #[.int .i64 1,.bool s1,.slice A1 l1 c1,.bool s1r,.slice A1r l1r c1r] 32;rw[←hW];clear hW;obtain⟨v0,hb0⟩:=ze w1.heap.size;rw[←hb0] at x0 ⊢;have ow_0:w.heap.size≤v0:=zi (zw hB Bz);replace h1:=h1.below hN;replace hB:=bT (bT hB Bz) hN;have HX0:=zh x0;clear x0 hN Bz hb0;have Bz:=zr V1;go_wp2_with fail
 with_reducible refine(denseK_q (m:=3) (k:=3) (gv_lit (n:=1) [⟨1,⟨s1,A1,c1,l1,s1r,A1r,c1r,l1r,qof (5) 1,true⟩⟩] [(1,qof (5) 1)] rfl (HX0.out.below (bT Bz)) rfl rfl (OnT.c 1 (RN.below h1) (sz_one zd zd zd) (OnT.nil _ _))) zd zd zd zd zd zd zd (zt hT hB Bz)).mono ?_
 rintro e w2 ⟨g2,L2,rfl,ho2,ha2,hm2,q⟩;replace q:=zq (a:=V1) q;replace h1:=h1.below q;replace Bz:=bT Bz q;clear q;obtain⟨sd2a,Ad2a,ld2a,cd2a,sr2a,Ar2a,lr2a,cr2a,hE2a,hq2a⟩:=fs_at ho2 ha2 hm2 0 zd 0 (by decide +kernel);obtain⟨sd2b,Ad2b,ld2b,cd2b,sr2b,Ar2b,lr2b,cr2b,hE2b,hq2b⟩:=fs_at ho2 ha2 hm2 1 zd (qof (5) 1) (by decide +kernel);clear ho2 ha2 hm2;have p301_0:=(hE2b.ato 4 0 (.bool sd2b) rfl rfl);have p301_1:=(hE2b.ato 5 1 (.slice Ad2b ld2b cd2b) rfl rfl);have p301_2:=(hE2b.ato 6 2 (.bool sr2b) rfl rfl);have p301_3:=(hE2b.ato 7 3 (.slice Ar2b lr2b cr2b) rfl rfl);go_wp2_with fail
 with_reducible refine(rtext0_q (d:=5) (RN.below hq2b).r (by decide +kernel) (zt hT hB Bz) (by decide +kernel) (by decide +kernel) zd zd fmt_says5).mono ?_
 rintro e w3 ⟨rfl,q⟩;replace q:=zq (a:=w2) q;replace hE2a:=hE2a.below q;replace h1:=h1.below q;replace hq2a:=hq2a.below q;replace Bz:=bT Bz q;clear q;clear p301_0 p301_1 p301_2 p301_3;have p300_0:=(hE2a.ato 0 0 (.bool sd2a) rfl rfl);have p300_1:=(hE2a.ato 1 1 (.slice Ad2a ld2a cd2a) rfl rfl);have p300_2:=(hE2a.ato 2 2 (.bool sr2a) rfl rfl);have p300_3:=(hE2a.ato 3 3 (.slice Ar2a lr2a cr2a) rfl rfl);go_wp2_with fail
 with_reducible refine(sign_q (RN.below hq2a).r (by decide +kernel) 0 (zh (by decide +kernel))).mono ?_
 rintro e w4 ⟨rfl,q⟩;replace q:=zq (a:=w3) q;replace h1:=h1.below q;replace Bz:=bT Bz q;clear q;clear p300_0 p300_1 p300_2 p300_3;go_wp2_with fail
 with_reducible refine(dense_no (0) zd).mono ?_
 rintro e w5 ⟨rfl,q⟩;replace q:=zq (a:=w4) q;replace h1:=h1.below q;replace Bz:=bT Bz q;clear q;go_wp2_with fail
 with_reducible refine(dense_no (-1) zd).mono ?_
 rintro e w6 ⟨rfl,q⟩;replace q:=zq (a:=w5) q;replace h1:=h1.below q;replace Bz:=bT Bz q;clear q;go_wp2_with fail
 with_reducible refine(denseK_q (m:=1) (k:=1) (gv_lit (n:=1) [⟨1,⟨s1,A1,c1,l1,s1r,A1r,c1r,l1r,qof (5) 1,true⟩⟩] [(1,qof (5) 1)] rfl (HX0.out.below (bT Bz)) rfl rfl (OnT.c 1 (RN.below h1) (sz_one zd zd zd) (OnT.nil _ _))) zd zd zd zd zd zd zd (zt hT hB Bz)).mono ?_
 rintro e w7 ⟨g7,L7,rfl,ho7,ha7,hm7,q⟩;replace q:=zq (a:=w6) q;replace h1:=h1.below q;replace Bz:=bT Bz q;clear q;clear ho7 ha7 hm7;go_wp2_with fail
 with_reducible refine(denseK_q (m:=65536) (k:=1048576) (gv_lit (n:=1) [⟨1,⟨s1,A1,c1,l1,s1r,A1r,c1r,l1r,qof (5) 1,true⟩⟩] [(1,qof (5) 1)] rfl (HX0.out.below (bT Bz)) rfl rfl (OnT.c 1 (RN.below h1) (sz_one zd zd zd) (OnT.nil _ _))) zd zd zd zd zd zd zd (zt hT hB Bz)).mono ?_
 rintro e w8 ⟨g8,L8,rfl,ho8,ha8,hm8,q⟩;replace q:=zq (a:=w7) q;replace h1:=h1.below q;replace Bz:=bT Bz q;clear q;clear ho8 ha8 hm8;go_upto_region 5 with(fail)
 obtain⟨V2,hW,x1,hN⟩:=zAc w8 #[.int .u64 2] 53;have hs1:V2.heap.size=w8.heap.size+1:=by rw[hW];simp
 rw[←hW];clear hW;obtain⟨v1,hb1⟩:=ze w8.heap.size;rw[←hb1] at x1 hs1 ⊢;have ow_1:w.heap.size≤v1:=zi (zw hB Bz);replace h1:=h1.below hN;replace hB:=bT (bT hB Bz) hN;replace HX0:=zba HX0 Bz hN;have HX1:=zh x1;clear x1 hN Bz hb1;have Bz:=zr V2;obtain⟨V3,hW,x2,hN⟩:=zAc V2 #[.int .u64 4] 53;have hs2:V3.heap.size=V2.heap.size+1:=by rw[hW];simp
 rw[←hW];clear hW;rw[hs1] at x2 hs2;obtain⟨v2,hb2⟩:=ze (v1+1);rw[←hb2] at x2 hs2  ⊢;have ow_2:w.heap.size≤v2:=zi (zw hB Bz);replace h1:=h1.below hN;replace hB:=bT (bT hB Bz) hN;replace HX0:=zba HX0 Bz hN;replace HX1:=zba HX1 Bz hN;have HX2:=zh x2;clear x2 hN Bz hb2;have Bz:=zr V3;clear hs1;obtain⟨V4,hW,x3,hN⟩:=zAc V3 #[.bool false,.slice (some ⟨v1,0,none⟩) 1 1,.bool false,.slice (some ⟨v2,0,none⟩) 1 1] 30;have hs3:V4.heap.size=V3.heap.size+1:=by rw[hW];simp
 rw[←hW];clear hW;rw[hs2] at x3 hs3;obtain⟨v3,hb3⟩:=ze (v2+1);rw[←hb3] at x3 hs3  ⊢;have ow_3:w.heap.size≤v3:=zi (zw hB Bz);replace h1:=h1.below hN;replace hB:=bT (bT hB Bz) hN;replace HX0:=zba HX0 Bz hN;replace HX1:=zba HX1 Bz hN;replace HX2:=zba HX2 Bz hN;have HX3:=zh x3;clear x3 hN Bz hb3;have Bz:=zr V4;clear hs2;go_wp2_with fail
 with_reducible refine(term_q (0) (1) 1 (zh zo) (zh zo) (zt hT hB Bz)).mono ?_
 rintro e w9 ⟨s9,A9,c9,l9,s9r,A9r,c9r,l9r,rfl,h9,q⟩;replace q:=zq (a:=V4) q;replace h1:=h1.below q;replace Bz:=bT Bz q;clear q;go_wp2_with fail
 obtain⟨V5,hW,x4,hN⟩:=zAc w9 #[.int .i64 0,.bool s9,.slice A9 l9 c9,.bool s9r,.slice A9r l9r c9r] 32;rw[←hW];clear hW;obtain⟨v4,hb4⟩:=ze w9.heap.size;rw[←hb4] at x4 ⊢;have ow_4:w.heap.size≤v4:=zi (zw hB Bz);replace h1:=h1.below hN;replace h9:=h9.below hN;replace hB:=bT (bT hB Bz) hN;replace HX0:=zba HX0 Bz hN;replace HX1:=zba HX1 Bz hN;replace HX2:=zba HX2 Bz hN;replace HX3:=zba HX3 Bz hN;have HX4:=zh x4;clear x4 hN Bz hb4;have Bz:=zr V5;with_reducible refine(right_q (m:=2) (len:=1) (n:=1) (L:=[⟨0,⟨s9,A9,c9,l9,s9r,A9r,c9r,l9r,qof (1) 1,true⟩⟩]) (sl_lit (HX4.out.below (bT Bz)) rfl rfl) (OnT.fr (OnT.c 0 (RN.below h9) (sz_one zd zd zd) (OnT.nil _ _)) (fun _=>aA 2)) zd zd true (zh (rightB_prs (OnT.c 0 (RN.below h9) (sz_one zd zd zd) (OnT.nil _ _)) _ [(0,qof (1) 1)] rfl _ (by decide +kernel))) (zt hT hB Bz)).mono ?_
 rintro e w10 ⟨rfl,q⟩;replace q:=zq (a:=V5) q;replace h1:=h1.below q;replace Bz:=bT Bz q;clear q;go_wp2_with fail
 with_reducible refine(right_q (m:=2) (len:=1) (n:=1) (L:=[⟨1,⟨s1,A1,c1,l1,s1r,A1r,c1r,l1r,qof (5) 1,true⟩⟩]) (sl_lit (HX0.out.below (bT Bz)) rfl rfl) (OnT.fr (OnT.c 1 (RN.below h1) (sz_one zd zd zd) (OnT.nil _ _)) (fun _=>aA 2)) zd zd false (zh (rightB_prs (OnT.c 1 (RN.below h1) (sz_one zd zd zd) (OnT.nil _ _)) _ [(1,qof (5) 1)] rfl _ (by decide +kernel))) (zt hT hB Bz)).mono ?_
 rintro e w11 ⟨rfl,q⟩;replace q:=zq (a:=w10) q;replace h1:=h1.below q;replace Bz:=bT Bz q;clear q;go_wp2_with fail
 with_reducible refine(term_q (0) (0) 1 (zh zo) (zh zo) (zt hT hB Bz)).mono ?_
 rintro e w12 ⟨s12,A12,c12,l12,s12r,A12r,c12r,l12r,rfl,h12,q⟩;replace q:=zq (a:=w11) q;replace h1:=h1.below q;replace Bz:=bT Bz q;clear q;go_wp2_with fail
 obtain⟨V6,hW,x5,hN⟩:=zAc w12 #[.int .i64 0,.bool s12,.slice A12 l12 c12,.bool s12r,.slice A12r l12r c12r] 32;rw[←hW];clear hW;obtain⟨v5,hb5⟩:=ze w12.heap.size;rw[←hb5] at x5 ⊢;have ow_5:w.heap.size≤v5:=zi (zw hB Bz);replace h1:=h1.below hN;replace h12:=h12.below hN;replace hB:=bT (bT hB Bz) hN;replace HX0:=zba HX0 Bz hN;replace HX1:=zba HX1 Bz hN;replace HX2:=zba HX2 Bz hN;replace HX3:=zba HX3 Bz hN;replace HX4:=zba HX4 Bz hN;have HX5:=zh x5;clear x5 hN Bz hb5;have Bz:=zr V6;with_reducible refine(right_q (m:=2) (len:=1) (n:=1) (L:=[⟨0,⟨s12,A12,c12,l12,s12r,A12r,c12r,l12r,qof (0) 1,true⟩⟩]) (sl_lit (HX5.out.below (bT Bz)) rfl rfl) (OnT.fr (OnT.c 0 (RN.below h12) (sz_one zd zd zd) (OnT.nil _ _)) (fun _=>aA 2)) zd zd false (zh (rightB_prs (OnT.c 0 (RN.below h12) (sz_one zd zd zd) (OnT.nil _ _)) _ [(0,qof (0) 1)] rfl _ (by decide +kernel))) (zt hT hB Bz)).mono ?_
 rintro e w13 ⟨rfl,q⟩;replace q:=zq (a:=V6) q;replace h1:=h1.below q;replace Bz:=bT Bz q;clear q;obtain⟨pd0,pd1,pd2,pd3,-⟩:=(zx HX3 Bz).cz;go_wp2_with fail
 obtain⟨V7,hW,x6,hN⟩:=zAc w13 #[.int .i64 0,.bool false,.slice (some ⟨v1,0,none⟩) 1 1,.bool false,.slice (some ⟨v2,0,none⟩) 1 1] 32;rw[←hW];clear hW;obtain⟨v6,hb6⟩:=ze w13.heap.size;rw[←hb6] at x6 ⊢;have ow_6:w.heap.size≤v6:=zi (zw hB Bz);replace h1:=h1.below hN;replace hB:=bT (bT hB Bz) hN;replace HX0:=zba HX0 Bz hN;replace HX1:=zba HX1 Bz hN;replace HX2:=zba HX2 Bz hN;replace HX3:=zba HX3 Bz hN;replace HX4:=zba HX4 Bz hN;replace HX5:=zba HX5 Bz hN;have HX6:=zh x6;clear x6 hN Bz hb6;have Bz:=zr V7;clear pd0 pd1 pd2 pd3;with_reducible refine(right_q (m:=1) (len:=1) (n:=1) (L:=[⟨0,rawF v1 v2⟩]) (sl_lit (HX6.out.below (bT Bz)) rfl rfl) (fun t ht=>by obtain rfl:=kC.1 ht;exact(rawF_ok (HX1.out.below (bT Bz)) (HX2.out.below (bT Bz)))) zd zd false (zh (rightB_raw _ _ _ _)) (zt hT hB Bz)).mono ?_
 rintro e w14 ⟨rfl,q⟩;replace q:=zq (a:=V7) q;replace h1:=h1.below q;replace Bz:=bT Bz q;clear q;go_wp2_with fail
 with_reducible refine(term_q (-1) (1) 1 (zh zo) (zh zo) (zt hT hB Bz)).mono ?_
 rintro e w15 ⟨s15,A15,c15,l15,s15r,A15r,c15r,l15r,rfl,h15,q⟩;replace q:=zq (a:=w14) q;replace h1:=h1.below q;replace Bz:=bT Bz q;clear q;go_wp2_with fail
 obtain⟨V8,hW,x7,hN⟩:=zAc w15 #[.int .i64 (-1),.bool s15,.slice A15 l15 c15,.bool s15r,.slice A15r l15r c15r] 32;rw[←hW];clear hW;obtain⟨v7,hb7⟩:=ze w15.heap.size;rw[←hb7] at x7 ⊢;have ow_7:w.heap.size≤v7:=zi (zw hB Bz);replace h1:=h1.below hN;replace h15:=h15.below hN;replace hB:=bT (bT hB Bz) hN;replace HX0:=zba HX0 Bz hN;replace HX1:=zba HX1 Bz hN;replace HX2:=zba HX2 Bz hN;replace HX3:=zba HX3 Bz hN;replace HX4:=zba HX4 Bz hN;replace HX5:=zba HX5 Bz hN;replace HX6:=zba HX6 Bz hN;have HX7:=zh x7;clear x7 hN Bz hb7;have Bz:=zr V8;with_reducible refine(right_q (m:=2) (len:=1) (n:=1) (L:=[⟨(-1),⟨s15,A15,c15,l15,s15r,A15r,c15r,l15r,qof (1) 1,true⟩⟩]) (sl_lit (HX7.out.below (bT Bz)) rfl rfl) (OnT.fr (OnT.c (-1) (RN.below h15) (sz_one zd zd zd) (OnT.nil _ _)) (fun _=>aA 2)) zd zd false (zh (rightB_prs (OnT.c (-1) (RN.below h15) (sz_one zd zd zd) (OnT.nil _ _)) _ [((-1),qof (1) 1)] rfl _ (by decide +kernel))) (zt hT hB Bz)).mono ?_
 rintro e w16 ⟨rfl,q⟩;replace q:=zq (a:=V8) q;replace h1:=h1.below q;replace Bz:=bT Bz q;clear q;go_wp2_with fail
 with_reducible refine(term_q (1) (1) 1 (zh zo) (zh zo) (zt hT hB Bz)).mono ?_
 rintro e w17 ⟨s17,A17,c17,l17,s17r,A17r,c17r,l17r,rfl,h17,q⟩;replace q:=zq (a:=w16) q;replace h1:=h1.below q;replace Bz:=bT Bz q;clear q;go_wp2_with fail
 with_reducible refine(term_q (1) (1) 1 (zh zo) (zh zo) (zt hT hB Bz)).mono ?_
 rintro e w18 ⟨s18,A18,c18,l18,s18r,A18r,c18r,l18r,rfl,h18,q⟩;replace q:=zq (a:=w17) q;replace h1:=h1.below q;replace h17:=h17.below q;replace Bz:=bT Bz q;clear q;go_wp2_with fail
 obtain⟨V9,hW,x8,hN⟩:=zAc w18 #[.int .i64 1,.bool s17,.slice A17 l17 c17,.bool s17r,.slice A17r l17r c17r,.int .i64 1,.bool s18,.slice A18 l18 c18,.bool s18r,.slice A18r l18r c18r] 32;rw[←hW];clear hW;obtain⟨v8,hb8⟩:=ze w18.heap.size;rw[←hb8] at x8 ⊢;have ow_8:w.heap.size≤v8:=zi (zw hB Bz);replace h1:=h1.below hN;replace h17:=h17.below hN;replace h18:=h18.below hN;replace hB:=bT (bT hB Bz) hN;replace HX0:=zba HX0 Bz hN;replace HX1:=zba HX1 Bz hN;replace HX2:=zba HX2 Bz hN;replace HX3:=zba HX3 Bz hN;replace HX4:=zba HX4 Bz hN;replace HX5:=zba HX5 Bz hN;replace HX6:=zba HX6 Bz hN;replace HX7:=zba HX7 Bz hN;have HX8:=zh x8;clear x8 hN Bz hb8;have Bz:=zr V9;with_reducible refine(right_q (m:=2) (len:=2) (n:=5) (L:=[⟨1,⟨s17,A17,c17,l17,s17r,A17r,c17r,l17r,qof (1) 1,true⟩⟩,⟨1,⟨s18,A18,c18,l18,s18r,A18r,c18r,l18r,qof (1) 1,true⟩⟩]) (sl_lit (HX8.out.below (bT Bz)) rfl rfl) (OnT.fr (OnT.c 1 (RN.below h17) (sz_one zd zd zd) (OnT.c 1 (RN.below h18) (sz_one zd zd zd) (OnT.nil _ _))) (fun _=>aA 2)) zd zd false (zh (rightB_prs (OnT.c 1 (RN.below h17) (sz_one zd zd zd) (OnT.c 1 (RN.below h18) (sz_one zd zd zd) (OnT.nil _ _))) _ [(1,qof (1) 1),(1,qof (1) 1)] rfl _ (by decide +kernel))) (zt hT hB Bz)).mono ?_
 rintro e w19 ⟨rfl,q⟩;replace q:=zq (a:=V9) q;replace h1:=h1.below q;replace Bz:=bT Bz q;clear q;go_wp2_with fail
 with_reducible refine(term_q (2) (1) 1 (zh zo) (zh zo) (zt hT hB Bz)).mono ?_
 rintro e w20 ⟨s20,A20,c20,l20,s20r,A20r,c20r,l20r,rfl,h20,q⟩;replace q:=zq (a:=w19) q;replace h1:=h1.below q;replace Bz:=bT Bz q;clear q;go_wp2_with fail
 with_reducible refine(term_q (1) (1) 1 (zh zo) (zh zo) (zt hT hB Bz)).mono ?_
 rintro e w21 ⟨s21,A21,c21,l21,s21r,A21r,c21r,l21r,rfl,h21,q⟩;replace q:=zq (a:=w20) q;replace h1:=h1.below q;replace h20:=h20.below q;replace Bz:=bT Bz q;clear q;go_wp2_with fail
 obtain⟨V10,hW,x9,hN⟩:=zAc w21 #[.int .i64 2,.bool s20,.slice A20 l20 c20,.bool s20r,.slice A20r l20r c20r,.int .i64 1,.bool s21,.slice A21 l21 c21,.bool s21r,.slice A21r l21r c21r] 32;rw[←hW];clear hW;obtain⟨v9,hb9⟩:=ze w21.heap.size;rw[←hb9] at x9 ⊢;have ow_9:w.heap.size≤v9:=zi (zw hB Bz);replace h1:=h1.below hN;replace h20:=h20.below hN;replace h21:=h21.below hN;replace hB:=bT (bT hB Bz) hN;replace HX0:=zba HX0 Bz hN;replace HX1:=zba HX1 Bz hN;replace HX2:=zba HX2 Bz hN;replace HX3:=zba HX3 Bz hN;replace HX4:=zba HX4 Bz hN;replace HX5:=zba HX5 Bz hN;replace HX6:=zba HX6 Bz hN;replace HX7:=zba HX7 Bz hN;replace HX8:=zba HX8 Bz hN;have HX9:=zh x9;clear x9 hN Bz hb9;have Bz:=zr V10;with_reducible refine(right_q (m:=2) (len:=2) (n:=5) (L:=[⟨2,⟨s20,A20,c20,l20,s20r,A20r,c20r,l20r,qof (1) 1,true⟩⟩,⟨1,⟨s21,A21,c21,l21,s21r,A21r,c21r,l21r,qof (1) 1,true⟩⟩]) (sl_lit (HX9.out.below (bT Bz)) rfl rfl) (OnT.fr (OnT.c 2 (RN.below h20) (sz_one zd zd zd) (OnT.c 1 (RN.below h21) (sz_one zd zd zd) (OnT.nil _ _))) (fun _=>aA 2)) zd zd false (zh (rightB_prs (OnT.c 2 (RN.below h20) (sz_one zd zd zd) (OnT.c 1 (RN.below h21) (sz_one zd zd zd) (OnT.nil _ _))) _ [(2,qof (1) 1),(1,qof (1) 1)] rfl _ (by decide +kernel))) (zt hT hB Bz)).mono ?_
 rintro e w22 ⟨rfl,q⟩;replace q:=zq (a:=V10) q;replace h1:=h1.below q;replace Bz:=bT Bz q;clear q;go_wp2_with fail
 with_reducible refine(right_q (m:=1) (n:=0) (L:=[]) (Sl.nil _) (fun t ht=>absurd ht List.not_mem_nil) zd zd true (zh rfl) (zt hT hB Bz)).mono ?_
 rintro e w23 ⟨rfl,q⟩;replace q:=zq (a:=w22) q;replace h1:=h1.below q;replace Bz:=bT Bz q;clear q;go_wp2_with fail
 with_reducible refine(right_q (m:=1) (n:=-5) (L:=[]) (Sl.nil _) (fun t ht=>absurd ht List.not_mem_nil) zd zd true (zh rfl) (zt hT hB Bz)).mono ?_
 rintro e w24 ⟨rfl,q⟩;replace q:=zq (a:=w23) q;replace h1:=h1.below q;replace Bz:=bT Bz q;clear q;obtain⟨pd0,pd1,pd2,pd3,-⟩:=(zx HX3 Bz).cz;go_wp2_with fail
 (try simp only[vA,vBa,vC])
 refine zl (zz [2,3] (.only 0 (.only 1 (.only 4 (.only 5 (.take 6 .done)))))) [] (zsa pd0 (zsa pd1 (zsa pd2 (zIa pd3)))) ?_;iterate 2 (refine zUa ?_;try simp only[uW,uX,uY,uZ])
 refine zC 105 rfl rfl (fun K hK=>?_);go_simp
 with_reducible refine(term_q (4611686018427387904) (1) 1 (zh zo) (zh zo) (zt hT hB Bz)).mono ?_
 rintro e w25 ⟨s25,A25,c25,l25,s25r,A25r,c25r,l25r,rfl,h25,q⟩;replace q:=zq (a:=w24) q;replace h1:=h1.below q;replace Bz:=bT Bz q;clear q;clear pd0 pd1 pd2 pd3;obtain⟨pd0,pd1,pd2,pd3,-⟩:=(zx HX3 Bz).cz;refine hK.out _ _ ⟨pd0,pd1,pd2,pd3⟩ (fun _=>?_);try simp only[uW,uX,uY,uZ]
 clear hK K;refine zC 106 rfl rfl (fun K hK=>?_);go_simp
 with_reducible refine(term_q (-9223372036854775808) (2) 1 (zh zo) (zh zo) (zt hT hB Bz)).mono ?_
 rintro e w26 ⟨s26,A26,c26,l26,s26r,A26r,c26r,l26r,rfl,h26,q⟩;replace q:=zq (a:=w25) q;replace h1:=h1.below q;replace h25:=h25.below q;replace Bz:=bT Bz q;clear q;clear pd0 pd1 pd2 pd3;obtain⟨pd0,pd1,pd2,pd3,-⟩:=(zx HX3 Bz).cz;refine hK.out _ _ ⟨pd0,pd1,pd2,pd3⟩ (fun _=>?_);try simp only[uW,uX,uY,uZ]
 clear hK K;refine zC 109 rfl rfl (fun K hK=>?_);go_simp
 refine hK.out _ _ ⟨(zAb pd0),(zAb pd1),(zAb pd2),(zAb pd3)⟩ (fun _=>?_);try simp only[uW,uX,uY,uZ]
 clear hK K;refine zC 110 rfl rfl (fun K hK=>?_);go_simp
 obtain⟨V11,hW,x10,hN⟩:=zAc w26 #[.int .i64 4611686018427387904,.bool s25,.slice A25 l25 c25,.bool s25r,.slice A25r l25r c25r,.int .i64 (-9223372036854775808),.bool s26,.slice A26 l26 c26,.bool s26r,.slice A26r l26r c26r,.int .i64 0,.bool false,.slice (some ⟨v1,0,none⟩) 1 1,.bool false,.slice (some ⟨v2,0,none⟩) 1 1] 32;rw[←hW];clear hW;obtain⟨v10,hb10⟩:=ze w26.heap.size;rw[←hb10] at x10 ⊢;have ow_10:w.heap.size≤v10:=zi (zw hB Bz);replace h1:=h1.below hN;replace h25:=h25.below hN;replace h26:=h26.below hN;replace hB:=bT (bT hB Bz) hN;replace HX0:=zba HX0 Bz hN;replace HX1:=zba HX1 Bz hN;replace HX2:=zba HX2 Bz hN;replace HX3:=zba HX3 Bz hN;replace HX4:=zba HX4 Bz hN;replace HX5:=zba HX5 Bz hN;replace HX6:=zba HX6 Bz hN;replace HX7:=zba HX7 Bz hN;replace HX8:=zba HX8 Bz hN;replace HX9:=zba HX9 Bz hN;have HX10:=zh x10;clear x10 hN Bz hb10;have Bz:=zr V11;clear pd0 pd1 pd2 pd3;with_reducible refine(normO_q (gv_far [(4611686018427387904,qof (1) 1),(-9223372036854775808,qof (2) 1),(0,qof 2 4)] (HX10.out.below (bT Bz)) rfl (OnT.c 4611686018427387904 (RN.below h25) (sz_one zd zd zd) (OnT.c (-9223372036854775808) (RN.below h26) (sz_one zd zd zd) (OnT.nil _ _))) (rawF_ok (HX1.out.below (bT Bz)) (HX2.out.below (bT Bz))) rfl) zd zd (zt hT hB Bz)).mono ?_
 rintro e w27 ⟨Af,nf,c27,Lf,rfl,ho27,hon27,hp27,q⟩;replace q:=zq (a:=V11) q;replace h1:=h1.below q;replace Bz:=bT Bz q;clear q;obtain⟨rfl,gf,rfl,hnv,hcl⟩:=own_nv ho27 hon27 hp27 (k:=3) (by decide +kernel) zd;obtain⟨sd27a,Ad27a,ld27a,cd27a,sr27a,Ar27a,lr27a,cr27a,hE27a,-⟩:=hcl 0 (-9223372036854775808) (qof (2) 1) (by decide +kernel);obtain⟨sd27b,Ad27b,ld27b,cd27b,sr27b,Ar27b,lr27b,cr27b,hE27b,hq27b⟩:=hcl 1 0 (qof (1) 2) (by decide +kernel);clear ho27 hon27 hp27 hcl;obtain⟨pd0,pd1,pd2,pd3,-⟩:=(zx HX3 Bz).cz;have p310_0:=(hE27a.ato 0 0 (.int .i64 (-9223372036854775808)) rfl rfl);have p311_1:=(hE27b.ato 6 1 (.bool sd27b) rfl rfl);have p311_2:=(hE27b.ato 7 2 (.slice Ad27b ld27b cd27b) rfl rfl);have p311_3:=(hE27b.ato 8 3 (.bool sr27b) rfl rfl);have p311_4:=(hE27b.ato 9 4 (.slice Ar27b lr27b cr27b) rfl rfl);refine hK.out _ _ ⟨pd0,pd1,pd2,pd3⟩ (fun _=>?_);try simp only[uW,uX,uY,uZ]
 clear hK K;refine zUa ?_;try simp only[uW,uX,uY,uZ]
 refine zAa ?_;go_wp2_with fail
 with_reducible refine(rtext1_q (d:=1) (d2:=2) (RN.below hq27b).r (by decide +kernel) (zt hT hB Bz) (by decide +kernel) (by decide +kernel) zd zd zd zd fmt_says1 fmt_says2).mono ?_
 rintro e w28 ⟨rfl,q⟩;replace q:=zq (a:=w27) q;replace hnv:=hnv.below q;replace h1:=h1.below q;replace Bz:=bT Bz q;clear q;clear pd0 pd1 pd2 pd3 p310_0 p311_1 p311_2 p311_3 p311_4;go_wp2_with fail
 with_reducible refine(getV_q (4611686018427387904) ((NV.below hnv).gv (nrm_nrm _).rise) zd zd (zt hT hB Bz)).mono ?_
 rintro e w29 ⟨s29,A29,c29,l29,s29r,A29r,c29r,l29r,rfl,h29,q⟩;replace q:=zq (a:=w28) q;replace h1:=h1.below q;replace Bz:=bT Bz q;clear q;go_wp2_with fail
 with_reducible refine(rtext0_q (d:=1) (RN.below h29).r (by decide +kernel) (zt hT hB Bz) (by decide +kernel) (by decide +kernel) zd zd fmt_says1).mono ?_
 rintro e w30 ⟨rfl,q⟩;replace q:=zq (a:=w29) q;replace h1:=h1.below q;replace Bz:=bT Bz q;clear q;go_wp2_with fail
 with_reducible refine(putV_q (mq:=1) (gv_lit (n:=1) [⟨1,⟨s1,A1,c1,l1,s1r,A1r,c1r,l1r,qof (5) 1,true⟩⟩] [(1,qof (5) 1)] rfl (HX0.out.below (bT Bz)) rfl rfl (OnT.c 1 (RN.below h1) (sz_one zd zd zd) (OnT.nil _ _))) (1) (RN.r' (RN.zero _) (m:=1) sz_zero) zd zd (zt hT hB Bz)).mono ?_
 rintro e w31 ⟨A31,n31,c31,rfl,h31,q⟩;replace q:=zq (a:=w30) q;replace h1:=h1.below q;replace Bz:=bT Bz q;clear q;obtain rfl:n31=0:=by rw[←h31.len];decide +kernel
 clear h31;go_wp2_with fail
 with_reducible refine(of_q (1) 1 (zh zo) (zh zo) (zt hT hB Bz)).mono ?_
 rintro e w32 ⟨s32,A32,c32,l32,s32r,A32r,c32r,l32r,rfl,h32,q⟩;replace q:=zq (a:=w31) q;replace h1:=h1.below q;replace Bz:=bT Bz q;clear q;go_wp2_with fail
 with_reducible refine(putV_q (mq:=1) (gv_lit (n:=1) [⟨1,⟨s1,A1,c1,l1,s1r,A1r,c1r,l1r,qof (5) 1,true⟩⟩] [(1,qof (5) 1)] rfl (HX0.out.below (bT Bz)) rfl rfl (OnT.c 1 (RN.below h1) (sz_one zd zd zd) (OnT.nil _ _))) (0) ((R.below h32.r).mono (sz_one zd zd zd)) zd zd (zt hT hB Bz)).mono ?_
 rintro e w33 ⟨A33,n33,c33,rfl,h33,q⟩;replace q:=zq (a:=w32) q;replace h1:=h1.below q;replace Bz:=bT Bz q;clear q;obtain rfl:n33=2:=by rw[←h33.len];decide +kernel
 clear h33;go_wp2_with fail
 with_reducible refine(scaleV_q (mq:=1) (RN.r' (RN.zero _) (m:=1) sz_zero) (gv_lit (n:=1) [⟨1,⟨s1,A1,c1,l1,s1r,A1r,c1r,l1r,qof (5) 1,true⟩⟩] [(1,qof (5) 1)] rfl (HX0.out.below (bT Bz)) rfl rfl (OnT.c 1 (RN.below h1) (sz_one zd zd zd) (OnT.nil _ _))) zd zd zd (zt hT hB Bz)).mono ?_
 rintro e w34 ⟨A34,n34,c34,rfl,h34,q⟩;replace q:=zq (a:=w33) q;replace Bz:=bT Bz q;clear q;obtain rfl:n34=0:=by rw[←h34.len];decide +kernel
 clear h34;go_wp2_with fail
 with_reducible refine(term_q (3) (1) 1 (zh zo) (zh zo) (zt hT hB Bz)).mono ?_
 rintro e w35 ⟨s35,A35,c35,l35,s35r,A35r,c35r,l35r,rfl,h35,q⟩;replace q:=zq (a:=w34) q;replace Bz:=bT Bz q;clear q;go_wp2_with fail
 with_reducible refine(term_q (3) (-1) 1 (zh zo) (zh zo) (zt hT hB Bz)).mono ?_
 rintro e w36 ⟨s36,A36,c36,l36,s36r,A36r,c36r,l36r,rfl,h36,q⟩;replace q:=zq (a:=w35) q;replace h35:=h35.below q;replace Bz:=bT Bz q;clear q;go_wp2_with fail
 obtain⟨V12,hW,x11,hN⟩:=zAc w36 #[.int .i64 3,.bool s35,.slice A35 l35 c35,.bool s35r,.slice A35r l35r c35r,.int .i64 3,.bool s36,.slice A36 l36 c36,.bool s36r,.slice A36r l36r c36r] 32;rw[←hW];clear hW;obtain⟨v11,hb11⟩:=ze w36.heap.size;rw[←hb11] at x11 ⊢;have ow_11:w.heap.size≤v11:=zi (zw hB Bz);replace h35:=h35.below hN;replace h36:=h36.below hN;replace hB:=bT (bT hB Bz) hN;replace HX0:=zba HX0 Bz hN;replace HX1:=zba HX1 Bz hN;replace HX2:=zba HX2 Bz hN;replace HX3:=zba HX3 Bz hN;replace HX4:=zba HX4 Bz hN;replace HX5:=zba HX5 Bz hN;replace HX6:=zba HX6 Bz hN;replace HX7:=zba HX7 Bz hN;replace HX8:=zba HX8 Bz hN;replace HX9:=zba HX9 Bz hN;replace HX10:=zba HX10 Bz hN;have HX11:=zh x11;clear x11 hN Bz hb11;have Bz:=zr V12;with_reducible refine(sameV_q (P:=[(3,qof (1) 1),(3,qof (-1) 1)]) (Q:=[]) (gv_lit (n:=2) [⟨3,⟨s35,A35,c35,l35,s35r,A35r,c35r,l35r,qof (1) 1,true⟩⟩,⟨3,⟨s36,A36,c36,l36,s36r,A36r,c36r,l36r,qof (-1) 1,true⟩⟩] [(3,qof (1) 1),(3,qof (-1) 1)] rfl (HX11.out.below (bT Bz)) rfl rfl (OnT.c 3 (RN.below h35) (sz_one zd zd zd) (OnT.c 3 (RN.below h36) (sz_one zd zd zd) (OnT.nil _ _)))) (gv_nil5 _ 1) zd zd zd zd (zt hT hB Bz) true (zh (by decide +kernel))).mono ?_
 rintro e w37 ⟨rfl,q⟩;replace q:=zq (a:=V12) q;replace Bz:=bT Bz q;clear q;go_wp2_with fail
 with_reducible refine(awake5_q (zt hT hB Bz)).mono ?_
 rintro e w38 ⟨rfl,q⟩;replace q:=zq (a:=w37) q;replace Bz:=bT Bz q;clear q;go_wp2_with fail
 go_ret
 have hF:=bT (c:=w38) hB Bz;exact⟨rfl,bT hF⟩
theorem sparseNumbers_any {w:World} (hT:Tab w):Calls Tryz.prog 4 #[] w (Yes w):=sparseNumbers_q (zh hT)
namespace sparseNumbers
open Go.ChangeShapes Go.WideShapes Go.ChangeAt
theorem contract (H:Type) (enc:TypeId×Value→H) (W:World) (base:Nat) (args:Array Value) (ds gs:List (DataW H)) (before:List MemPlace)
  (hval:∀(j:Nat) t v,Tryz.f4.params[j]?=some t→args[j]?=some v→Value.okWide Tryz.prog W .any base t v)
  (hW:DataW.Whole enc Tryz.prog Tryz.f4.params.toList Rows.sparseNumbersSpec.vars false W args.toList ds gs before) (hL:laidMetH Tryz.prog Rows.sparseNumbersRow.laid W) :
  Calls Tryz.prog 4 args W fun e W'=>∃v,e=.returned v∧Rows.sparseNumbersSpec.post enc Tryz.prog Tryz.f4 false true false false W args v W':=by
 have hW':=hW;obtain⟨p,q,hA0,hV,rfl,hfz,hnd⟩:=hW;have hA:DataW.TrodAll enc Tryz.prog W 0 (fun _=>true) true Tryz.f4.params.toList args.toList ds p:=hA0;rw[Tryz.params4] at hA hval;obtain⟨hargs,rfl,rfl⟩:=trodAll_nil hA;obtain rfl:args=#[]:=by cases args;simp_all
 obtain⟨rfl,rfl⟩:=trodVars_none hV;refine(sparseNumbers_any  (tab_of3 hL)).mono fun e W' ⟨he,bel⟩=>?_;subst he;exact⟨_,rfl,_,_,_,[],_,[],hW',trodAll_mk1 (shut_bool Tryz.underlying4 _),trodAll_mk0,rfl,bel.frame _,fun h=>by cases h⟩
theorem laid_met (os:Os):laidMet Tryz.prog Rows.sparseNumbersRow.laid ((laidWorld3 os).forCall (fun _ _=>0) ⟨#[],#[],[]⟩).memory :=
 laidMet_of_run' 8 (by kernel_rfl) (by kernel_rfl)
theorem reads (os:Os) {H:Type} (enc:TypeId×Value→H):∃places,DataW.whole enc Tryz.prog ((laidWorld3 os).forCall (fun _ _=>0) ⟨#[],#[],[]⟩).memory Tryz.f4.params.toList Rows.sparseNumbersSpec.vars false (#[]:Array Value).toList 8=some ([],[],places) :=
 ⟨[],by kernel_rfl⟩
theorem lifted (os:Os) (started:os.Started) (H:Type) (enc:TypeId×Value→H) (F:Stop.Interp) :
  ReturnsInHanded {} Tryz.checked os 4 .any ((OpenSpec.ofChange Rows.sparseNumbersSpec).preRow enc Tryz.prog Tryz.f4 Rows.sparseNumbersRow.domain false Rows.sparseNumbersRow.laid) (((OpenSpec.ofChange Rows.sparseNumbersSpec).at F).post enc Tryz.prog Tryz.f4 false true false false):=by
 obtain⟨places,hx⟩:=reads os enc;refine returnsInHanded_of_row (C:=Tryz.checked) (s:=OpenSpec.ofChange Rows.sparseNumbersSpec) own started (by kernel_rfl) Tryz.func4
  (witness_row_at (enc:=enc) (C:=Tryz.checked) false (laidWorld3 os) #[] rfl (by kernel_rfl) (by kernel_rfl) (by kernel_rfl)
   (OpenSpec.preRow_of_cond 8 hx (by kernel_rfl) (fun k hk=>by cases hk) (by kernel_rfl) (laid_met os))) ?_
 intro W base args ds gs before hval hW _ _ _ hL _ _;exact contract H enc W base args ds gs before hval hW hL
theorem said:Rows.SparseNumbersSaid :=
 OpenClaim.holds_of_cond 4 Tryz.f4 rfl rfl rfl rfl rfl rfl rfl ⟨rfl,rfl,rfl,rfl,rfl⟩ rfl rfl rfl rfl rfl (by kernel_rfl) Tryz.func4 (by kernel_rfl)
  (of_decide_eq_true (by kernel_rfl)) (by unfold Func.isWrapper;first | (rw[yA (by decide +kernel)];kernel_rfl) | (rw[tA (by decide +kernel)];exact⟨rfl,rfl⟩))
  (fun os started H enc _ F=>by rw[OpenClaim.pre_eq_preRow];exact lifted os started H enc F)
theorem plain (f : FuncId) (fn : Func) (hf : Tryz.pinned.checked.prog.funcNamed "tripwire/tripwirelaw05.SparseNumbers" = some f) (hfn : Tryz.pinned.checked.prog.funcs[f]? = some fn) :
  false=Tryz.pinned.checked.prog.looks []∧∀(j:Nat) t,fn.params[j]?=some t→Tryz.pinned.checked.prog.wantsStandIn t=false:=by
 obtain rfl : f = 4 := Option.some.inj ((show Tryz.prog.funcNamed "tripwire/tripwirelaw05.SparseNumbers" = some 4 by kernel_rfl).symm.trans hf) |>.symm;obtain rfl:fn=Tryz.f4:=(Option.some.inj (Tryz.func4.symm.trans hfn)).symm;refine⟨by kernel_rfl,fun j t ht=>?_⟩;rw[Tryz.params4] at ht;simp at ht
theorem card:Rows.SparseNumbersCardSaid :=
 Claim7.holds_tied_plain_at .later [] _ _ _ _ said (fun _ h=>by cases h) (by kernel_rfl) (fun _ h=>by cases h) sparseNumbers_row_tie rfl ⟨rfl,rfl⟩ (by kernel_rfl) rfl plain (by kernel_rfl)
end sparseNumbers
end Go.Proofs.YteggjbgbknkoiaaGreatDoor
