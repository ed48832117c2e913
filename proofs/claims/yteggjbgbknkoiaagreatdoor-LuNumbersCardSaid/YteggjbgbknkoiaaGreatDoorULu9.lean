import Derived.Test.YteggjbgbknkoiaaGreatDoorULu8
set_option maxHeartbeats 16000000
set_option maxRecDepth 100000
namespace Go.Proofs.YteggjbgbknkoiaaGreatDoor
open Go.RowKit Tw
def BT1 (w:World) (fb n sc hc yg:Nat) (SA H:Option Addr) (f:Int→Rat) (ST:List StepF) (KD:Nat→Nat) (KZ gk:Nat) (x:Value) (wr:World):Prop :=
 ∃(i:Nat) (D YL:List Fr),i≤n∧n-i=gk∧x=.int .i64 (i:Int)∧OwnR wr w.heap.size 30 4 (.slice SA n sc) n (flat Fr.cs D)∧AllRn wr (KD i) D∧OwnR wr w.heap.size 30 4 (.slice (some ⟨yg,0,none⟩) n n) n (flat Fr.cs YL)∧AllRn wr KZ YL∧
  (∀a:Int,0≤a→a<(n:Int)→numF (qs D) a=(btFold (ST.take i) f fun _=>0).1 a)∧(∀a:Int,0≤a→a<(n:Int)→numF (qs YL) a=(btFold (ST.take i) f fun _=>0).2 a)∧Bx wr fb #[.bool true,.int .i64 (n:Int),.slice H n hc] 68∧Below w.heap.size w wr
def BT2 (w:World) (fb n sc hc yg KZ:Nat) (SA H:Option Addr) (D:List Fr) (z:Int→Rat) (ST:List StepF) (gk:Nat) (x:Value) (wr:World):Prop :=
 ∃(i:Nat) (YL:List Fr),i≤n∧n-i=gk∧x=.int .i64 (i:Int)∧OwnR wr w.heap.size 30 4 (.slice SA n sc) n (flat Fr.cs D)∧OwnR wr w.heap.size 30 4 (.slice (some ⟨yg,0,none⟩) n n) n (flat Fr.cs YL)∧AllRn wr KZ YL∧(∀a:Int,0≤a→a<(n:Int)→numF (qs YL) a=btDn (ST.drop (n-i)) z a)∧
  Bx wr fb #[.bool true,.int .i64 (n:Int),.slice H n hc] 68∧Below w.heap.size w wr
def btranF (ST:List StepF) (f:Int→Rat):Int→Rat:=btDn ST (btUp ST f fun _=>0)
def BtranP (n:Nat) (ST:List StepF) (P:List (Int×Rat)):List (Int×Rat):=nrm (idxP ((List.range n).map fun(i:Nat)=>btranF ST (pget P) (i:Int)))
theorem btDn_later {L:List StepF} (ha:L.Pairwise ApartSt) {j k:Nat} (hjk:j≤k) {st:StepF} (h:L[k]?=some st) (z:Int→Rat):btDn L z st.row=btDn (L.drop j) z st.row:=by
 have h2:st∈L.drop j:=dA (i:=k-j) (by rw[List.getElem?_drop,show j+(k-j)=k by omega];exact h);have h3:=ha;rw[←xC j L] at h3;have h4:btDn L z st.row=btDn (L.take j++L.drop j) z st.row:=by rw[xC]
 rw[h4];exact btDn_pre z _ _ fun a hm=>((aF.1 h3).2.2 a hm st h2).row
theorem AllRn.tight {w:World} {K K':Nat} {L:List Fr} (h:AllRn w K L) (hs:∀(i:Nat) (x:Fr),L[i]?=some x→sz x.q+1≤K'):AllRn w K' L:=fun x hx=>by
 obtain⟨i,hi⟩:=bD hx;exact⟨(h x hx).1,(h x hx).2.1,hs i x hi⟩
theorem btran_no {w:World} {fb n bn bc S:Nat} {K:Nat→Nat} {ST:List StepF} {X:Option Addr} {P:List (Int×Rat)} (h:LuM w fb n ST K) (hb:GV w X bn bc P S) (hS:S≤18000000000) (hS2:2≤S) (hbn:bn≤12) (hn:n≤12) (hfit:fitsB n (nrm P)=false) (hT:Hid (Tab w)) :
  Calls Tryz.prog 9 #[.pointer (some ⟨fb,0,none⟩),.slice X bn bc] w fun e w'=>e=.returned (.tuple #[.slice none 0 0,.int .i64 2])∧Below w.heap.size w w':=by
 obtain⟨H,hc,LS,hbx,hsl,hst,hls⟩:=h;have hdq:=ldense_q hbx hb hS hS2 hbn hn hT;have pa0:=hbx.cell 0 (.bool true) rfl;clear hsl hst hls;go_enter Tryz.func9,Tryz.ntmps9
 go_wp2_with fail
 with_reducible refine hdq.mono ?_
 rintro e w1 ⟨b1,⟨hf,rfl⟩ | ⟨hf,_⟩⟩
 ·clear hf;go_wp2_with fail
  go_ret2
  exact⟨rfl,b1⟩
 ·rw[hfit] at hf;cases hf
theorem btran_q {w:World} {fb n bn bc S KZ KF:Nat} {K:Nat→Nat} {ST:List StepF} {X:Option Addr} {P:List (Int×Rat)} (h:LuM w fb n ST K) (hg:Hid (∀st∈ST,GoodSt n st)) (ha:Hid (ST.Pairwise ApartSt)) (hrw:Hid (∀j,j<n→∃st∈ST,st.row=(j:Int))) (hb:GV w X bn bc P S) (hS:S≤18000000000) (hS2:2≤S) (hbn:bn≤12) (hn:n≤12) (hfit:Hid (fitsB n (nrm P)=true))
  (KD:Nat→Nat) (hK0:S≤KD 0) (hKD:Hid (∀i,i<n→2*KD i+2*K i≤KD (i+1)∧2*KD i+2*K i≤20000000000∧KD i+K i≤KZ∧KZ+n*(K i+KF)≤35000000000∧K i≤4000000000)) (hKF:Hid (∀a,0≤a→a<(n:Int)→sz (btranF ST (pget P) a)+1≤KF)) (hKZ:KF≤KZ) (hKZ2:KZ≤14000000000) (hKF1:2≤KF) (hT:Hid (Tab w)) :
  Calls Tryz.prog 9 #[.pointer (some ⟨fb,0,none⟩),.slice X bn bc] w (TellsLX w (BtranP n ST P) (KF+2)):=by
 obtain⟨H,hc,LS,hbx,hsl,hst,hls⟩:=h;have hdq:=ldense_q hbx hb hS hS2 hbn hn hT;have pa0:=hbx.cell 0 (.bool true) rfl;have HFB0:=zh hbx;have HSL:=zh hsl;have HLL:=zh hsl.1;have HST:=zh hst;have HLS:=zh hls;have HTL:Hid (ST.length=n):=zh (by rw[←hls,cB];exact hsl.1);obtain⟨f,hf0⟩:∃f,f=pget P:=⟨_,rfl⟩;have HF0:=zh hf0;clear hbx hsl hst hls hf0;go_enter Tryz.func9,Tryz.ntmps9
 go_wp2_with fail
 with_reducible refine hdq.mono ?_
 rintro e w1 ⟨b1,⟨hf,rfl⟩ | ⟨hf,SA,sc,D,rfl,ho1,hal,hqs⟩⟩
 ·rw[hfit.out] at hf;cases hf
 ·have HO1:=zh ho1;have HAL:=zh hal;have HQS:=zh hqs;have HF1:=zh (HFB0.out.below b1);have hB:=b1;clear hf ho1 hal hqs b1 pa0 hdq;have p90_1:=HF1.out.cell 1 (.int .i64 (n:Int)) rfl;go_wp2_with (at_make;refine And.left (b:=True) ?_)
  refine⟨?_,trivial⟩;refine Elt.makeN elt_frs zFr (fun i z h1 h2=>fr_zero h1 h2) rfl _ _ rfl .i64 .i64 n rfl rfl zo w1.heap.size (cA _) ?_;intro yg w2 ho2 b2;have hxb:=ho2.base yg rfl;have HY2:=zh (ho2.rebase (B':=w.heap.size) hB.size);have HAP:Hid (Ap (.slice SA n sc) (.slice (some ⟨yg,0,none⟩) n n)):=zh (.inr fun e=>by have h8:=HO1.out.lt yg (e.trans rfl);omega);have HO2:=zh (HO1.out.below b2);have HAL2:=zh (HAL.out.below b2);have HF2:=zh (HF1.out.below b2);have HB2:=zh (bT hB b2);clear ho2 b2 p90_1 HO1 HAL HF1 hB hxb;have p90_2:=HF2.out.cell 2 (.slice H n hc) rfl;go_wp2_with fail
  go_loopg [40] n (fun gk x wr=>BT1 w fb n sc hc yg SA H f ST KD KZ gk x wr)
  case atStart=>exact⟨0,D,List.replicate n zFr,nA _,rfl,rfl,HO2.out.below (by go_grown),(HAL2.out.below (by go_grown)).mono hK0,HY2.out.below (by go_grown),AllRn.zeros _ _ zo,(fun a h8 h9=>by rw[cF,HF0.out];exact denseF_num HQS.out a h8 h9),(fun a _ _=>numF_zeros n a),HF2.out.below (by go_grown),bT HB2.out⟩
  case round =>
   clear HO2 HAL2 HQS HB2 HF2 p90_2 HY2;obtain⟨i,D,YL,hi,hgk,rfl,hown,hal,hy,hya,hfw,hyw,hfb,hB⟩:=hrel;have HGK:=zh hgk;have HFW0:=zh hfw;have HYW0:=zh hyw;have HFB:=zh hfb;have HYL:=zh (hy.eltn elt_frs zo);clear hgk hfw hfb hyw;by_cases hlt:i<n
   ·obtain⟨hb,ho,rfl,hel⟩:=HSL.out.at StM.cs_len zo zo;obtain⟨s,hs⟩:∃s,LS[i]?=some s:=⟨LS[i]'(by rw[HLL.out];exact hlt),aA _⟩;have hnd:=hel i s hs;have hsT:ST[i]?=some s.f:=by rw[←HLS.out,rA,hs];rfl
    have hgs:=hg.out _ (dA hsT);have hsr:=HST.out i s hs;obtain⟨_,_,e9,h9,h10,_⟩:=hown.slice;cases e9;cases SA with
    | none=>have:=(h9 rfl).1;omega
    | some sa =>
     obtain⟨g,rfl⟩:=h10 sa rfl;have hDl:=hown.eltn elt_frs zo;have hrow:0≤s.row∧s.row<(n:Int):=hgs.row;have hcol:0≤s.col∧s.col<(n:Int):=hgs.col;obtain⟨v,hv⟩:∃y,D[s.col.toNat]?=some y:=⟨D[s.col.toNat]'(by rw[hDl];omega),aA _⟩;have HV:=zh hv;obtain⟨u,hu⟩:∃y,YL[s.row.toNat]?=some y:=⟨YL[s.row.toNat]'(by rw[HYL.out];omega),aA _⟩;have HU:=zh hu;have hvo:=hal v (dA hv);have hrv:=hvo.1;have hsv:sz v.q+1≤KD i:=hvo.2.2;have hpv:=hsr.pv.1.below hB;have hsp:sz s.pv.q+1≤K i:=hsr.pv.2.2;have hcn:=hsr.r;have hgb:=hown.base g rfl;have HVG:Hid (∀a,s.R.A=some a→a.block≠g):=zh (fun a e=>by have:=hsr.ra a e;omega);have HNG:Hid ((Value.slice (some ⟨yg,0,none⟩) n n).ownBlock≠some g):=zh (HAP.out.symm.block rfl ∘ fun e=>by cases e;rfl);have HRI:Hid (Rise (prs s.R.L)):=zh hgs.rest.rise;have HIN:Hid (∀t∈prs s.R.L,0≤t.1∧t.1<(n:Int)):=zh hgs.restIn;have hrn:s.R.n≤12:=by
      have h1:=rise_len hgs.rest.rise hgs.restIn;have h2:(prs s.R.L).length=s.R.n:=by rw[prs_len];exact hcn.1.1
      have h3:s.f.rest=prs s.R.L:=rfl;rw[h3,h2] at h1;omega
     obtain⟨hk1,hk2,hk3,_,hk4⟩:=hKD.out i hlt;have hsq:sz (v.q / s.pv.q)≤(KD i-1)+(K i-1):=sz_quo zo zo;have HSQ:Hid (sz (v.q / s.pv.q)+1≤KD i+K i):=zh zo;have HSZ:Hid (sz (v.q / s.pv.q)+1≤KZ):=zh zo;have HKD:KD i+K i+(KD i+K i)≤KD (i+1):=zo;have hvq:v.q / s.pv.q=(btFold (ST.take i) f fun _=>0).1 s.col / s.pv.q:=by rw[←HFW0.out _ hcol.1 hcol.2,numF_at hcol.1 hv]
     have HFW:Hid (∀a:Int,0≤a→a<(n:Int)→spr (numF (qs D)) (prs s.R.L) (v.q / s.pv.q) a=(btFold (ST.take (i+1)) f fun _=>0).1 a):=zh (fun a h8 h9=>by
      rw[btFold_take hsT,hvq];unfold spr
      rw[HFW0.out a h8 h9];rfl)
     have HYW:Hid (∀r:Fr,r.q=v.q / s.pv.q→∀a:Int,0≤a→a<(n:Int)→numF (qs (YL.set s.row.toNat r)) a=(btFold (ST.take (i+1)) f fun _=>0).2 a):=zh (fun r hr a h8 h9=>by
      rw[numF_set hrow.1 (by rw[HYL.out];omega) h8,btFold_take hsT,hr,hvq,HYW0.out a h8 h9];rfl)
     have i1:(i:Int)<(n:Int):=zo;have i2:(0:Int)≤(i:Int):=zo;have j2:0≤s.row:=hrow.1;have j3:s.row<(n:Int):=hrow.2;have j5:0≤s.col:=hcol.1;have j6:s.col<(n:Int):=hcol.2;clear hel hs hsT hgs hsr hv hu hvo hDl h9 h10 hrow hcol hvq;have Bz:=zr wr;obtain⟨pA0,pA1,pA2,pA3,pA4,pA5,pA6,pA7,-⟩:=(hnd.below (bT hB Bz)).ez;go_upto_region 10 with(fail)
     obtain⟨V11,hW,x0,hN⟩:=zAe wr #[.int .i64 s.row,.int .i64 s.col,.bool s.pv.s,.slice s.pv.A s.pv.l s.pv.c,.bool s.pv.s',.slice s.pv.A' s.pv.l' s.pv.c',.slice s.R.A s.R.n s.R.c,.slice s.T.A s.T.n s.T.c] 74;rw[←hW];clear hW;obtain⟨v0,hb0⟩:=ze wr.heap.size;rw[←hb0] at x0 ⊢;have ow_0:w.heap.size≤v0:=zi (zw hB Bz);have nv0_y:=OwnR.off' (b:=v0) hy zo;have nv0_own:=OwnR.off' (b:=v0) hown zo;replace hal:=hal.below hN;replace hown:=hown.below hN;replace hpv:=hpv.below hN;replace hrv:=hrv.below hN;replace hy:=hy.below hN;replace hya:=hya.below hN;replace hB:=bT (bT hB Bz) hN;replace HFB:=zh ((HFB.out.below Bz).below hN);have HX0:=zh x0;clear x0 hN Bz hb0;have Bz:=zr V11;clear pA0 pA1 pA2 pA3 pA4 pA5 pA6 pA7;obtain⟨pa0,pa1,pa2,pa3,pa4,pa5,-⟩:=(zxb HX0 Bz).cz;have pB0:=fr_0 hown HV.out;have pB1:=elt_frs.cell hown HV.out (j:=1) (u:=.slice v.A v.l v.c) zo rfl;have pB2:=elt_frs.cell hown HV.out (j:=2) (u:=.bool v.s') zo rfl;have pB3:=elt_frs.cell hown HV.out (j:=3) (u:=.slice v.A' v.l' v.c') zo rfl;have pC0:=fr_0 hy HU.out;have pC1:=elt_frs.cell hy HU.out (j:=1) (u:=.slice u.A u.l u.c) zo rfl;have pC2:=elt_frs.cell hy HU.out (j:=2) (u:=.bool u.s') zo rfl;have pC3:=elt_frs.cell hy HU.out (j:=3) (u:=.slice u.A' u.l' u.c') zo rfl;have fC0:=hy.frozen (s.row.toNat*4);have fC1:=hy.frozen (s.row.toNat*4+1);have fC2:=hy.frozen (s.row.toNat*4+2);have fC3:=hy.frozen (s.row.toNat*4+3);have y52:=hy.blk.1;go_wp2_with fail
     (try simp only[vAa,vBa,vC])
     refine zl (.pure 0 (.pure 1 (.take 2 (.pure 3 (.pure 4 (.take 5 (.pure 6 (.take 7 (.pure 8 (.take 9 (.only 10 (.pure 11 (.only 12 .done))))))))))))) [12] (zsa pa0 (zsa pa1 (zsa pa2 (zsa pa3 (zsa pa4 (zsa pa5 (zsa pB0 (zsa pB1 (zsa pB2 (zIa pB3)))))))))) ?_;iterate 10 ((first|refine zV ?_|refine zUa ?_);try simp only[uW,uX,uY,uZ])
     refine zC 54 rfl rfl (fun K hK=>?_);go_simp
     with_reducible refine(quo_q (R.below hrv.r) (R.below hpv.r) zo (zt hT hB Bz)).mono ?_
     rintro e w11 ⟨s11,A11,c11,l11,s11r,A11r,c11r,l11r,rfl,h11,J⟩;replace J:=zq (a:=V11) J;replace hal:=hal.below J;replace hown:=hown.below J;replace hy:=hy.below J;replace hya:=hya.below J;replace Bz:=bT Bz J;clear J;clear pa0 pa1 pa2 pa3 pa4 pa5 pB0 pB1 pB2 pB3 pC0 pC1 pC2 pC3 fC0 fC1 fC2 fC3 y52;obtain⟨pa0,pa1,pa2,pa3,pa4,pa5,-⟩:=(zxb HX0 Bz).cz;have pB0:=fr_0 hown HV.out;have pB1:=elt_frs.cell hown HV.out (j:=1) (u:=.slice v.A v.l v.c) zo rfl;have pB2:=elt_frs.cell hown HV.out (j:=2) (u:=.bool v.s') zo rfl;have pB3:=elt_frs.cell hown HV.out (j:=3) (u:=.slice v.A' v.l' v.c') zo rfl;have pC0:=fr_0 hy HU.out;have pC1:=elt_frs.cell hy HU.out (j:=1) (u:=.slice u.A u.l u.c) zo rfl;have pC2:=elt_frs.cell hy HU.out (j:=2) (u:=.bool u.s') zo rfl;have pC3:=elt_frs.cell hy HU.out (j:=3) (u:=.slice u.A' u.l' u.c') zo rfl;have fC0:=hy.frozen (s.row.toNat*4);have fC1:=hy.frozen (s.row.toNat*4+1);have fC2:=hy.frozen (s.row.toNat*4+2);have fC3:=hy.frozen (s.row.toNat*4+3);have y52:=hy.blk.1;refine hK.out _ _ ⟨pa0,pa1,pa2,pa3,pa4,pa5,pB0,pB1,pB2,pB3⟩ (fun _=>?_);try simp only[uW,uX,uY,uZ]
     clear hK K;refine zV ?_;try simp only[uW,uX,uY,uZ]
     refine zAc (o:=⟨none,_,_,_,_,_⟩) rfl rfl zd (fun K hK=>?_);go_simp
     refine hK.out _ _ ?_;try simp only[Act.put,uX,uY,uZ]
     clear hK K;obtain⟨V12,hV,hy2,hg2⟩:=fr_store hy HU.out ⟨s11,A11,c11,l11,s11r,A11r,c11r,l11r,v.q / s.pv.q,true⟩;rw[←hV];clear hV;have hbg:=(OwnR.base hy yg rfl);replace hB:=(bT hB Bz).trans (hg2.below (zi (zw hB Bz)) (rowB hbg));replace hown:=OwnR.grown hown hg2 HAP.out;replace HFB:=zh (HFB0.out.below hB);replace HX0:=zh (hg2.bx (zxb HX0 Bz) nv0_y);have hya2:=AllRn.set (AllRn.k hya hg2.k) s.row.toNat (x:=⟨s11,A11,c11,l11,s11r,A11r,c11r,l11r,v.q / s.pv.q,true⟩) (AllRn.put (RN.k (RN.below h11) hg2.k) HSZ.out);have HU2:Hid ((YL.set s.row.toNat (⟨s11,A11,c11,l11,s11r,A11r,c11r,l11r,v.q / s.pv.q,true⟩:Fr))[s.row.toNat]?=some ⟨s11,A11,c11,l11,s11r,A11r,c11r,l11r,v.q / s.pv.q,true⟩):=zh (pD (by rw[HYL.out];omega));replace hal:=hal.k hg2.k;replace h11:=h11.k hg2.k;replace hy:=hy2;replace hya:=hya2;clear hy2 hya2 hg2 Bz hbg;have Bz:=zr V12;clear pa0 pa1 pa2 pa3 pa4 pa5 pB0 pB1 pB2 pB3 pC0 pC1 pC2 pC3 fC0 fC1 fC2 fC3 y52;obtain⟨pa0,pa1,pa2,pa3,pa4,pa5,pa6,-⟩:=(zxb HX0 Bz).cz;have pD0:=fr_0 hy HU2.out;have pD1:=elt_frs.cell hy HU2.out (j:=1) (u:=.slice A11 l11 c11) zo rfl;have pD2:=elt_frs.cell hy HU2.out (j:=2) (u:=.bool s11r) zo rfl;have pD3:=elt_frs.cell hy HU2.out (j:=3) (u:=.slice A11r l11r c11r) zo rfl;refine zAa ?_;go_wp2_with fail
     (try simp only[vAa,vBa,vC])
     refine zl (.pure 0 (.pure 1 (.take 2 (.pure 3 (.pure 4 (.take 5 (.pure 6 (.take 7 (.only 8 .done))))))))) [8] (zsa pa0 (zsa pa6 (zsa pD0 (zsa pD1 (zsa pD2 (zIa pD3)))))) ?_;iterate 8 ((first|refine zV ?_|refine zUa ?_);try simp only[uW,uX,uY,uZ])
     refine zAc (o:=⟨some 64,_,_,_,_,_⟩) rfl rfl zd (fun K hK=>?_);go_simp
     have hD0:V12.drew.heap.size=V12.heap.size:=rfl;with_reducible refine(spread_q (w0:=w) (bT hB (bT Bz)) (RN.below h11) HSQ.out ⟨rfl,rfl,rfl⟩ (CN.below hcn (bT hB (bT Bz))) HVG.out (OwnR.below hown) (AllRn.below hal) HRI HIN zo zo zo hT).mono ?_
     rintro e w12 ⟨rfl,D2,ho2,hl2,hal2,hsp,hkp,b12⟩;have HSP:=zh hsp;have hbg2:=OwnR.base hown g rfl;replace hy:=hkp.own (OwnR.below hy) (fun b e e2=>HNG.out (by rw[←e2];exact e));replace HFB:=zh (HFB0.out.below b12);clear HX0;replace hya:=AllRn.k (AllRn.below hya) hkp.k;replace hB:=b12;replace hown:=ho2;replace hal:=hal2;clear hD0 ho2 hal2 hsp hkp b12 hbg2 Bz;have Bz:=zr w12;clear pa0 pa1 pa2 pa3 pa4 pa5 pa6 pD0 pD1 pD2 pD3;refine hK.out _ _ ?_;try simp only[uW,uX,uY,uZ]
     clear hK K;refine zAa ?_;go_wp2_with fail
     go_roundg (n-(i+1))
     case measure=>have:=HGK.out;omega
     case rel=>exact⟨i+1,D2,_,zo,rfl,by go_num,OwnR.below hown,AllRn.mono (AllRn.below hal) HKD,OwnR.below hy,AllRn.below hya,(fun a h8 h9=>(HSP.out a h8 h9).trans (HFW.out a h8 h9)),HYW.out _ rfl,HFB.out.below (by go_grown),bT (bT hB Bz)⟩
   ·obtain rfl:n=i:=zo;have i1:¬(n:Int)<(n:Int):=zo;obtain⟨z,hz⟩:∃z,z=btUp ST f fun _=>0:=⟨_,rfl⟩;have HZ:=zh hz;have HZ2:Hid (∀a:Int,0≤a→a<(n:Int)→numF (qs YL) a=z a):=zh (fun a h8 h9=>by have h7:=HYW0.out a h8 h9;rw[eA (by rw[HTL.out];exact cA _),btFold_up] at h7;rw[hz];exact h7);have HOWN:=zh hown;have HYO:=zh hy;have HYA:=zh hya;have hsl2:=hown.slice;have HB3:=zh hB;clear HFW0 HYW0 hal HGK hlt hi hown hy hya hz hB HYL;have p90_1:=HFB.out.cell 1 (.int .i64 (n:Int)) rfl;go_wp2_with fail
    go_loopg [70] n (fun gk x wr=>BT2 w fb n sc hc yg KZ SA H D z ST gk x wr)
    case atStart=>exact⟨0,YL,nA _,rfl,rfl,HOWN.out.below (by go_grown),HYO.out.below (by go_grown),HYA.out.below (by go_grown),(fun a h8 h9=>by rw[Nat.sub_zero,List.drop_of_length_le (by rw[HTL.out];exact cA _)];exact HZ2.out a h8 h9),HFB.out.below (by go_grown),bT HB3.out⟩
    case round =>
     clear HOWN HYO HYA HFB HB3 p90_1 i1 HZ2;obtain⟨i,YL,hi,hgk,rfl,hown,hy,hya,hbk,hfb,hB⟩:=hrel;have HGK:=zh hgk;have HBK0:=zh hbk;have HFB:=zh hfb;have HYL:=zh (hy.eltn elt_frs zo);clear hgk hbk hfb;by_cases hlt:i<n
     ·obtain⟨n1,hn1a,hn1b⟩:∃k:Nat,k+1≤n∧n≤k+1:=⟨n-1,zo,zo⟩;obtain⟨j,hj1,hj2⟩:∃j:Nat,j+i≤n1∧n1≤j+i:=⟨n1-i,zo,zo⟩;have w1:IntKind.i64.wrap ((n:Int)-1)=(n1:Int):=by rw[IntWalk.i64_in _ zo];omega
      have w2:IntKind.i64.wrap ((n1:Int)-(i:Int))=(j:Int):=by rw[IntWalk.i64_in _ zo];omega
      have hjn:j<n:=zo;obtain⟨hb,ho,rfl,hel⟩:=HSL.out.at StM.cs_len zo zo;obtain⟨s,hs⟩:∃s,LS[j]?=some s:=⟨LS[j]'(by rw[HLL.out];exact hjn),aA _⟩;have hnd:=hel j s hs;have hsT:ST[j]?=some s.f:=by rw[←HLS.out,rA,hs];rfl
      have hgs:=hg.out _ (dA hsT);have hsr:=HST.out j s hs;obtain⟨_,_,e9,h9,h10,_⟩:=hown.slice;cases e9;cases SA with
      | none=>have:=(h9 rfl).1;omega
      | some sa =>
       obtain⟨g,rfl⟩:=h10 sa rfl;have hrow:0≤s.row∧s.row<(n:Int):=hgs.row;obtain⟨u,hu⟩:∃u,YL[s.row.toNat]?=some u:=⟨YL[s.row.toNat]'(by rw[HYL.out];omega),aA _⟩;have HU:=zh hu;have huo:=hya u (dA hu);have hru:=huo.1;have hsu:sz u.q+1≤KZ:=huo.2.2;have hcn:=hsr.t;have HIN:Hid (∀t∈prs s.T.L,0≤t.1∧t.1<(n:Int)):=zh hgs.takenIn;have htn:s.T.n≤n:=by
        have h1:=rise_len hgs.taken.rise hgs.takenIn;have h2:(prs s.T.L).length=s.T.n:=by rw[prs_len];exact hcn.1.1
        have h3:s.f.taken=prs s.T.L:=rfl;rw[h3,h2] at h1;omega
       have hnij:n-i=j+1:=zo;have hnij2:n-(i+1)=j:=zo;have hfin:∀(k:Nat) (st:StepF),j≤k→ST[k]?=some st→sz (btDn (ST.drop j) z st.row)+1≤KF:=fun k st h7 h8=>by
        rw[←btDn_later ha.out h7 h8,HZ.out,HF0.out];have h6:=(hg.out _ (dA h8)).row;exact hKF.out _ h6.1 h6.2
       have HBX:Hid (∀t∈prs s.T.L,∀y,YL[t.1.toNat]?=some y→sz y.q+1≤KF):=zh (fun t ht y h8=>by
        have h7:=HIN.out t ht;obtain⟨st,hst,hsr2⟩:=hrw.out t.1.toNat zo;have hsr3:st.row=t.1:=zo;obtain⟨k,hk⟩:=bD hst;have hne:pget s.f.taken st.row≠0:=by rw[hsr3];exact hgs.taken.get_ne ht
        have hkj:j<k:=by
         rcases kB j k with h6 | h6
         ·exact h6
         ·exfalso
          by_cases e:k=j
          ·subst e;rw[hk] at hsT;obtain rfl:=Option.some.inj hsT;exact hne hgs.takenRow
          ·have h5:=bG.1 ha.out k j (yA.1 hk).1 (yA.1 hsT).1 zo;rw[(yA.1 hk).2,(yA.1 hsT).2] at h5;exact hne h5.taken
        have h4:=HBK0.out t.1 h7.1 h7.2;rw[numF_at h7.1 h8,hnij] at h4;have h3:btDn (ST.drop (j+1)) z st.row=btDn ST z st.row:=(btDn_later ha.out (show j+1≤k by omega) hk z).symm;rw[h4,←hsr3,h3,HZ.out,HF0.out];have h6:=(hg.out _ hst).row;exact hKF.out _ h6.1 h6.2)
       obtain⟨_,_,_,hk3,hk4⟩:=hKD.out j hjn;have hmul:s.T.n*(K j+KF)≤n*(K j+KF):=rB _ htn;have hval:u.q-ev (prs s.T.L) (numF (qs YL))=btDn (ST.drop j) z s.row:=by
        rw[btDn_drop hsT];show _=upd _ s.row _ s.row
        rw[upd_at,←numF_at hrow.1 hu,HBK0.out _ hrow.1 hrow.2,hnij];have h8:ev (prs s.T.L) (numF (qs YL))=ev (prs s.T.L) (btDn (ST.drop (j+1)) z):=ev_congr fun t ht=>by
         have h7:=HIN.out t ht;rw[HBK0.out _ h7.1 h7.2,hnij]
        rw[h8];rfl
       have HSZ:Hid (sz (u.q-ev (prs s.T.L) (numF (qs YL)))+1≤KZ):=zh (by
        rw[hval];exact kA (hfin j s.f (cA _) hsT) hKZ)
       have HBK:Hid (∀r:Fr,r.q=u.q-ev (prs s.T.L) (numF (qs YL))→∀a:Int,0≤a→a<(n:Int)→numF (qs (YL.set s.row.toNat r)) a=btDn (ST.drop (n-(i+1))) z a):=zh (fun r hr a h8 h9=>by
        rw[numF_set hrow.1 (by rw[HYL.out];omega) h8,hnij2,hr,hval,HBK0.out a h8 h9,hnij];by_cases e:a=s.row
        ·rw[gA e,e]
        ·rw[fA e,btDn_drop hsT,upd_off (show a≠s.f.row from e)])
       have i1:(i:Int)<(n:Int):=zo;have i2:(0:Int)≤(i:Int):=zo;have j1:(0:Int)≤(j:Int):=zo;have j4:(j:Int)<(n:Int):=zo;have j2:0≤s.row:=hrow.1;have j3:s.row<(n:Int):=hrow.2;clear hel hs hsT hgs hsr hu huo h9 h10 hrow hval hnij hnij2 hn1a hn1b hj1 hj2 hsl2 hfin;have Bz:=zr wr;have p90_1:=(HFB.out.below Bz).cell 1 (.int .i64 (n:Int)) rfl;have p90_2:=(HFB.out.below Bz).cell 2 (.slice (some ⟨hb,ho,none⟩) n hc) rfl;obtain⟨pA0,pA1,pA2,pA3,pA4,pA5,pA6,pA7,-⟩:=(hnd.below (bT hB Bz)).ez;go_wp2_with fail
       (try simp only[vAa,vBa,vC])
       refine zl (.pure 0 (.pure 1 (.pure 2 (.take 3 (.pure 4 (.pure 5 (.pure 6 (.take 7 (.pure 8 (.pure 9 (.pure 10 (.pure 11 (.take 12 (.only 13 (.only 14 .done))))))))))))))) [14] (zsa pA0 (zsa pA1 (zsa pA2 (zsa pA3 (zsa pA4 (zsa pA5 (zsa pA6 (zsa pA7 (zsa p90_1 (zIa p90_2)))))))))) ?_;iterate 13 ((first|refine zV ?_|refine zUa ?_);try simp only[uW,uX,uY,uZ])
       refine zC 12 rfl rfl (fun K hK=>?_);go_simp
       refine hK.out _ _ ⟨(zAd pA0),(zAd pA1),(zAd pA2),(zAd pA3),(zAd pA4),(zAd pA5),(zAd pA6),(zAd pA7),(zAd p90_1),(zAd p90_2)⟩ (fun _=>?_);try simp only[uW,uX,uY,uZ]
       clear hK K;refine zAc (o:=⟨none,_,_,_,_,_⟩) rfl rfl zd (fun K hK=>?_);go_simp
       refine hK.out _ _ ?_;try simp only[Act.put,uX,uY,uZ]
       clear hK K;refine zAa ?_;obtain⟨V11,hW,x0,hN⟩:=zAe wr #[.int .i64 s.row,.int .i64 s.col,.bool s.pv.s,.slice s.pv.A s.pv.l s.pv.c,.bool s.pv.s',.slice s.pv.A' s.pv.l' s.pv.c',.slice s.R.A s.R.n s.R.c,.slice s.T.A s.T.n s.T.c] 74;rw[←hW];clear hW;obtain⟨v0,hb0⟩:=ze wr.heap.size;rw[←hb0] at x0 ⊢;have ow_0:w.heap.size≤v0:=zi (zw hB Bz);have nv0_y:=OwnR.off' (b:=v0) hy zo;have nv0_own:=OwnR.off' (b:=v0) hown zo;replace hown:=hown.below hN;replace hru:=hru.below hN;replace hy:=hy.below hN;replace hya:=hya.below hN;replace hB:=bT (bT hB Bz) hN;replace HFB:=zh ((HFB.out.below Bz).below hN);have HX0:=zh x0;clear x0 hN Bz hb0;have Bz:=zr V11;clear p90_1 p90_2 pA0 pA1 pA2 pA3 pA4 pA5 pA6 pA7;obtain⟨pa0,-,-,-,-,-,-,pa7,-⟩:=(zxb HX0 Bz).cz;have pC0:=fr_0 hy HU.out;have pC1:=elt_frs.cell hy HU.out (j:=1) (u:=.slice u.A u.l u.c) zo rfl;have pC2:=elt_frs.cell hy HU.out (j:=2) (u:=.bool u.s') zo rfl;have pC3:=elt_frs.cell hy HU.out (j:=3) (u:=.slice u.A' u.l' u.c') zo rfl;have fC0:=hy.frozen (s.row.toNat*4);have fC1:=hy.frozen (s.row.toNat*4+1);have fC2:=hy.frozen (s.row.toNat*4+2);have fC3:=hy.frozen (s.row.toNat*4+3);have y52:=hy.blk.1;go_wp2_with fail
       (try simp only[vAa,vBa,vC])
       refine zl (.pure 0 (.pure 1 (.take 2 (.pure 3 (.pure 4 (.take 5 (.pure 6 (.take 7 (.pure 8 (.take 9 (.pure 10 (.only 11 (.pure 12 (.only 13 .done)))))))))))))) [13] (zsa pa0 (zsa pa7 (zsa pC0 (zsa pC1 (zsa pC2 (zIa pC3)))))) ?_;iterate 11 ((first|refine zV ?_|refine zUa ?_);try simp only[uW,uX,uY,uZ])
       refine zC 97 rfl rfl (fun K hK=>?_);go_simp
       with_reducible refine(lessL_q (RN.below hru) hsu ⟨rfl,rfl,rfl⟩ (CN.below hcn (bT hB (bT (b:=V11) Bz))) ((OwnR.sl' elt_frs (OwnR.below hy) HYL.out)) (zh (AllRn.below hya)) HBX HIN zo zo zo (zt hT hB Bz)).mono ?_
       rintro e w11 ⟨s11,A11,c11,l11,s11r,A11r,c11r,l11r,rfl,h11,hz11,J⟩;replace J:=zq (a:=V11) J;replace hown:=hown.below J;replace hy:=hy.below J;replace hya:=hya.below J;replace Bz:=bT Bz J;clear J;clear pa0 pa7 pC0 pC1 pC2 pC3 fC0 fC1 fC2 fC3 y52;obtain⟨pa0,-,-,-,-,-,-,pa7,-⟩:=(zxb HX0 Bz).cz;have pC0:=fr_0 hy HU.out;have pC1:=elt_frs.cell hy HU.out (j:=1) (u:=.slice u.A u.l u.c) zo rfl;have pC2:=elt_frs.cell hy HU.out (j:=2) (u:=.bool u.s') zo rfl;have pC3:=elt_frs.cell hy HU.out (j:=3) (u:=.slice u.A' u.l' u.c') zo rfl;have fC0:=hy.frozen (s.row.toNat*4);have fC1:=hy.frozen (s.row.toNat*4+1);have fC2:=hy.frozen (s.row.toNat*4+2);have fC3:=hy.frozen (s.row.toNat*4+3);have y52:=hy.blk.1;refine hK.out _ _ ⟨pa0,pa7,pC0,pC1,pC2,pC3⟩ (fun _=>?_);try simp only[uW,uX,uY,uZ]
       clear hK K;refine zV ?_;try simp only[uW,uX,uY,uZ]
       refine zAc (o:=⟨none,_,_,_,_,_⟩) rfl rfl zd (fun K hK=>?_);go_simp
       refine hK.out _ _ ?_;try simp only[Act.put,uX,uY,uZ]
       clear hK K;obtain⟨V12,hV,hy2,hg2⟩:=fr_store hy HU.out ⟨s11,A11,c11,l11,s11r,A11r,c11r,l11r,u.q-ev (prs s.T.L) (numF (qs YL)),true⟩;rw[←hV];clear hV;have hbg:=(OwnR.base hy yg rfl);replace hB:=(bT hB Bz).trans (hg2.below (zi (zw hB Bz)) (rowB hbg));replace hown:=OwnR.grown hown hg2 HAP.out;replace HFB:=zh (HFB0.out.below hB);clear HX0;have hya2:=AllRn.set (AllRn.k hya hg2.k) s.row.toNat (x:=⟨s11,A11,c11,l11,s11r,A11r,c11r,l11r,u.q-ev (prs s.T.L) (numF (qs YL)),true⟩) (AllRn.put (RN.k (RN.below h11) hg2.k) HSZ.out);replace hy:=hy2;replace hya:=hya2;clear hy2 hya2 hg2 Bz hbg;have Bz:=zr V12;clear pa0 pa7 pC0 pC1 pC2 pC3 fC0 fC1 fC2 fC3 y52;refine zAa ?_;go_wp2_with fail
       go_roundg (n-(i+1))
       case measure=>have:=HGK.out;omega
       case rel=>exact⟨i+1,_,zo,rfl,by go_num,OwnR.below hown,OwnR.below hy,AllRn.below hya,HBK.out _ rfl,HFB.out.below (by go_grown),bT (bT hB Bz)⟩
     ·obtain rfl:n=i:=zo;have i1:¬(n:Int)<(n:Int):=zo;have HNF:Hid (∀a:Int,0≤a→a<(n:Int)→numF (qs YL) a=btranF ST (pget P) a):=zh (fun a h8 h9=>by rw[HBK0.out a h8 h9,vE,List.drop_zero,HZ.out,HF0.out];rfl);have HQ:Hid (YL.map (fun x=>x.q)=(List.range n).map fun(i:Nat)=>btranF ST (pget P) (i:Int)):=zh (nums_list HYL.out HNF.out);have hya3:=AllRn.tight (K':=KF) hya (fun k x hx=>by
       have hk:k<n:=by rw[←HYL.out];exact(yA.1 hx).1
       have h8:=HNF.out (k:Int) zo zo;rw[numF_at zo hx] at h8;rw[h8];exact hKF.out _ zo zo)
      have hof:=ofV_q (m:=KF) (hy.sl' elt_frs HYL.out) (zh (hya3.fr zo)) zo zo (zh (hT.out.below hB));rw[HQ.out] at hof;clear hown hy hya hya3 HBK0;go_wp2_with fail
      with_reducible refine hof.mono ?_
      rintro e w3 ⟨A3,n3,c3,rfl,h3,b3⟩;go_wp2_with fail
      go_ret2
      exact⟨A3,n3,c3,rfl,h3,bT hB b3⟩
end Go.Proofs.YteggjbgbknkoiaaGreatDoor
