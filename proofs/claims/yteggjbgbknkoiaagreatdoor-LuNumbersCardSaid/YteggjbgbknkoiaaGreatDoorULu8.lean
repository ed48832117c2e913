import Derived.Test.YteggjbgbknkoiaaGreatDoorULu4
set_option maxHeartbeats 16000000
set_option maxRecDepth 100000
namespace Go.Proofs.YteggjbgbknkoiaaGreatDoor
open Go.RowKit Tw
theorem AllRn.fr {w:World} {K m:Nat} {L:List Fr} (h:AllRn w K L) (hm:K≤m+1):∀x∈L,FrOk w m x:=fun x hx=>by
 obtain⟨h1,h2,h3⟩:=h x hx;have h4:=h1.fr (m:=m) zo;obtain⟨a,b,c,d,a',b',c',d',q,ex⟩:=x;obtain rfl:ex=true:=h2;exact h4
theorem denseF_num {P:List (Int×Rat)} {n:Nat} {D:List Fr} (h:qs D=denseF P n) (a:Int) (h0:0≤a) (h1:a<(n:Int)):numF (qs D) a=pget P a:=by
 rw[h];unfold numF denseF
 rw[gA h0,bA,rA,rF zo];show pget P ((a.toNat:Nat):Int)=_
 rw[sF h0]
theorem numF_zeros (n:Nat) (a:Int):numF (qs (List.replicate n zFr)) a=0:=by
 unfold numF qs
 split
 ·rw[bA,rA,cD];split<;>rfl
 ·rfl
theorem numF_set {D:List Fr} {k a:Int} {r:Fr} (hk:0≤k) (hk2:k.toNat<D.length) (ha:0≤a):numF (qs (D.set k.toNat r)) a=if a=k then r.q else numF (qs D) a:=by
 by_cases e:a=k
 ·subst e;rw[gA rfl,numF_at ha (pD hk2)]
 ·rw[fA e];unfold numF qs
  rw[gA ha,gA ha,List.map_set,bA,bA,rD zo]
theorem nums_list {D:List Fr} {n:Nat} {F:Int→Rat} (hl:D.length=n) (h:∀a:Int,0≤a→a<(n:Int)→numF (qs D) a=F a):D.map (fun x=>x.q)=(List.range n).map fun(i:Nat)=>F (i:Int):=by
 refine List.ext_getElem (by simp[hl]) fun i h1 h2=>?_;rw[cB] at h1;have h3:=h (i:Int) zo zo;rw[numF_at (y:=D[i]) zo (aA h1)] at h3;rw[List.getElem_map,List.getElem_map,List.getElem_range,h3]
def FT1 (w:World) (fb n sc hc:Nat) (SA H:Option Addr) (f:Int→Rat) (ST:List StepF) (KD:Nat→Nat) (gk:Nat) (x:Value) (wr:World):Prop :=
 ∃(i:Nat) (D:List Fr),i≤n∧n-i=gk∧x=.int .i64 (i:Int)∧OwnR wr w.heap.size 30 4 (.slice SA n sc) n (flat Fr.cs D)∧AllRn wr (KD i) D∧(∀a:Int,0≤a→a<(n:Int)→numF (qs D) a=fwd (ST.take i) f a)∧Bx wr fb #[.bool true,.int .i64 (n:Int),.slice H n hc] 68∧Below w.heap.size w wr
def FT2 (w:World) (fb n sc hc xg KS KX:Nat) (SA H:Option Addr) (D:List Fr) (gg:Int→Rat) (ST:List StepF) (gk:Nat) (x:Value) (wr:World):Prop :=
 ∃(i:Nat) (XL:List Fr),i≤n∧n-i=gk∧x=.int .i64 (i:Int)∧OwnR wr w.heap.size 30 4 (.slice SA n sc) n (flat Fr.cs D)∧AllRn wr KS D∧OwnR wr w.heap.size 30 4 (.slice (some ⟨xg,0,none⟩) n n) n (flat Fr.cs XL)∧AllRn wr KX XL∧(∀a:Int,0≤a→a<(n:Int)→numF (qs XL) a=back gg (ST.drop (n-i)) a)∧
  Bx wr fb #[.bool true,.int .i64 (n:Int),.slice H n hc] 68∧Below w.heap.size w wr
def TellsLX (w:World) (P:List (Int×Rat)) (M:Nat) (e:Ending) (w':World):Prop:=∃A m c,e=.returned (.tuple #[.slice A m c,.int .i64 0])∧NV w' A m c P M∧Below w.heap.size w w'
def FtranP (n:Nat) (ST:List StepF) (P:List (Int×Rat)):List (Int×Rat):=nrm (idxP ((List.range n).map fun(i:Nat)=>back (fwd ST (pget P)) ST (i:Int)))
theorem ftran_q {w:World} {fb n bn bc S KS KX:Nat} {K:Nat→Nat} {ST:List StepF} {X:Option Addr} {P:List (Int×Rat)} (h:LuM w fb n ST K) (hg:Hid (∀st∈ST,GoodSt n st)) (ha:Hid (ST.Pairwise ApartSt)) (hb:GV w X bn bc P S) (hS:S≤18000000000) (hS2:2≤S) (hbn:bn≤12) (hn:n≤12) (hfit:Hid (fitsB n (nrm P)=true))
  (KD:Nat→Nat) (hK0:S≤KD 0) (hKD:Hid (∀i,i<n→2*KD i+K i≤KD (i+1)∧2*KD i+K i≤20000000000∧KS+n*(K i+KX)≤35000000000∧K i≤4000000000)) (hKS:KD n≤KS) (hKX:Hid (∀a,0≤a→a<(n:Int)→sz (back (fwd ST (pget P)) ST a)+1≤KX)) (hKX2:KX≤14000000000) (hKX1:2≤KX) (hT:Hid (Tab w)) :
  Calls Tryz.prog 8 #[.pointer (some ⟨fb,0,none⟩),.slice X bn bc] w (TellsLX w (FtranP n ST P) (KX+2)):=by
 obtain⟨H,hc,LS,hbx,hsl,hst,hls⟩:=h;have hdq:=ldense_q hbx hb hS hS2 hbn hn hT;have pa0:=hbx.cell 0 (.bool true) rfl;have HFB0:=zh hbx;have HSL:=zh hsl;have HLL:=zh hsl.1;have HST:=zh hst;have HLS:=zh hls;have HTL:Hid (ST.length=n):=zh (by rw[←hls,cB];exact hsl.1);obtain⟨f,hf0⟩:∃f,f=pget P:=⟨_,rfl⟩;have HF0:=zh hf0;clear hbx hsl hst hls hf0;go_enter Tryz.func8,Tryz.ntmps8
 go_wp2_with fail
 with_reducible refine hdq.mono ?_
 rintro e w1 ⟨b1,⟨hf,rfl⟩ | ⟨hf,SA,sc,D,rfl,ho1,hal,hqs⟩⟩
 ·rw[hfit.out] at hf;cases hf
 ·have HO1:=zh ho1;have HAL:=zh hal;have HQS:=zh hqs;have HB1:=zh b1;have HF1:=zh (HFB0.out.below b1);clear hf ho1 hal hqs b1 pa0 hdq;have p90_2:=HF1.out.cell 2 (.slice H n hc) rfl;go_wp2_with fail
  go_loopg [35] n (fun gk x wr=>FT1 w fb n sc hc SA H f ST KD gk x wr)
  case atStart=>exact⟨0,D,nA _,rfl,rfl,HO1.out.below (by go_grown),(HAL.out.below (by go_grown)).mono hK0,(fun a h8 h9=>by rw[cF,HF0.out];exact denseF_num HQS.out a h8 h9),HF1.out.below (by go_grown),bT HB1.out⟩
  case round =>
   clear HO1 HAL HQS HB1 HF1 p90_2;obtain⟨i,D,hi,hgk,rfl,hown,hal,hfw,hfb,hB⟩:=hrel;have HGK:=zh hgk;have HFW0:=zh hfw;have HFB:=zh hfb;clear hgk hfw hfb;by_cases hlt:i<n
   ·obtain⟨hb,ho,rfl,hel⟩:=HSL.out.at StM.cs_len zo zo;obtain⟨s,hs⟩:∃s,LS[i]?=some s:=⟨LS[i]'(by rw[HLL.out];exact hlt),aA _⟩;have hnd:=hel i s hs;have hsT:ST[i]?=some s.f:=by rw[←HLS.out,rA,hs];rfl
    have hgs:=hg.out _ (dA hsT);have hsr:=HST.out i s hs;obtain⟨_,_,e9,h9,h10,_⟩:=hown.slice;cases e9;cases SA with
    | none=>have:=(h9 rfl).1;omega
    | some sa =>
     obtain⟨g,rfl⟩:=h10 sa rfl;have hDl:=hown.eltn elt_frs zo;have hrow:0≤s.row∧s.row<(n:Int):=hgs.row;obtain⟨y,hy⟩:∃y,D[s.row.toNat]?=some y:=⟨D[s.row.toNat]'(by rw[hDl];omega),aA _⟩;have HY:=zh hy;have hyo:=hal y (dA hy);have hry:=hyo.1;have hsy:sz y.q+1≤KD i:=hyo.2.2;have hcn:=hsr.t;have hgb:=hown.base g rfl;have HVG:Hid (∀a,s.T.A=some a→a.block≠g):=zh (fun a e=>by have:=hsr.ta a e;omega);have HRI:Hid (Rise (prs s.T.L)):=zh hgs.taken.rise;have HIN:Hid (∀t∈prs s.T.L,0≤t.1∧t.1<(n:Int)):=zh hgs.takenIn;have htn:s.T.n≤12:=by
      have h1:=rise_len hgs.taken.rise hgs.takenIn;have h2:(prs s.T.L).length=s.T.n:=by rw[prs_len];exact hcn.1.1
      have h3:s.f.taken=prs s.T.L:=rfl;rw[h3,h2] at h1;omega
     obtain⟨hk1,hk2,_,hk4⟩:=hKD.out i hlt;have HKD:KD i+K i+KD i≤KD (i+1):=zo;have HFW:Hid (∀a:Int,0≤a→a<(n:Int)→spr (numF (qs D)) (prs s.T.L) y.q a=fwd (ST.take (i+1)) f a):=zh (fun a h8 h9=>by
      rw[fwd_take hsT];unfold spr
      rw[HFW0.out a h8 h9,←numF_at hrow.1 hy,HFW0.out _ hrow.1 hrow.2];rfl)
     have i1:(i:Int)<(n:Int):=zo;have i2:(0:Int)≤(i:Int):=zo;have j2:0≤s.row:=hrow.1;have j3:s.row<(n:Int):=hrow.2;clear hel hs hsT hgs hsr hy hyo hDl h9 h10 hrow;have Bz:=zr wr;obtain⟨pA0,pA1,pA2,pA3,pA4,pA5,pA6,pA7,-⟩:=(hnd.below (bT hB Bz)).ez;go_upto_region 9 with(fail)
     obtain⟨V11,hW,x0,hN⟩:=zAe wr #[.int .i64 s.row,.int .i64 s.col,.bool s.pv.s,.slice s.pv.A s.pv.l s.pv.c,.bool s.pv.s',.slice s.pv.A' s.pv.l' s.pv.c',.slice s.R.A s.R.n s.R.c,.slice s.T.A s.T.n s.T.c] 74;rw[←hW];clear hW;obtain⟨v0,hb0⟩:=ze wr.heap.size;rw[←hb0] at x0 ⊢;have ow_0:w.heap.size≤v0:=zi (zw hB Bz);replace hal:=hal.below hN;replace hown:=hown.below hN;replace hry:=hry.below hN;replace hB:=bT (bT hB Bz) hN;replace HFB:=zh ((HFB.out.below Bz).below hN);have HX0:=zh x0;clear x0 hN Bz hb0;have Bz:=zr V11;clear pA0 pA1 pA2 pA3 pA4 pA5 pA6 pA7;obtain⟨pa0,-,-,-,-,-,-,pa7,-⟩:=(zxb HX0 Bz).cz;have pB0:=fr_0 hown HY.out;have pB1:=elt_frs.cell hown HY.out (j:=1) (u:=.slice y.A y.l y.c) zo rfl;have pB2:=elt_frs.cell hown HY.out (j:=2) (u:=.bool y.s') zo rfl;have pB3:=elt_frs.cell hown HY.out (j:=3) (u:=.slice y.A' y.l' y.c') zo rfl;go_wp2_with fail
     (try simp only[vAa,vBa,vC])
     refine zl (.pure 0 (.pure 1 (.take 2 (.pure 3 (.pure 4 (.take 5 (.pure 6 (.take 7 (.only 8 .done))))))))) [8] (zsa pa0 (zsa pa7 (zsa pB0 (zsa pB1 (zsa pB2 (zIa pB3)))))) ?_;iterate 8 ((first|refine zV ?_|refine zUa ?_);try simp only[uW,uX,uY,uZ])
     refine zAc (o:=⟨some 47,_,_,_,_,_⟩) rfl rfl zd (fun K hK=>?_);go_simp
     have hD0:V11.drew.heap.size=V11.heap.size:=rfl;with_reducible refine(spread_q (w0:=w) (bT hB (bT Bz)) (RN.below hry) hsy ⟨rfl,rfl,rfl⟩ (CN.below hcn (bT hB (bT Bz))) HVG.out (OwnR.below hown) (AllRn.below hal) HRI HIN zo zo zo hT).mono ?_
     rintro e w11 ⟨rfl,D2,ho2,hl2,hal2,hsp,hkp,J⟩;have HSP:=zh hsp;have hbg2:=OwnR.base hown g rfl;replace HFB:=zh (HFB0.out.below J);clear HX0;replace hB:=J;replace hown:=ho2;replace hal:=hal2;clear hD0 ho2 hal2 hsp hkp J hbg2 Bz;have Bz:=zr w11;clear pa0 pa7 pB0 pB1 pB2 pB3;refine hK.out _ _ ?_;try simp only[uW,uX,uY,uZ]
     clear hK K;refine zAa ?_;go_wp2_with fail
     go_roundg (n-(i+1))
     case measure=>have:=HGK.out;omega
     case rel=>exact⟨i+1,D2,zo,rfl,by go_num,OwnR.below hown,AllRn.mono (AllRn.below hal) HKD,(fun a h8 h9=>(HSP.out a h8 h9).trans (HFW.out a h8 h9)),HFB.out.below (by go_grown),bT (bT hB Bz)⟩
   ·obtain rfl:n=i:=zo;have i1:¬(n:Int)<(n:Int):=zo;have HD2:Hid (∀a:Int,0≤a→a<(n:Int)→numF (qs D) a=fwd ST f a):=zh (fun a h8 h9=>by have h7:=HFW0.out a h8 h9;rwa [eA (by rw[HTL.out];exact cA _)] at h7);have HAL2:=zh (hal.mono hKS);have HDL:=zh (hown.eltn elt_frs zo);have HOWN:=zh hown;have HFR:=HFB;have hsl2:=hown.slice;have HB2:=zh hB;clear HFW0 hal HGK hlt hi hown;have p90_1:=HFB.out.cell 1 (.int .i64 (n:Int)) rfl;go_wp2_with (at_make;refine And.left (b:=True) ?_)
    refine⟨?_,trivial⟩;refine Elt.makeN elt_frs zFr (fun i z h1 h2=>fr_zero h1 h2) rfl _ _ rfl .i64 .i64 n rfl rfl zo wr.heap.size (cA _) ?_;intro xg w2 ho2 b2;have hxb:=ho2.base xg rfl;have HX2:=zh (ho2.rebase (B':=w.heap.size) hB.size);have HAP:Hid (Ap (.slice SA n sc) (.slice (some ⟨xg,0,none⟩) n n)):=zh (.inr fun e=>by have h8:=HOWN.out.lt xg (e.trans rfl);omega);have HOWN2:=zh (HOWN.out.below b2);have HAL3:=zh (HAL2.out.below b2);have HF2:=zh (HFB.out.below b2);have HB3:=zh (bT hB b2);clear ho2 b2 p90_1 HOWN HAL2 HFB HFR HB2 hB hxb;have p90_1:=HF2.out.cell 1 (.int .i64 (n:Int)) rfl;go_wp2_with fail
    obtain⟨gg,hgg⟩:∃g,g=fwd ST f:=⟨_,rfl⟩;have HGG:=zh hgg;go_loopg [58] n (fun gk x wr=>FT2 w fb n sc hc xg KS KX SA H D gg ST gk x wr)
    case atStart=>exact⟨0,List.replicate n zFr,nA _,rfl,rfl,HOWN2.out.below (by go_grown),HAL3.out.below (by go_grown),HX2.out.below (by go_grown),AllRn.zeros _ _ hKX1,(fun a h8 h9=>by rw[Nat.sub_zero,List.drop_of_length_le (by rw[HTL.out];exact cA _)];exact numF_zeros n a),HF2.out.below (by go_grown),bT HB3.out⟩
    case round =>
     clear HOWN2 HAL3 HX2 HF2 HB3 p90_1 i1 hgg;obtain⟨i,XL,hi,hgk,rfl,hown,hal,hx,hxa,hbk,hfb,hB⟩:=hrel;have HGK:=zh hgk;have HBK0:=zh hbk;have HFB:=zh hfb;have HXL:=zh (hx.eltn elt_frs zo);clear hgk hbk hfb;by_cases hlt:i<n
     ·obtain⟨n1,hn1a,hn1b⟩:∃k:Nat,k+1≤n∧n≤k+1:=⟨n-1,zo,zo⟩;obtain⟨j,hj1,hj2⟩:∃j:Nat,j+i≤n1∧n1≤j+i:=⟨n1-i,zo,zo⟩;have w1:IntKind.i64.wrap ((n:Int)-1)=(n1:Int):=by rw[IntWalk.i64_in _ zo];omega
      have w2:IntKind.i64.wrap ((n1:Int)-(i:Int))=(j:Int):=by rw[IntWalk.i64_in _ zo];omega
      have hjn:j<n:=zo;obtain⟨hb,ho,rfl,hel⟩:=HSL.out.at StM.cs_len zo zo;obtain⟨s,hs⟩:∃s,LS[j]?=some s:=⟨LS[j]'(by rw[HLL.out];exact hjn),aA _⟩;have hnd:=hel j s hs;have hsT:ST[j]?=some s.f:=by rw[←HLS.out,rA,hs];rfl
      have hgs:=hg.out _ (dA hsT);have hsr:=HST.out j s hs;obtain⟨_,_,e9,h9,h10,_⟩:=hown.slice;cases e9;cases SA with
      | none=>have:=(h9 rfl).1;omega
      | some sa =>
       obtain⟨g,rfl⟩:=h10 sa rfl;have hrow:0≤s.row∧s.row<(n:Int):=hgs.row;have hcol:0≤s.col∧s.col<(n:Int):=hgs.col;obtain⟨y,hy⟩:∃y,D[s.row.toNat]?=some y:=⟨D[s.row.toNat]'(by rw[HDL.out];omega),aA _⟩;have HY:=zh hy;obtain⟨u,hu⟩:∃u,XL[s.col.toNat]?=some u:=⟨XL[s.col.toNat]'(by rw[HXL.out];omega),aA _⟩;have HU:=zh hu;have hyo:=hal y (dA hy);have hry:=hyo.1;have hsy:sz y.q+1≤KS:=hyo.2.2;have hcn:=hsr.r;have hpv:=hsr.pv.1.below hB;have hsp:sz s.pv.q+1≤K j:=hsr.pv.2.2;have HIN:Hid (∀t∈prs s.R.L,0≤t.1∧t.1<(n:Int)):=zh hgs.restIn;have HBX:Hid (∀t∈prs s.R.L,∀y,XL[t.1.toNat]?=some y→sz y.q+1≤KX):=zh (fun t _ y h8=>(hxa y (dA h8)).2.2);have hrn:s.R.n≤n:=by
        have h1:=rise_len hgs.rest.rise hgs.restIn;have h2:(prs s.R.L).length=s.R.n:=by rw[prs_len];exact hcn.1.1
        have h3:s.f.rest=prs s.R.L:=rfl;rw[h3,h2] at h1;omega
       obtain⟨hk1,hk2,hk3,hk4⟩:=hKD.out j hjn;have hmul:s.R.n*(K j+KX)≤n*(K j+KX):=rB _ hrn;have hnij:n-i=j+1:=zo;have hnij2:n-(i+1)=j:=zo;have hval:(y.q-ev (prs s.R.L) (numF (qs XL))) / s.pv.q=back gg (ST.drop j) s.col:=by
        rw[back_drop hsT];show _=upd _ s.col _ s.col
        rw[upd_at,←numF_at hrow.1 hy,HD2.out _ hrow.1 hrow.2,HGG.out];have h8:ev (prs s.R.L) (numF (qs XL))=ev (prs s.R.L) (back (fwd ST f) (ST.drop (j+1))):=ev_congr fun t ht=>by
         have h7:=HIN.out t ht;rw[HBK0.out _ h7.1 h7.2,hnij,HGG.out]
        rw[h8];rfl
       have HSZ:Hid (sz ((y.q-ev (prs s.R.L) (numF (qs XL))) / s.pv.q)+1≤KX):=zh (by
        rw[hval];have h8:=back_fin ha.out hsT gg;show sz (back gg (ST.drop j) s.f.col)+1≤KX
        rw[←h8,HGG.out,HF0.out];exact hKX.out _ hcol.1 hcol.2)
       have HBK:Hid (∀r:Fr,r.q=(y.q-ev (prs s.R.L) (numF (qs XL))) / s.pv.q→∀a:Int,0≤a→a<(n:Int)→numF (qs (XL.set s.col.toNat r)) a=back gg (ST.drop (n-(i+1))) a):=zh (fun r hr a h8 h9=>by
        rw[numF_set hcol.1 (by rw[HXL.out];omega) h8,hnij2,hr,hval,HBK0.out a h8 h9,hnij];by_cases e:a=s.col
        ·rw[gA e,e]
        ·rw[fA e,back_drop hsT,upd_off (show a≠s.f.col from e)])
       have i1:(i:Int)<(n:Int):=zo;have i2:(0:Int)≤(i:Int):=zo;have j1:(0:Int)≤(j:Int):=zo;have j4:(j:Int)<(n:Int):=zo;have j2:0≤s.row:=hrow.1;have j3:s.row<(n:Int):=hrow.2;have j5:0≤s.col:=hcol.1;have j6:s.col<(n:Int):=hcol.2;clear hel hs hsT hgs hsr hy hu hyo h9 h10 hrow hcol hval hnij hnij2 hn1a hn1b hj1 hj2 hsl2;have Bz:=zr wr;have p90_1:=(HFB.out.below Bz).cell 1 (.int .i64 (n:Int)) rfl;have p90_2:=(HFB.out.below Bz).cell 2 (.slice (some ⟨hb,ho,none⟩) n hc) rfl;obtain⟨pA0,pA1,pA2,pA3,pA4,pA5,pA6,pA7,-⟩:=(hnd.below (bT hB Bz)).ez;go_wp2_with fail
       (try simp only[vAa,vBa,vC])
       refine zl (.pure 0 (.pure 1 (.pure 2 (.take 3 (.pure 4 (.pure 5 (.pure 6 (.take 7 (.pure 8 (.pure 9 (.pure 10 (.pure 11 (.take 12 (.only 13 (.only 14 .done))))))))))))))) [14] (zsa pA0 (zsa pA1 (zsa pA2 (zsa pA3 (zsa pA4 (zsa pA5 (zsa pA6 (zsa pA7 (zsa p90_1 (zIa p90_2)))))))))) ?_;iterate 13 ((first|refine zV ?_|refine zUa ?_);try simp only[uW,uX,uY,uZ])
       refine zC 12 rfl rfl (fun K hK=>?_);go_simp
       refine hK.out _ _ ⟨(zAd pA0),(zAd pA1),(zAd pA2),(zAd pA3),(zAd pA4),(zAd pA5),(zAd pA6),(zAd pA7),(zAd p90_1),(zAd p90_2)⟩ (fun _=>?_);try simp only[uW,uX,uY,uZ]
       clear hK K;refine zAc (o:=⟨none,_,_,_,_,_⟩) rfl rfl zd (fun K hK=>?_);go_simp
       refine hK.out _ _ ?_;try simp only[Act.put,uX,uY,uZ]
       clear hK K;refine zAa ?_;obtain⟨V11,hW,x0,hN⟩:=zAe wr #[.int .i64 s.row,.int .i64 s.col,.bool s.pv.s,.slice s.pv.A s.pv.l s.pv.c,.bool s.pv.s',.slice s.pv.A' s.pv.l' s.pv.c',.slice s.R.A s.R.n s.R.c,.slice s.T.A s.T.n s.T.c] 74;rw[←hW];clear hW;obtain⟨v0,hb0⟩:=ze wr.heap.size;rw[←hb0] at x0 ⊢;have ow_0:w.heap.size≤v0:=zi (zw hB Bz);have nv0_x:=OwnR.off' (b:=v0) hx zo;have nv0_own:=OwnR.off' (b:=v0) hown zo;replace hal:=hal.below hN;replace hown:=hown.below hN;replace hpv:=hpv.below hN;replace hry:=hry.below hN;replace hx:=hx.below hN;replace hxa:=hxa.below hN;replace hB:=bT (bT hB Bz) hN;replace HFB:=zh ((HFB.out.below Bz).below hN);have HX0:=zh x0;clear x0 hN Bz hb0;have Bz:=zr V11;clear p90_1 p90_2 pA0 pA1 pA2 pA3 pA4 pA5 pA6 pA7;obtain⟨pa0,pa1,pa2,pa3,pa4,pa5,pa6,-⟩:=(zxb HX0 Bz).cz;have pB0:=fr_0 hown HY.out;have pB1:=elt_frs.cell hown HY.out (j:=1) (u:=.slice y.A y.l y.c) zo rfl;have pB2:=elt_frs.cell hown HY.out (j:=2) (u:=.bool y.s') zo rfl;have pB3:=elt_frs.cell hown HY.out (j:=3) (u:=.slice y.A' y.l' y.c') zo rfl;have pC0:=fr_0 hx HU.out;have pC1:=elt_frs.cell hx HU.out (j:=1) (u:=.slice u.A u.l u.c) zo rfl;have pC2:=elt_frs.cell hx HU.out (j:=2) (u:=.bool u.s') zo rfl;have pC3:=elt_frs.cell hx HU.out (j:=3) (u:=.slice u.A' u.l' u.c') zo rfl;have fC0:=hx.frozen (s.col.toNat*4);have fC1:=hx.frozen (s.col.toNat*4+1);have fC2:=hx.frozen (s.col.toNat*4+2);have fC3:=hx.frozen (s.col.toNat*4+3);have y52:=hx.blk.1;go_wp2_with fail
       (try simp only[vAa,vBa,vC])
       refine zl (.pure 0 (.pure 1 (.take 2 (.pure 3 (.pure 4 (.take 5 (.pure 6 (.take 7 (.pure 8 (.take 9 (.pure 10 (.pure 12 (.take 13 (.only 11 (.only 14 (.pure 15 (.only 16 .done))))))))))))))))) [16] (zsa pa0 (zsa pa1 (zsa pa2 (zsa pa3 (zsa pa4 (zsa pa5 (zsa pa6 (zsa pB0 (zsa pB1 (zsa pB2 (zIa pB3))))))))))) ?_;iterate 13 ((first|refine zV ?_|refine zUa ?_);try simp only[uW,uX,uY,uZ])
       refine zC 85 rfl rfl (fun K hK=>?_);go_simp
       with_reducible refine(lessL_q (RN.below hry) hsy ⟨rfl,rfl,rfl⟩ (CN.below hcn (bT hB (bT (b:=V11) Bz))) ((OwnR.sl' elt_frs (OwnR.below hx) HXL.out)) (zh (AllRn.below hxa)) HBX HIN zo zo zo (zt hT hB Bz)).mono ?_
       rintro e w11 ⟨s11,A11,c11,l11,s11r,A11r,c11r,l11r,rfl,h11,hz11,J⟩;replace J:=zq (a:=V11) J;replace hal:=hal.below J;replace hown:=hown.below J;replace hpv:=hpv.below J;replace hx:=hx.below J;replace hxa:=hxa.below J;replace Bz:=bT Bz J;clear J;clear pa0 pa1 pa2 pa3 pa4 pa5 pa6 pB0 pB1 pB2 pB3 pC0 pC1 pC2 pC3 fC0 fC1 fC2 fC3 y52;obtain⟨pa0,pa1,pa2,pa3,pa4,pa5,pa6,-⟩:=(zxb HX0 Bz).cz;have pB0:=fr_0 hown HY.out;have pB1:=elt_frs.cell hown HY.out (j:=1) (u:=.slice y.A y.l y.c) zo rfl;have pB2:=elt_frs.cell hown HY.out (j:=2) (u:=.bool y.s') zo rfl;have pB3:=elt_frs.cell hown HY.out (j:=3) (u:=.slice y.A' y.l' y.c') zo rfl;have pC0:=fr_0 hx HU.out;have pC1:=elt_frs.cell hx HU.out (j:=1) (u:=.slice u.A u.l u.c) zo rfl;have pC2:=elt_frs.cell hx HU.out (j:=2) (u:=.bool u.s') zo rfl;have pC3:=elt_frs.cell hx HU.out (j:=3) (u:=.slice u.A' u.l' u.c') zo rfl;have fC0:=hx.frozen (s.col.toNat*4);have fC1:=hx.frozen (s.col.toNat*4+1);have fC2:=hx.frozen (s.col.toNat*4+2);have fC3:=hx.frozen (s.col.toNat*4+3);have y52:=hx.blk.1;refine hK.out _ _ ⟨pa0,pa1,pa2,pa3,pa4,pa5,pa6,pB0,pB1,pB2,pB3⟩ (fun _=>?_);try simp only[uW,uX,uY,uZ]
       clear hK K;refine zC 88 rfl rfl (fun K hK=>?_);go_simp
       with_reducible refine(quo_q (R.below h11.r) (R.below hpv.r) zo (zt hT hB Bz)).mono ?_
       rintro e w12 ⟨s12,A12,c12,l12,s12r,A12r,c12r,l12r,rfl,h12,J⟩;replace J:=zq (a:=w11) J;replace hal:=hal.below J;replace hown:=hown.below J;replace hx:=hx.below J;replace hxa:=hxa.below J;replace Bz:=bT Bz J;clear J;clear pa0 pa1 pa2 pa3 pa4 pa5 pa6 pB0 pB1 pB2 pB3 pC0 pC1 pC2 pC3 fC0 fC1 fC2 fC3 y52;obtain⟨pa0,pa1,pa2,pa3,pa4,pa5,pa6,-⟩:=(zxb HX0 Bz).cz;have pB0:=fr_0 hown HY.out;have pB1:=elt_frs.cell hown HY.out (j:=1) (u:=.slice y.A y.l y.c) zo rfl;have pB2:=elt_frs.cell hown HY.out (j:=2) (u:=.bool y.s') zo rfl;have pB3:=elt_frs.cell hown HY.out (j:=3) (u:=.slice y.A' y.l' y.c') zo rfl;have pC0:=fr_0 hx HU.out;have pC1:=elt_frs.cell hx HU.out (j:=1) (u:=.slice u.A u.l u.c) zo rfl;have pC2:=elt_frs.cell hx HU.out (j:=2) (u:=.bool u.s') zo rfl;have pC3:=elt_frs.cell hx HU.out (j:=3) (u:=.slice u.A' u.l' u.c') zo rfl;have fC0:=hx.frozen (s.col.toNat*4);have fC1:=hx.frozen (s.col.toNat*4+1);have fC2:=hx.frozen (s.col.toNat*4+2);have fC3:=hx.frozen (s.col.toNat*4+3);have y52:=hx.blk.1;refine hK.out _ _ ⟨pa0,pa1,pa2,pa3,pa4,pa5,pa6,pB0,pB1,pB2,pB3⟩ (fun _=>?_);try simp only[uW,uX,uY,uZ]
       clear hK K;refine zV ?_;try simp only[uW,uX,uY,uZ]
       refine zAc (o:=⟨none,_,_,_,_,_⟩) rfl rfl zd (fun K hK=>?_);go_simp
       refine hK.out _ _ ?_;try simp only[Act.put,uX,uY,uZ]
       clear hK K;obtain⟨V12,hV,hx2,hg2⟩:=fr_store hx HU.out ⟨s12,A12,c12,l12,s12r,A12r,c12r,l12r,(y.q-ev (prs s.R.L) (numF (qs XL))) / s.pv.q,true⟩;rw[←hV];clear hV;have hbg:=(OwnR.base hx xg rfl);replace hB:=(bT hB Bz).trans (hg2.below (zi (zw hB Bz)) (rowB hbg));replace hown:=OwnR.grown hown hg2 HAP.out;replace HFB:=zh (HFB0.out.below hB);clear HX0;have hxa2:=AllRn.set (AllRn.k hxa hg2.k) s.col.toNat (x:=⟨s12,A12,c12,l12,s12r,A12r,c12r,l12r,(y.q-ev (prs s.R.L) (numF (qs XL))) / s.pv.q,true⟩) (AllRn.put (RN.k (RN.below h12) hg2.k) HSZ.out);replace hal:=hal.k hg2.k;replace hx:=hx2;replace hxa:=hxa2;clear hx2 hxa2 hg2 Bz hbg;have Bz:=zr V12;clear pa0 pa1 pa2 pa3 pa4 pa5 pa6 pB0 pB1 pB2 pB3 pC0 pC1 pC2 pC3 fC0 fC1 fC2 fC3 y52;refine zAa ?_;go_wp2_with fail
       go_roundg (n-(i+1))
       case measure=>have:=HGK.out;omega
       case rel=>exact⟨i+1,_,zo,rfl,by go_num,OwnR.below hown,AllRn.below hal,OwnR.below hx,AllRn.below hxa,HBK.out _ rfl,HFB.out.below (by go_grown),bT (bT hB Bz)⟩
     ·obtain rfl:n=i:=zo;have i1:¬(n:Int)<(n:Int):=zo;have HQ:Hid (XL.map (fun x=>x.q)=(List.range n).map fun(i:Nat)=>back (fwd ST (pget P)) ST (i:Int)):=zh (nums_list HXL.out fun a h8 h9=>by rw[HBK0.out a h8 h9,vE,List.drop_zero,HGG.out,HF0.out]);have hof:=ofV_q (m:=KX) (hx.sl' elt_frs HXL.out) (zh (hxa.fr zo)) zo zo (zh (hT.out.below hB));rw[HQ.out] at hof;clear hown hal hx hxa HBK0;go_wp2_with fail
      with_reducible refine hof.mono ?_
      rintro e w3 ⟨A3,n3,c3,rfl,h3,b3⟩;go_wp2_with fail
      go_ret2
      exact⟨A3,n3,c3,rfl,h3,bT hB b3⟩
end Go.Proofs.YteggjbgbknkoiaaGreatDoor
