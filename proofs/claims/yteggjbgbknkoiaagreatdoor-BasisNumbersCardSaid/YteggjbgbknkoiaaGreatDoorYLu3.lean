import Derived.Test.YteggjbgbknkoiaaGreatDoorYLu2
set_option maxHeartbeats 16000000
set_option maxRecDepth 100000
namespace Go.Proofs.YteggjbgbknkoiaaGreatDoor
open Go.RowKit Tw
theorem st8_7_1 {w:World} {b:Nat} {t:TypeId} {u0 u1 u2 u3 u4 u5 u6 u7:Value} (v7:Value) (h0:Bx w b #[u0,u1,u2,u3,u4,u5,u6,u7] t) (n7:∀n,u7≠.int .u64 n) :
  ∃W,W=w.setCell ⟨b,7,none⟩ v7∧Bx W b #[u0,u1,u2,u3,u4,u5,u6,v7] t∧K64 w W∧(∀b' cs t',b'≠b→Bx w b' cs t'→Bx W b' cs t')∧(∀B w0,B≤b→Below B w0 w→Below B w0 W):=by
 have h8:Bx (w.setCell ⟨b,7,none⟩ v7) b #[u0,u1,u2,u3,u4,u5,u6,v7] t:=h0.set 7 v7;have k7:K64 (w) (w.setCell ⟨b,7,none⟩ v7):=K64.box h0 (i:=7) rfl n7 v7;exact⟨_,rfl,h8,k7,fun b' cs t' hb hx=>(hx.far hb v7),fun B w0 hB hb=>(hb.setCell hB v7)⟩
def TellsEl (w wc:World) (g n:Nat) (V0:List Vc) (OB:List Bool) (k:Nat) (co:Int) (y:Vc) (M:Nat) (e:Ending) (w':World):Prop :=
 ∃(s:Bool) (A:Option Addr) (c l:Nat) (s':Bool) (A':Option Addr) (c' l':Nat) (RA:Option Addr) (rn rc:Nat) (RL:List Tm) (TA:Option Addr) (tn tc:Nat) (TL:List Tm) (V:List Vc),
  e=.returned (.agg #[.int .i64 (k:Int),.int .i64 co,.bool s,.slice A l c,.bool s',.slice A' l' c',.slice RA rn rc,.slice TA tn tc])∧RN w' s A c l s' A' c' l' (pget (prs y.L) co)∧OwnR w' wc.heap.size 32 5 (.slice RA rn rc) rn (flat Tm.cs RL)∧OnT w' RL (fun _=>M+4)∧prs RL=restF (prs y.L) co∧
  OwnR w' wc.heap.size 32 5 (.slice TA tn tc) tn (flat Tm.cs TL)∧OnT w' TL (fun _=>2*M)∧prs TL=(elimUp (V0.map fun v=>prs v.L) OB co (pget (prs y.L) co) (restF (prs y.L) co) n).2∧RO w' w.heap.size g n V (4*M+12)∧(∀v∈V,v∈V0∨∀b,(vsl v).ownBlock=some b→wc.heap.size≤b)∧V.map (fun v=>prs v.L)=(elimUp (V0.map fun v=>prs v.L) OB co (pget (prs y.L) co) (restF (prs y.L) co) n).1∧KP (fun b=>b=g) wc w'∧Below w.heap.size w w'
def EL1 (w wc ws:World) (g n sb rb:Nat) (V0:List Vc) (OB:List Bool) (k:Nat) (co:Int) (y:Vc) (s:Bool) (A:Option Addr) (c l:Nat) (s':Bool) (A':Option Addr) (c' l':Nat) (RA:Option Addr) (rn rc M gk:Nat) (x:Value) (wr:World):Prop :=
 ∃(i:Nat) (V:List Vc) (H:Option Addr) (tn tc:Nat) (T:List Tm),i≤n∧n-i=gk∧x=.int .i64 (i:Int)∧RO wr w.heap.size g n V (4*M+12)∧V.map (fun v=>prs v.L)=(elimUp (V0.map fun v=>prs v.L) OB co (pget (prs y.L) co) (restF (prs y.L) co) i).1∧(∀j,i≤j→V[j]?=V0[j]?)∧(∀v∈V,some sb≠(vsl v).ownBlock∧some rb≠(vsl v).ownBlock)∧(∀v∈V,v∈V0∨∀b,(vsl v).ownBlock=some b→wc.heap.size≤b)∧ApV (.slice H tn tc) V∧
  OwnR wr ws.heap.size 32 5 (.slice H tn tc) tn (flat Tm.cs T)∧prs T=(elimUp (V0.map fun v=>prs v.L) OB co (pget (prs y.L) co) (restF (prs y.L) co) i).2∧OnT wr T (fun _=>2*M)∧tn≤i∧Bx wr sb #[.int .i64 (k:Int),.int .i64 co,.bool s,.slice A l c,.bool s',.slice A' l' c',.slice RA rn rc,.slice H tn tc] 74∧KP (fun b=>b=g∨b=sb) ws wr∧Below w.heap.size w wr
theorem elim_step {R:List (List (Int×Rat))} {OB:List Bool} {co:Int} {pv:Rat} {rest:List (Int×Rat)} {i:Nat} (h:OB.getD i false=true) (h2:pget (R.getD i []) co≠0):elimUp R OB co pv rest (i+1)=((elimUp R OB co pv rest i).1.set i (elimRow (R.getD i []) rest co pv),(elimUp R OB co pv rest i).2++[((i:Int),pget (R.getD i []) co / pv)]):=zA ⟨h,h2⟩
theorem elim_skip {R:List (List (Int×Rat))} {OB:List Bool} {co:Int} {pv:Rat} {rest:List (Int×Rat)} {i:Nat} (h:¬(OB.getD i false=true∧pget (R.getD i []) co≠0)):elimUp R OB co pv rest (i+1)=elimUp R OB co pv rest i:=uA h
theorem elim_q {w0 w:World} (h1:Below w0.heap.size w0 w) {OA:Option Addr} {g n oc M k:Nat} {pc co:Int} {V0:List Vc} {OB:List Bool} {y:Vc} (hro:RO w w0.heap.size g n V0 M) (hob:Sl bls 1 w OA n oc OB) (hoa:Hid (∀a,OA=some a→a.block≠g))
  (hy:V0[k]?=some y) (hk:k<n) (hv:Hid (∀v∈V0,v.n≤1000∧Rise (prs v.L))) (_hpv:Hid (pget (prs y.L) co≠0)) (hn:n≤1000) (hM:M≤900000000) (hM2:2≤M) (hT0:Hid (Tab w0)) :
  Calls Tryz.prog 39 #[.slice (some ⟨g,0,none⟩) n n,.slice OA n oc,.agg #[.int .i64 pc,.int .i64 co,.int .i64 (k:Int)]] w (TellsEl w0 w g n V0 OB k co y M):=by
 have hT:=zh (Tab.below hT0.out h1);have HYK:=zh hy;have HOB:=zh hob;have HLO:=zh hob.1;have HVL:=zh hro.len;have HRO0:=zh hro;have hgb:=hro.base;have hym:=eA hy;have HYN:Hid ((prs y.L).length≤1000):=zh (by rw[prs_len,(hro.row y hym).1.eltn elt_vec zo];exact(hv.out y hym).1);have hyn:=(hv.out y hym).1;have hspv:=on_sz (hro.row y hym).2 (hv.out y hym).2 hM2 co;have GVY0:=zh (hro.row.gv hym (hv.out y hym).2);have k2:(0:Int)≤(k:Int):=zo;have k3:(k:Int)<(n:Int):=zo;clear hob hy hym;obtain⟨W,hW,x0,x1,hB⟩:=boxes2 w #[.int .i64 pc,.int .i64 co,.int .i64 (k:Int)] 70 #[.int .i64 0,.int .i64 0,.bool false,.slice none 0 0,.bool false,.slice none 0 0,.slice none 0 0,.slice none 0 0] 74;replace hro:=hro.below hB;have HX0:=zh x0;have HX1:=zh x1;clear x0 x1;have Bz:=zr W;have pa2:=(zx HX0 Bz).cell 2 (.int .i64 (k:Int)) rfl;have pA0:=vc_cell hro.out HYK.out;go_enter Tryz.func39,Tryz.ntmps39
 go_upto_region 1 with(fail)
 rw[←hW];clear hW;go_upto_region 2 with(fail)
 have GVY:=zh (GVY0.out.below hB);clear GVY0;have hBW:=Below.refl W.heap.size W;go_cut [8] (fun p wx=>∃(sb:Nat) (s:Bool) (A:Option Addr) (c l:Nat) (s':Bool) (A':Option Addr) (c' l':Nat) (RA:Option Addr) (rn rc:Nat) (RL:List Tm),p=.pointer (some ⟨sb,0,none⟩)∧Bx wx sb #[.int .i64 (k:Int),.int .i64 co,.bool s,.slice A l c,.bool s',.slice A' l' c',.slice RA rn rc,.slice none 0 0] 74∧Bx wx w.heap.size #[.int .i64 pc,.int .i64 co,.int .i64 (k:Int)] 70∧Bx wx (w.heap.size+1) #[.int .i64 0,.int .i64 0,.bool false,.slice none 0 0,.bool false,.slice none 0 0,.slice none 0 0,.slice none 0 0] 74∧RN wx s A c l s' A' c' l' (pget (prs y.L) co)∧OwnR wx W.heap.size 32 5 (.slice RA rn rc) rn (flat Tm.cs RL)∧OnT wx RL (fun _=>M+4)∧prs RL=restF (prs y.L) co∧rn≤1001∧some sb≠(Value.slice RA rn rc).ownBlock∧W.heap.size≤sb∧Below w.heap.size w wx∧Below W.heap.size W wx)
 case first =>
  clear hro;have Bz:=zr W;obtain⟨-,pa1,pa2,-⟩:=(zx HX0 Bz).cz;go_wp2_with fail
  (try simp only[vA,vBa,vC])
  refine zl (.pure 0 (.take 1 (.pure 2 (.take 3 (.pure 4 (.pure 5 (.take 6 (.pure 8 (.pure 9 (.take 10 (.pure 11 (.two 7 (.two 12 (.pure 13 (.only 14 (.only 15 .done))) 14 (.only 12 (.pure 13 (.only 15 .done)))) 14 (.only 7 (.only 12 (.pure 13 (.only 15 .done)))))))))))))))) [15] (zsa pa1 (zIa pa2)) ?_;iterate 11 ((first|refine zV ?_|refine zUa ?_);try simp only[uW,uX,uY,uZ])
  refine wpPlan_two (o:=⟨some 24,_,_,_,_,_⟩) (o':=⟨some 8,_,_,_,_,_⟩) rfl rfl rfl rfl (fun K hK=>?_) (fun K hK=>?_)
  ·go_simp
   with_reducible refine(getV_q co (GVY.out.below (bT hBW (bT (b:=W) Bz))) zo zo (zt hT hB Bz)).mono ?_
   rintro e w6 ⟨s6,A6,c6,l6,s6r,A6r,c6r,l6r,rfl,h6,J⟩;replace J:=zq (a:=W) J;replace Bz:=bT Bz J;clear J;clear pa1 pa2;obtain⟨-,pa1,pa2,-⟩:=(zx HX0 Bz).cz;refine hK.out _ _ ⟨pa1,pa2⟩ (fun _=>?_);try simp only[uW,uX,uY,uZ]
   clear hK K;refine wpPlan_two (o:=⟨some 29,_,_,_,_,_⟩) (o':=⟨some 8,_,_,_,_,_⟩) rfl rfl rfl rfl (fun K hK=>?_) (fun K hK=>?_)
   ·go_simp
    have hbp7:W.heap.size≤w6.heap.size:=zj hBW.size Bz.size;with_reducible refine(putO_q (GVY.out.below (bT hBW (bT (b:=w6) Bz))) co ((RN.zero _).r' sz_zero) zo zo (zt hT hB Bz)).mono ?_
    rintro e w7 ⟨A7,n7,c7,L7,rfl,h7,on7,ep7,J⟩;replace J:=zq (a:=w6) J;replace h6:=h6.below J;replace Bz:=bT Bz J;clear J;replace ep7:prs L7=restF (prs y.L) co:=ep7;have hn7:n7≤1001:=by rw[←own_len h7,ep7];have:=rest_len (prs y.L) co;have:=HYN.out;omega
    have EP7:=zh ep7;clear ep7;clear pa1 pa2;obtain⟨-,pa1,pa2,-⟩:=(zx HX0 Bz).cz;refine hK.out _ _ ⟨pa1,pa2⟩ (fun _=>?_);try simp only[uW,uX,uY,uZ]
    clear hK K;refine zV ?_;try simp only[uW,uX,uY,uZ]
    refine zC 8 rfl rfl (fun K hK=>?_);go_simp
    refine hK.out _ _ ⟨(zAd pa1),(zAd pa2)⟩ (fun _=>?_);try simp only[uW,uX,uY,uZ]
    clear hK K;refine zAb (o:=⟨none,_,_,_,_,_⟩) rfl rfl zd (fun K hK=>?_);go_simp
    refine hK.out _ _ ?_;try simp only[Act.put,uX,uY,uZ]
    clear hK K;refine zAa ?_;obtain⟨V6,hW,x2,hN⟩:=zAc w7 #[.int .i64 (k:Int),.int .i64 co,.bool s6,.slice A6 l6 c6,.bool s6r,.slice A6r l6r c6r,.slice A7 n7 c7,.slice none 0 0] 74;rw[←hW];clear hW;obtain⟨v2,hb2⟩:=ze w7.heap.size;rw[←hb2] at x2 ⊢;have o0_2:w.heap.size<v2:=zi (zx HX0 Bz).lt;have o1_2:(w.heap.size+1)<v2:=zi (zx HX1 Bz).lt;have ow_2:w.heap.size≤v2:=zi (zww hB Bz);have ow_2_hBW:W.heap.size≤v2:=zj hBW.size Bz.size;have nv2_v7:=OwnR.off' (b:=v2) h7 zo;replace h6:=h6.below hN;replace on7:=on7.below hN;replace h7:=h7.below hN;replace hB:=bT (bT hB Bz) hN;replace hBW:=bT (bT hBW Bz) hN;replace HX0:=zba HX0 Bz hN;replace HX1:=zba HX1 Bz hN;have HX2:=zh x2;clear x2 hN Bz hb2;have Bz:=zr V6;clear pa1 pa2;go_wp2_with fail
    go_meet
    case rel=>exact⟨v2,_,_,_,_,_,_,_,_,A7,n7,c7,L7,rfl,HX2.out.below (bT Bz),HX0.out.below (bT Bz),HX1.out.below (bT Bz),RN.below h6,(OwnR.below h7).rebase zo,OnT.below on7,EP7.out,hn7,nv2_v7,zo,bT (bT hB Bz),bT (bT hBW Bz)⟩
   ·go_simp
    refine hK.out _ _ ⟨(zAd pa1),(zAd pa2)⟩ (fun _=>?_);try simp only[uW,uX,uY,uZ]
    clear hK K;refine zC 29 rfl rfl (fun K hK=>?_);go_simp
    obtain⟨V6,hW,x2,hN⟩:=zAc w6 #[.int .i64 0,.int .i64 0,.bool false,.slice none 0 0,.bool false,.slice none 0 0,.slice none 0 0,.slice none 0 0] 74;rw[←hW];clear hW;obtain⟨v2,hb2⟩:=ze w6.heap.size;rw[←hb2] at x2 ⊢;have o0_2:w.heap.size<v2:=zi (zx HX0 Bz).lt;have o1_2:(w.heap.size+1)<v2:=zi (zx HX1 Bz).lt;have ow_2:w.heap.size≤v2:=zi (zww hB Bz);have ow_2_hBW:W.heap.size≤v2:=zj hBW.size Bz.size;replace h6:=h6.below hN;replace hB:=bT (bT hB Bz) hN;replace hBW:=bT (bT hBW Bz) hN;replace HX0:=zba HX0 Bz hN;replace HX1:=zba HX1 Bz hN;have HX2:=zh x2;clear x2 hN Bz hb2;have Bz:=zr V6;clear pa1 pa2;have hbp7:W.heap.size≤V6.heap.size:=zj hBW.size Bz.size;have hlt2:v2<V6.heap.size:=zi (zx HX2 Bz).lt;with_reducible refine(putO_q (GVY.out.below (bT hBW (bT (b:=V6) Bz))) co ((RN.zero _).r' sz_zero) zo zo (zt hT hB Bz)).mono ?_
    rintro e w7 ⟨A7,n7,c7,L7,rfl,h7,on7,ep7,J⟩;replace J:=zq (a:=V6) J;replace h6:=h6.below J;replace Bz:=bT Bz J;clear J;replace ep7:prs L7=restF (prs y.L) co:=ep7;have hn7:n7≤1001:=by rw[←own_len h7,ep7];have:=rest_len (prs y.L) co;have:=HYN.out;omega
    have EP7:=zh ep7;clear ep7;have nv2_v7:some v2≠(Value.slice A7 n7 c7).ownBlock:=OwnR.off h7 hlt2;obtain⟨-,pa1,pa2,-⟩:=(zx HX0 Bz).cz;obtain⟨pc0,pc1,pc2,pc3,pc4,pc5,pc6,pc7,-⟩:=(zx HX2 Bz).cz;obtain⟨y2,fc0,fc1,fc2,fc3,fc4,fc5,fc6,fc7,-⟩:=(zx HX2 Bz).fz;refine hK.out _ _ ⟨pa1,pa2⟩ (fun _=>?_);try simp only[uW,uX,uY,uZ]
    clear hK K;refine zV ?_;try simp only[uW,uX,uY,uZ]
    refine zAb (o:=⟨none,_,_,_,_,_⟩) rfl rfl zd (fun K hK=>?_);go_simp
    refine hK.out _ _ ?_;try simp only[Act.put,uX,uY,uZ]
    clear hK K;refine zAa ?_;obtain⟨V7,hW,x,kk,far,bel⟩:=store8 (.int .i64 (k:Int)) (.int .i64 co) (.bool s6) (.slice A6 l6 c6) (.bool s6r) (.slice A6r l6r c6r) (.slice A7 n7 c7) (.slice none 0 0) (zx HX2 Bz) nofun nofun nofun nofun nofun nofun nofun nofun;rw[←hW];clear hW;replace h6:=h6.k kk;replace on7:=on7.k kk;replace h7:=h7.far2 far nv2_v7;replace hB:=bel w.heap.size w zo (bT hB Bz);replace hBW:=bel W.heap.size W zo (bT hBW Bz);replace HX0:=zf far HX0 Bz;replace HX1:=zf far HX1 Bz;replace HX2:=zh x;clear x kk far bel Bz;have Bz:=zr V7;clear pa1 pa2 pc0 pc1 pc2 pc3 pc4 pc5 pc6 pc7 fc0 fc1 fc2 fc3 fc4 fc5 fc6 fc7 y2;go_wp2_with fail
    go_meet
    case rel=>exact⟨v2,_,_,_,_,_,_,_,_,A7,n7,c7,L7,rfl,HX2.out.below (bT Bz),HX0.out.below (bT Bz),HX1.out.below (bT Bz),RN.below h6,(OwnR.below h7).rebase zo,OnT.below on7,EP7.out,hn7,nv2_v7,zo,bT (bT hB Bz),bT (bT hBW Bz)⟩
  ·go_simp
   refine hK.out _ _ ⟨(zAd pa1),(zAd pa2)⟩ (fun _=>?_);try simp only[uW,uX,uY,uZ]
   clear hK K;refine zC 24 rfl rfl (fun K hK=>?_);go_simp
   obtain⟨V6,hW,x2,hN⟩:=zAc W #[.int .i64 0,.int .i64 0,.bool false,.slice none 0 0,.bool false,.slice none 0 0,.slice none 0 0,.slice none 0 0] 74;rw[←hW];clear hW;obtain⟨v2,hb2⟩:=ze W.heap.size;rw[←hb2] at x2 ⊢;have o0_2:w.heap.size<v2:=zi (zx HX0 Bz).lt;have o1_2:(w.heap.size+1)<v2:=zi (zx HX1 Bz).lt;have ow_2:w.heap.size≤v2:=zi (zww hB Bz);have ow_2_hBW:W.heap.size≤v2:=zj hBW.size Bz.size;replace hB:=bT (bT hB Bz) hN;replace hBW:=bT (bT hBW Bz) hN;replace HX0:=zba HX0 Bz hN;replace HX1:=zba HX1 Bz hN;have HX2:=zh x2;clear x2 hN Bz hb2;have Bz:=zr V6;clear pa1 pa2;with_reducible refine(getV_q co (GVY.out.below (bT hBW (bT (b:=V6) Bz))) zo zo (zt hT hB Bz)).mono ?_
   rintro e w6 ⟨s6,A6,c6,l6,s6r,A6r,c6r,l6r,rfl,h6,J⟩;replace J:=zq (a:=V6) J;replace Bz:=bT Bz J;clear J;obtain⟨-,pa1,pa2,-⟩:=(zx HX0 Bz).cz;refine hK.out _ _ ⟨pa1,pa2⟩ (fun _=>?_);try simp only[uW,uX,uY,uZ]
   clear hK K;refine zC 29 rfl rfl (fun K hK=>?_);go_simp
   have hbp7:W.heap.size≤w6.heap.size:=zj hBW.size Bz.size;have hlt2:v2<w6.heap.size:=zi (zx HX2 Bz).lt;with_reducible refine(putO_q (GVY.out.below (bT hBW (bT (b:=w6) Bz))) co ((RN.zero _).r' sz_zero) zo zo (zt hT hB Bz)).mono ?_
   rintro e w7 ⟨A7,n7,c7,L7,rfl,h7,on7,ep7,J⟩;replace J:=zq (a:=w6) J;replace h6:=h6.below J;replace Bz:=bT Bz J;clear J;replace ep7:prs L7=restF (prs y.L) co:=ep7;have hn7:n7≤1001:=by rw[←own_len h7,ep7];have:=rest_len (prs y.L) co;have:=HYN.out;omega
   have EP7:=zh ep7;clear ep7;have nv2_v7:some v2≠(Value.slice A7 n7 c7).ownBlock:=OwnR.off h7 hlt2;clear pa1 pa2;obtain⟨-,pa1,pa2,-⟩:=(zx HX0 Bz).cz;obtain⟨pc0,pc1,pc2,pc3,pc4,pc5,pc6,pc7,-⟩:=(zx HX2 Bz).cz;obtain⟨y2,fc0,fc1,fc2,fc3,fc4,fc5,fc6,fc7,-⟩:=(zx HX2 Bz).fz;refine hK.out _ _ ⟨pa1,pa2⟩ (fun _=>?_);try simp only[uW,uX,uY,uZ]
   clear hK K;refine zV ?_;try simp only[uW,uX,uY,uZ]
   refine zAb (o:=⟨none,_,_,_,_,_⟩) rfl rfl zd (fun K hK=>?_);go_simp
   refine hK.out _ _ ?_;try simp only[Act.put,uX,uY,uZ]
   clear hK K;refine zAa ?_;obtain⟨V7,hW,x,kk,far,bel⟩:=store8 (.int .i64 (k:Int)) (.int .i64 co) (.bool s6) (.slice A6 l6 c6) (.bool s6r) (.slice A6r l6r c6r) (.slice A7 n7 c7) (.slice none 0 0) (zx HX2 Bz) nofun nofun nofun nofun nofun nofun nofun nofun;rw[←hW];clear hW;replace h6:=h6.k kk;replace on7:=on7.k kk;replace h7:=h7.far2 far nv2_v7;replace hB:=bel w.heap.size w zo (bT hB Bz);replace hBW:=bel W.heap.size W zo (bT hBW Bz);replace HX0:=zf far HX0 Bz;replace HX1:=zf far HX1 Bz;replace HX2:=zh x;clear x kk far bel Bz;have Bz:=zr V7;clear pa1 pa2 pc0 pc1 pc2 pc3 pc4 pc5 pc6 pc7 fc0 fc1 fc2 fc3 fc4 fc5 fc6 fc7 y2;go_wp2_with fail
   go_meet
   case rel=>exact⟨v2,_,_,_,_,_,_,_,_,A7,n7,c7,L7,rfl,HX2.out.below (bT Bz),HX0.out.below (bT Bz),HX1.out.below (bT Bz),RN.below h6,(OwnR.below h7).rebase zo,OnT.below on7,EP7.out,hn7,nv2_v7,zo,bT (bT hB Bz),bT (bT hBW Bz)⟩
 case rest =>
  obtain⟨sb,s,A,c,l,s',A',c',l',RA,rn,rc,RL,rfl,hxs,hx0,hx1,hrn,hrr,hrt,hre,hrn1,hsr,hsb,hB2,hBW2⟩:=hcut;obtain⟨ws,rfl,hB3⟩:∃ws,ws=_∧Below w.heap.size w ws:=⟨_,rfl,hB2⟩;replace hro:=hro.below hBW2;have hxb0:=HX0.out.lt;have hxb1:=HX1.out.lt;clear GVY HX0 HX1 hB hBW hBW2 hB2 Bz;obtain⟨wc,hwc⟩:∃x:World,x=w:=⟨_,rfl⟩;subst hwc;obtain⟨w,hw⟩:∃x:World,x=w0:=⟨_,rfl⟩;subst hw;have HB3:=zh hB3;have hBc:=h1.size;have hBS:=hB3.size;have HB0:=zh (bT h1 hB3);have HXS:=zh hxs;have HXP:=zh hx0;have HXR:=zh hx1;have HPV:=zh hrn;have HRR:=zh hrr;have HRT:=zh hrt;have HRE:=zh hre;have HRO:=zh hro;have hsbl:=hxs.lt;have HV0:Hid (∀v∈V0,∀b,(vsl v).ownBlock=some b→¬(b=g∨b=sb)):=zh (fun v hm b hb=>by
   rintro(rfl | rfl)
   ·exact(HRO0.out.ap v hm).block hb rfl
   ·have:=own_lt HRO0.out.row hm hb;omega)
  have HRZ:Hid (∀b,(Value.slice RA rn rc).ownBlock=some b→¬(b=g∨b=sb)):=zh (fun b hb=>by
   rintro(rfl | rfl)
   ·have:=HRR.out.base _ hb;omega
   ·exact hsr hb.symm)
  clear hT hsr;have hT:=hT0;clear hT0 hB3 hxs hx0 hx1 hrn hrr hrt hre hro h1;go_wp2_with fail
  go_loopg [33] n (fun gk x wr=>EL1 w wc ws g n sb (wc.heap.size+1) V0 OB k co y s A c l s' A' c' l' RA rn rc M gk x wr)
  case atStart=>exact⟨0,V0,none,0,0,[],cB _,rfl,rfl,(HRO.out.mono zo).below (by go_grown),rfl,fun _ _=>rfl,fun v hm=>⟨fun e=>HV0.out v hm sb e.symm (.inr rfl),fun e=>by have:=own_lt HRO0.out.row hm e.symm;omega⟩,fun v hm=>.inl hm,fun v hm=>(Ap.nil _).symm,OwnR.nil _ _ _ _,rfl,OnT.nil _ _,aA _,HXS.out.below (by go_grown),KP.of_below _ (by go_grown),bT HB0.out⟩
  case round =>
   obtain⟨i,V,H,tn,tc,T,hi,hgk,rfl,hro,hmp,hrs,hsv,hnw,hav,ho,hte,hon,htn,hxs,hkp,hB⟩:=hrel;have HGK:=zh hgk;have HMP:=zh hmp;have HRS:=zh hrs;have HSV:=zh hsv;have HAV:=zh hav;have HNW:=zh hnw;have HTE:=zh hte;have HX2:=zh hxs;have HX0:=zh (hkp.bx HXP.out zo);have HX1:=zh (hkp.bx HXR.out zo);have hkz:=hkp.size;clear hgk hmp hrs hsv hnw hav hte hxs;by_cases hlt:i<n
   ·obtain⟨yi,hyi0⟩:∃v,V0[i]?=some v:=⟨V0[i]'(by rw[HVL.out];exact hlt),cA _⟩;have hym:=eA hyi0;have HYI:Hid (V[i]?=some yi):=zh ((HRS.out i (aA _)).trans hyi0);have HYG:Hid ((V0.map fun v=>prs v.L).getD i []=prs yi.L):=zh (by rw[dA,qB,hyi0];rfl);have hov:=HRO.out.row.kp hkp HV0.out;have GVI:=zh (hov.gv hym (hv.out yi hym).2);have HYN:Hid ((prs yi.L).length≤1000):=zh (by rw[prs_len,(hov yi hym).1.eltn elt_vec zo];exact(hv.out yi hym).1);have hyn2:=(hv.out yi hym).1;have hsx:=on_sz (hov yi hym).2 (hv.out yi hym).2 hM2 co;obtain⟨ob,oo,rfl,helo⟩:=HOB.out.at bls_len zo zo;obtain⟨o,ho0⟩:∃o,OB[i]?=some o:=⟨OB[i]'(by rw[HLO.out];exact hlt),cA _⟩;have hnd1:ElA wc ob (oo+i) (bls o):=by have:=helo i o ho0;rwa [gD] at this
    have HOI:Hid (OB.getD i false=o):=zh (by rw[dA,ho0];rfl);have hcb:=hnd1.c0 (u:=.bool o) rfl;have hobl:=World.block_lt_of_cell? wc _ hcb;have hobg:=hoa.out _ rfl;simp only at hobl hobg
    have pB0:=(KP.after HB3.out hkp).cell hcb (by simp only;omega);have i1:(i:Int)<(n:Int):=zo;have i2:(0:Int)≤(i:Int):=zo;clear hyi0 hym hov helo ho0 hnd1 hcb;cases o
    ·have HC2:Hid ((elimUp (V0.map fun v=>prs v.L) OB co (pget (prs y.L) co) (restF (prs y.L) co) i)=(elimUp (V0.map fun v=>prs v.L) OB co (pget (prs y.L) co) (restF (prs y.L) co) (i+1))):=zh (elim_skip (fun h=>by rw[HOI.out] at h;exact absurd h.1 (by simp))).symm;go_wp2_with fail
     go_roundg (n-(i+1))
     case measure=>have:=HGK.out;omega
     case rel=>exact⟨i+1,V,H,tn,tc,T,zo,rfl,by go_num,hro.below (by go_grown),HC2.out ▸ HMP.out,fun j hj=>HRS.out j zo,HSV.out,HNW.out,HAV.out,ho.below (by go_grown),HC2.out ▸ HTE.out,hon.below (by go_grown),zo,HX2.out.below (by go_grown),hkp.below (by go_grown),bT hB⟩
    ·have hBR:=Below.refl wr.heap.size wr;go_upto_region 7 with(fail)
     go_cut [10] (fun p wx=>∃(xb:Nat) (xs:Bool) (xA:Option Addr) (xc xl:Nat) (xs':Bool) (xA':Option Addr) (xc' xl':Nat),p=.pointer (some ⟨xb,0,none⟩)∧Bx wx xb #[.bool xs,.slice xA xl xc,.bool xs',.slice xA' xl' xc'] 30∧RN wx xs xA xc xl xs' xA' xc' xl' (pget (prs yi.L) co)∧wr.heap.size≤xb∧Below w.heap.size w wx∧Below wr.heap.size wr wx)
     case first =>
      clear HX1 HX2 hkp ho hon HSV HAV HMP HTE;have Bz:=zr wr;have pa1:=(zx HX0 Bz).cell 1 (.int .i64 co) rfl;have pA0:=vc_cell hro.out HYI.out;go_wp2_with fail
      (try simp only[vA,vBa,vC])
      refine zl (.pure 0 (.pure 1 (.pure 2 (.take 3 (.pure 4 (.take 5 (.two 6 (.only 7 (.only 8 .done)) 7 (.only 6 (.only 8 .done))))))))) [8] (zsa pa1 (zIa pA0)) ?_;iterate 6 ((first|refine zV ?_|refine zUa ?_);try simp only[uW,uX,uY,uZ])
      refine wpPlan_two (o:=⟨some 47,_,_,_,_,_⟩) (o':=⟨some 10,_,_,_,_,_⟩) rfl rfl rfl rfl (fun K hK=>?_) (fun K hK=>?_)
      ·go_simp
       with_reducible refine(getV_q co (GVI.out.below (bT hBR (bT (b:=wr) Bz))) zo zo (zt hT hB Bz)).mono ?_
       rintro e w6 ⟨s6,A6,c6,l6,s6r,A6r,c6r,l6r,rfl,h6,J⟩;replace J:=zq (a:=wr) J;replace hro:=hro.below J;replace Bz:=bT Bz J;clear J;clear pa1 pA0;have pa1:=(zx HX0 Bz).cell 1 (.int .i64 co) rfl;have pA0:=vc_cell hro.out HYI.out;refine hK.out _ _ ⟨pa1,pA0⟩ (fun _=>?_);try simp only[uW,uX,uY,uZ]
       clear hK K;refine zC 10 rfl rfl (fun K hK=>?_);go_simp
       refine hK.out _ _ ⟨(zAd pa1),(zAd pA0)⟩ (fun _=>?_);try simp only[uW,uX,uY,uZ]
       clear hK K;refine zAb (o:=⟨none,_,_,_,_,_⟩) rfl rfl zd (fun K hK=>?_);go_simp
       refine hK.out _ _ ?_;try simp only[Act.put,uX,uY,uZ]
       clear hK K;refine zAa ?_;obtain⟨V6,hW,x6,hN⟩:=zAc w6 #[.bool s6,.slice A6 l6 c6,.bool s6r,.slice A6r l6r c6r] 30;rw[←hW];clear hW;obtain⟨v6,hb6⟩:=ze w6.heap.size;rw[←hb6] at x6 ⊢;have o0_6:wc.heap.size<v6:=zi (zx HX0 Bz).lt;have ow_6:w.heap.size≤v6:=zi (zww hB Bz);have ow_6_hBR:wr.heap.size≤v6:=zj hBR.size Bz.size;replace h6:=h6.below hN;replace hB:=bT (bT hB Bz) hN;replace hBR:=bT (bT hBR Bz) hN;replace HX0:=zba HX0 Bz hN;have HX6:=zh x6;clear x6 hN Bz hb6;have Bz:=zr V6;clear pa1 pA0;go_wp2_with fail
       go_meet
       case rel=>exact⟨v6,_,_,_,_,_,_,_,_,rfl,HX6.out.below (bT Bz),RN.below h6,zo,bT (bT hB Bz),bT (bT hBR Bz)⟩
      ·go_simp
       refine hK.out _ _ ⟨(zAd pa1),(zAd pA0)⟩ (fun _=>?_);try simp only[uW,uX,uY,uZ]
       clear hK K;refine zC 47 rfl rfl (fun K hK=>?_);go_simp
       obtain⟨V6,hW,x6,hN⟩:=zAc wr #[.bool false,.slice none 0 0,.bool false,.slice none 0 0] 30;rw[←hW];clear hW;obtain⟨v6,hb6⟩:=ze wr.heap.size;rw[←hb6] at x6 ⊢;have o0_6:wc.heap.size<v6:=zi (zx HX0 Bz).lt;have ow_6:w.heap.size≤v6:=zi (zww hB Bz);have ow_6_hBR:wr.heap.size≤v6:=zj hBR.size Bz.size;replace hro:=hro.below hN;replace hB:=bT (bT hB Bz) hN;replace hBR:=bT (bT hBR Bz) hN;replace HX0:=zba HX0 Bz hN;have HX6:=zh x6;clear x6 hN Bz hb6;have Bz:=zr V6;clear pa1 pA0;with_reducible refine(getV_q co (GVI.out.below (bT hBR (bT (b:=V6) Bz))) zo zo (zt hT hB Bz)).mono ?_
       rintro e w6 ⟨s6,A6,c6,l6,s6r,A6r,c6r,l6r,rfl,h6,J⟩;replace J:=zq (a:=V6) J;replace hro:=hro.below J;replace Bz:=bT Bz J;clear J;have pa1:=(zx HX0 Bz).cell 1 (.int .i64 co) rfl;obtain⟨pg0,pg1,pg2,pg3,-⟩:=(zx HX6 Bz).cz;obtain⟨y6,fg0,fg1,fg2,fg3,-⟩:=(zx HX6 Bz).fz;have pA0:=vc_cell hro.out HYI.out;refine hK.out _ _ ⟨pa1,pA0⟩ (fun _=>?_);try simp only[uW,uX,uY,uZ]
       clear hK K;refine zAb (o:=⟨none,_,_,_,_,_⟩) rfl rfl zd (fun K hK=>?_);go_simp
       refine hK.out _ _ ?_;try simp only[Act.put,uX,uY,uZ]
       clear hK K;refine zAa ?_;obtain⟨V7,hW,x,kk,far,bel⟩:=store4 (.bool s6) (.slice A6 l6 c6) (.bool s6r) (.slice A6r l6r c6r) (zx HX6 Bz) nofun nofun nofun nofun;rw[←hW];clear hW;replace h6:=h6.k kk;replace hB:=bel w.heap.size w zo (bT hB Bz);replace hBR:=bel wr.heap.size wr zo (bT hBR Bz);replace HX0:=zf far HX0 Bz;replace HX6:=zh x;clear x kk far bel Bz;have Bz:=zr V7;clear pa1 pg0 pg1 pg2 pg3 fg0 fg1 fg2 fg3 y6 pA0;go_wp2_with fail
       go_meet
       case rel=>exact⟨v6,_,_,_,_,_,_,_,_,rfl,HX6.out.below (bT Bz),RN.below h6,zo,bT (bT hB Bz),bT (bT hBR Bz)⟩
     case rest =>
      obtain⟨xb,xs,xA,xc,xl,xs',xA',xc',xl',rfl,hx4,hx,hxb,hB2,hBR2⟩:=hcut;obtain⟨wx,rfl,hB3⟩:∃wx,wx=_∧Below w.heap.size w wx:=⟨_,rfl,hB2⟩;have nv3_own:some xb≠(Value.slice H tn tc).ownBlock:=OwnR.off' ho hxb;replace hro:=hro.below hBR2;replace hkp:=hkp.below hBR2;replace ho:=ho.below hBR2;replace hon:=hon.below hBR2;have HX3:=zh hx4;replace HX0:=zh (HX0.out.below hBR2);replace HX1:=zh (HX1.out.below hBR2);replace HX2:=zh (HX2.out.below hBR2);have GVX:=zh (GVI.out.below hBR2);have HOX:=zh ho;have hox:∀b,b<ws.heap.size→some b≠(Value.slice H tn tc).ownBlock:=fun b hb=>OwnR.off ho hb;have nv0_own:=hox wc.heap.size zo;have nv1_own:=hox (wc.heap.size+1) zo;have nv2_own:=hox sb hsbl;have hpv:=HPV.out.k hkp.k;have hkz2:=hBR2.size;clear hB hB2 hBR hBR2 hx4 GVI pB0 hox;have hB:=hB3;clear hB3;have hBX:=Below.refl wx.heap.size wx;obtain⟨z,HZ⟩:∃z,Hid ((pget (prs yi.L) co).num.sign=z):=⟨_,zh rfl⟩;by_cases hz0:pget (prs yi.L) co=0
      ·have g3:(z==0)=true:=by rw[←HZ.out,hz0];rfl
       have HC2:Hid ((elimUp (V0.map fun v=>prs v.L) OB co (pget (prs y.L) co) (restF (prs y.L) co) i)=(elimUp (V0.map fun v=>prs v.L) OB co (pget (prs y.L) co) (restF (prs y.L) co) (i+1))):=zh (elim_skip (fun h=>by rw[HYG.out] at h;exact h.2 hz0)).symm;clear hz0;have Bz:=zr wx;obtain⟨pd0,pd1,pd2,pd3,-⟩:=(zx HX3 Bz).cz;go_wp2_with fail
       with_reducible refine(sign_q (R.below hx.r) zo z HZ).mono ?_
       rintro e w11 ⟨rfl,J⟩;replace J:=zq (a:=wx) J;replace hkp:=hkp.below J;replace hon:=hon.below J;replace ho:=ho.below J;replace hro:=hro.below J;replace Bz:=bT Bz J;clear J;clear pd0 pd1 pd2 pd3;go_wp2_with fail
       go_roundg (n-(i+1))
       case measure=>have:=HGK.out;omega
       case rel=>exact⟨i+1,V,H,tn,tc,T,zo,rfl,by go_num,RO.below hro,HC2.out ▸ HMP.out,fun j hj=>HRS.out j zo,HSV.out,HNW.out,HAV.out,OwnR.below ho,HC2.out ▸ HTE.out,OnT.below hon,zo,HX2.out.below (bT Bz),KP.below hkp,bT (bT hB Bz)⟩
      ·have g3:(z==0)=false:=by
        have:=sign_zero HZ.out;rw[jA hz0] at this;simpa [bne] using this
       have HST:=zh (elim_step (R:=V0.map fun v=>prs v.L) (co:=co) (pv:=pget (prs y.L) co) (rest:=restF (prs y.L) co) HOI.out (by rw[HYG.out];exact hz0));replace HMP:Hid (∀A n c L,prs L=elimRow (prs yi.L) (restF (prs y.L) co) co (pget (prs y.L) co)→(V.set i ⟨A,n,c,L⟩).map (fun v=>prs v.L)=(elimUp (V0.map fun v=>prs v.L) OB co (pget (prs y.L) co) (restF (prs y.L) co) (i+1)).1):=zh (fun A n c L e=>by rw[HST.out,List.map_set,HMP.out,HYG.out];show _=List.set _ i _;rw[←e]);have HTE2:Hid (∀r:Fr,r.q=pget (prs yi.L) co / pget (prs y.L) co→prs (T++[⟨(i:Int),r⟩])=(elimUp (V0.map fun v=>prs v.L) OB co (pget (prs y.L) co) (restF (prs y.L) co) (i+1)).2):=zh (fun r hr=>by rw[HST.out,prs_append,HTE.out,HYG.out,←hr];rfl);have hsq:sz (pget (prs yi.L) co / pget (prs y.L) co)≤(M-1)+(M-1):=sz_quo zo zo;have HSQ:sz (pget (prs yi.L) co / pget (prs y.L) co)+1≤2*M:=zo;have hsn:=sz_neg (pget (prs yi.L) co / pget (prs y.L) co);have HRG:=zh (own_gv (hkp.own HRR.out HRZ.out) ((HRT.out).k hkp.k) HRE.out (rest_nrm _ _).rise);have HAG:Hid ((Value.slice H tn tc).ownBlock≠some g):=zh (fun e=>by have:=ho.base g e;omega);clear hz0 HST;have Bz:=zr wx;obtain⟨pd0,pd1,pd2,pd3,-⟩:=(zx HX3 Bz).cz;go_wp2_with fail
       with_reducible refine(sign_q (R.below hx.r) zo z HZ).mono ?_
       rintro e w11 ⟨rfl,J⟩;replace J:=zq (a:=wx) J;replace hkp:=hkp.below J;replace hon:=hon.below J;replace ho:=ho.below J;replace hpv:=hpv.below J;replace hro:=hro.below J;replace hx:=hx.below J;replace Bz:=bT Bz J;clear J;clear pd0 pd1 pd2 pd3;obtain⟨-,-,pc2,pc3,pc4,pc5,-⟩:=(zx HX2 Bz).cz;obtain⟨pd0,pd1,pd2,pd3,-⟩:=(zx HX3 Bz).cz;go_wp2_with fail
       with_reducible refine(quo_q (R.below hx.r) (R.below hpv.r) zo (zt hT hB Bz)).mono ?_
       rintro e w12 ⟨s12,A12,c12,l12,s12r,A12r,c12r,l12r,rfl,h12,J⟩;replace J:=zq (a:=w11) J;replace hkp:=hkp.below J;replace hon:=hon.below J;replace ho:=ho.below J;replace hro:=hro.below J;replace Bz:=bT Bz J;clear J;clear pc2 pc3 pc4 pc5 pd0 pd1 pd2 pd3;go_upto_region 10 with(fail)
       obtain⟨V11,hW,x4,hN⟩:=zAc w12 #[.bool s12,.slice A12 l12 c12,.bool s12r,.slice A12r l12r c12r] 30;rw[←hW];clear hW;obtain⟨v4,hb4⟩:=ze w12.heap.size;rw[←hb4] at x4 ⊢;have o1_4:(wc.heap.size+1)<v4:=zi (zx HX1 Bz).lt;have o2_4:sb<v4:=zi (zx HX2 Bz).lt;have ow_4:w.heap.size≤v4:=zi (zww hB Bz);have nv4_own:=OwnR.off' (b:=v4) ho zo;replace h12:=h12.below hN;replace hkp:=hkp.below hN;replace hon:=hon.below hN;replace ho:=ho.below hN;replace hro:=hro.below hN;replace hB:=bT (bT hB Bz) hN;replace hBX:=bT (bT hBX Bz) hN;replace HX0:=zba HX0 Bz hN;replace HX1:=zba HX1 Bz hN;replace HX2:=zba HX2 Bz hN;replace HX3:=zba HX3 Bz hN;have HX4:=zh x4;clear x4 hN Bz hb4;have Bz:=zr V11;have pa1:=(zx HX0 Bz).cell 1 (.int .i64 co) rfl;have pc6:=(zx HX2 Bz).cell 6 (.slice RA rn rc) rfl;obtain⟨pe0,pe1,pe2,pe3,-⟩:=(zx HX4 Bz).cz;have pA0:=vc_cell hro.out HYI.out;have fA0:=hro.out.frozen i;have y50:=hro.out.blk.1;go_wp2_with fail
       (try simp only[vA,vBa,vC])
       refine zl (.pure 0 (.pure 1 (.pure 2 (.pure 3 (.pure 4 (.take 5 (.pure 6 (.take 7 (.pure 8 (.take 10 (.pure 12 (.take 13 (.only 9 (.only 11 (.only 14 (.pure 15 (.only 16 .done))))))))))))))))) [16] (zsa pa1 (zsa pc6 (zsa pe0 (zsa pe1 (zsa pe2 (zsa pe3 (zIa pA0))))))) ?_;iterate 12 ((first|refine zV ?_|refine zUa ?_);try simp only[uW,uX,uY,uZ])
       refine zC 64 rfl rfl (fun K hK=>?_);go_simp
       have hbp13:wx.heap.size≤V11.heap.size:=zj hBX.size Bz.size;have hlt4:v4<V11.heap.size:=zi (zx HX4 Bz).lt;with_reducible refine(putO_q (GVX.out.below (bT hBX (bT (b:=V11) Bz))) co ((RN.zero _).r' sz_zero) zo zo (zt hT hB Bz)).mono ?_
       rintro e w13 ⟨A13,n13,c13,L13,rfl,h13,on13,ep13,J⟩;replace J:=zq (a:=V11) J;replace h12:=h12.below J;replace hkp:=hkp.below J;replace hon:=hon.below J;replace ho:=ho.below J;replace hro:=hro.below J;replace Bz:=bT Bz J;clear J;replace ep13:prs L13=restF (prs yi.L) co:=ep13;have hn13:n13≤1001:=by rw[←own_len h13,ep13];have:=rest_len (prs yi.L) co;have:=HYN.out;omega
       have EP13:=zh ep13;clear ep13;have nv4_v13:some v4≠(Value.slice A13 n13 c13).ownBlock:=OwnR.off h13 hlt4;clear pa1 pc6 pe0 pe1 pe2 pe3 pA0 fA0 y50;have pa1:=(zx HX0 Bz).cell 1 (.int .i64 co) rfl;have pc6:=(zx HX2 Bz).cell 6 (.slice RA rn rc) rfl;obtain⟨pe0,pe1,pe2,pe3,-⟩:=(zx HX4 Bz).cz;have pA0:=vc_cell hro.out HYI.out;have fA0:=hro.out.frozen i;have y50:=hro.out.blk.1;refine hK.out _ _ ⟨pa1,pc6,pe0,pe1,pe2,pe3,pA0⟩ (fun _=>?_);try simp only[uW,uX,uY,uZ]
       clear hK K;refine zC 66 rfl rfl (fun K hK=>?_);go_simp
       with_reducible refine(negq_q (R.below h12.r) (zi hsq) (zt hT hB Bz)).mono ?_
       rintro e w14 ⟨s14,A14,c14,l14,s14r,A14r,c14r,l14r,rfl,h14,J⟩;replace J:=zq (a:=w13) J;replace h12:=h12.below J;replace hkp:=hkp.below J;replace on13:=on13.below J;replace hon:=hon.below J;replace ho:=ho.below J;replace hro:=hro.below J;replace h13:=h13.below J;replace Bz:=bT Bz J;clear J;clear pa1 pc6 pe0 pe1 pe2 pe3 pA0 fA0 y50;have pa1:=(zx HX0 Bz).cell 1 (.int .i64 co) rfl;have pc6:=(zx HX2 Bz).cell 6 (.slice RA rn rc) rfl;obtain⟨pe0,pe1,pe2,pe3,-⟩:=(zx HX4 Bz).cz;have pA0:=vc_cell hro.out HYI.out;have fA0:=hro.out.frozen i;have y50:=hro.out.blk.1;refine hK.out _ _ ⟨pa1,pc6,pe0,pe1,pe2,pe3,pA0⟩ (fun _=>?_);try simp only[uW,uX,uY,uZ]
       clear hK K;refine zC 69 rfl rfl (fun K hK=>?_);go_simp
       have hbx:wx.heap.size≤w14.heap.size:=zj hBX.size Bz.size;with_reducible refine(axpyO_q (own_gv h13 on13 EP13.out (rest_nrm _ _).rise) (R.below h14.r) (HRG.out.below (bT hBX (bT (b:=w14) Bz))) zo zo zo zo zo (zt hT hB Bz)).mono ?_
       rintro e w15 ⟨A15,n15,c15,L15,rfl,h15,on15,ep15,J⟩;replace J:=zq (a:=w14) J;replace h12:=h12.below J;replace hkp:=hkp.below J;replace hon:=hon.below J;replace ho:=ho.below J;replace hro:=hro.below J;replace Bz:=bT Bz J;clear J;replace ep15:prs L15=elimRow (prs yi.L) (restF (prs y.L) co) co (pget (prs y.L) co):=ep15;have EP15:=zh ep15;clear ep15;clear pa1 pc6 pe0 pe1 pe2 pe3 pA0 fA0 y50;have pa1:=(zx HX0 Bz).cell 1 (.int .i64 co) rfl;have pc6:=(zx HX2 Bz).cell 6 (.slice RA rn rc) rfl;obtain⟨pe0,pe1,pe2,pe3,-⟩:=(zx HX4 Bz).cz;have pA0:=vc_cell hro.out HYI.out;have fA0:=hro.out.frozen i;have y50:=hro.out.blk.1;refine hK.out _ _ ⟨pa1,pc6,pe0,pe1,pe2,pe3,pA0⟩ (fun _=>?_);try simp only[uW,uX,uY,uZ]
       clear hK K;refine zV ?_;try simp only[uW,uX,uY,uZ]
       refine zAb (o:=⟨none,_,_,_,_,_⟩) rfl rfl zd (fun K hK=>?_);go_simp
       refine hK.out _ _ ?_;try simp only[Act.put,uX,uY,uZ]
       clear hK K;have hown:=(OwnR.below h15:OwnR w15 _ _ _ _ _ _).rebase (B':=w.heap.size) (zi (zww hB Bz));have hapx:Ap (.slice A15 n15 c15) (.slice (some ⟨g,0,none⟩) n n):=.inr (fun e=>by have:=(h15).base g e;have:=hBX.size;have:=Bz.size;omega);have hsx:some sb≠(Value.slice A15 n15 c15).ownBlock∧some (wc.heap.size+1)≠(Value.slice A15 n15 c15).ownBlock:=⟨fun e=>by have:=(h15).base sb e.symm;omega,fun e=>by have:=(h15).base _ e.symm;omega⟩;have hax:Ap (.slice A15 n15 c15) (.slice H tn tc):=(Ap.old HOX.out h15 zo).symm;obtain⟨V12,hV,hro2,hg2⟩:=RO.store (RO.below hro) HYI.out (x:=⟨A15,n15,c15,L15⟩) hown ((OnT.below on15).mono fun _ _=>by omega) hapx;rw[←hV];clear hV;replace hB:=(bT hB Bz).trans (hg2.below (zi (zww hB Bz)) (rowB zo));replace HSV:Hid (∀v∈V.set i ⟨A15,n15,c15,L15⟩,some sb≠(vsl v).ownBlock∧some (wc.heap.size+1)≠(vsl v).ownBlock):=zh (fun v hv=>by rcases qC hv with hv | rfl;exact HSV.out v hv;exact hsx);replace HNW:Hid (∀v∈V.set i ⟨A15,n15,c15,L15⟩,v∈V0∨∀b,(vsl v).ownBlock=some b→wc.heap.size≤b):=zh (fun v hv=>by rcases qC hv with hv | rfl;exact HNW.out v hv;exact .inr (fun b e=>by have:=(h15).base b e;omega));replace HAV:Hid (ApV (.slice H tn tc) (V.set i ⟨A15,n15,c15,L15⟩)):=zh (fun v hv=>by rcases qC hv with hv | rfl;exact HAV.out v hv;exact hax);replace HMP:=zh (HMP.out A15 n15 c15 L15 EP15.out);replace HX0:=zh (hg2.bx (zx HX0 Bz) (rowN zo));replace HX1:=zh (hg2.bx (zx HX1 Bz) (rowN zo));replace HX2:=zh (hg2.bx (zx HX2 Bz) (rowN zo));replace HX3:=zh (hg2.bx (zx HX3 Bz) (rowN zo));replace HX4:=zh (hg2.bx (zx HX4 Bz) (rowN zo));replace hkp:=KP.grew hkp hg2 (fun t ht _=>by cases ht;exact .inl rfl);replace ho:=OwnR.grown ho hg2 (.inr fun e=>by have:=(ho).base g e;omega);replace h12:=h12.k hg2.k;replace hon:=hon.k hg2.k;replace hro:=hro2;clear hro2 hg2 Bz hown hapx hsx hax;have Bz:=zr V12;clear pa1 pc6 pe0 pe1 pe2 pe3 pA0 fA0 y50;have pa1:=(zx HX0 Bz).cell 1 (.int .i64 co) rfl;obtain⟨-,-,-,-,-,-,pc6,pc7,-⟩:=(zx HX2 Bz).cz;obtain⟨pe0,pe1,pe2,pe3,-⟩:=(zx HX4 Bz).cz;refine zAa ?_;go_wp2_with (at_builtin;refine And.left (b:=True) ?_)
       refine⟨?_,trivial⟩;obtain⟨V13,hW,x5,hN⟩:=zAc V12 #[.int .i64 (i:Int),.bool s12,.slice A12 l12 c12,.bool s12r,.slice A12r l12r c12r] 32;rw[←hW];clear hW;obtain⟨v5,hb5⟩:=ze V12.heap.size;rw[←hb5] at x5 ⊢;have o1_5:(wc.heap.size+1)<v5:=zi (zx HX1 Bz).lt;have o2_5:sb<v5:=zi (zx HX2 Bz).lt;have ow_5:w.heap.size≤v5:=zi (zww hB Bz);have nv5_own:=OwnR.off' (b:=v5) ho zo;replace h12:=h12.below hN;replace hkp:=hkp.below hN;replace hon:=hon.below hN;replace ho:=ho.below hN;replace hro:=hro.below hN;replace hB:=bT (bT hB Bz) hN;replace HX0:=zba HX0 Bz hN;replace HX1:=zba HX1 Bz hN;replace HX2:=zba HX2 Bz hN;replace HX3:=zba HX3 Bz hN;replace HX4:=zba HX4 Bz hN;have HX5:=zh x5;clear x5 hN Bz hb5;have Bz:=zr V13;clear pa1 pc6 pc7 pe0 pe1 pe2 pe3;have hdr:V13.drew.heap.size=V13.heap.size:=rfl;have hdr2:V13.drew.drew.heap.size=V13.heap.size:=rfl;refine Elt.app elt_vec rfl (.tmp 72) (.tmp 76) rfl (ws.heap.size) (.slice H tn tc) (tn) (T) rfl ho (.slice (some ⟨v5,0,none⟩) 1 1) (1) ([⟨(i:Int),⟨s12,A12,c12,l12,s12r,A12r,c12r,l12r,pget (prs yi.L) co / pget (prs y.L) co,true⟩⟩]) rfl (From.one (HX5.out.below (bT Bz)) (⟨(i:Int),⟨s12,A12,c12,l12,s12r,A12r,c12r,l12r,pget (prs yi.L) co / pget (prs y.L) co,true⟩⟩) rfl (elt_vec.len _)) zo (zj (KP.size hkp) Bz.size) ?_;intro H16 c16 w16 ho16 hg16;replace hB:=(bT (bT hB Bz)).trans (hg16.below (zi (zww hB Bz)) (fun g hg=>by have:=ho.base g hg;omega));have nv0_own16:=hg16.ne (zx HX0 Bz).lt nv0_own;replace HX0:=zh (hg16.bx (zx HX0 Bz) nv0_own);have nv1_own16:=hg16.ne (zx HX1 Bz).lt nv1_own;replace HX1:=zh (hg16.bx (zx HX1 Bz) nv1_own);have nv2_own16:=hg16.ne (zx HX2 Bz).lt nv2_own;replace HX2:=zh (hg16.bx (zx HX2 Bz) nv2_own);have nv3_own16:=hg16.ne (zx HX3 Bz).lt nv3_own;replace HX3:=zh (hg16.bx (zx HX3 Bz) nv3_own);have nv4_own16:=hg16.ne (zx HX4 Bz).lt nv4_own;replace HX4:=zh (hg16.bx (zx HX4 Bz) nv4_own);have nv5_own16:=hg16.ne (zx HX5 Bz).lt nv5_own;replace HX5:=zh (hg16.bx (zx HX5 Bz) nv5_own);have HAV2:=zh (ApV.grew HAV.out (RO.row hro) hg16);clear hdr hdr2;replace h12:=h12.k hg16.k;replace hkp:=hkp.grew hg16 (fun t ht hl=>by have:=ho.base t ht;omega);replace hon:=hon.k hg16.k;replace hro:=hro.grown hg16 (HAG.out) HAV.out;clear hg16 Bz;have Bz:=zr w16;have pc7:=(zx HX2 Bz).cell 7 (.slice H tn tc) rfl;obtain⟨y2,-,-,-,-,-,-,-,fc7,-⟩:=(zx HX2 Bz).fz;go_upto_region 12 with(fail)
       obtain⟨V14,hW,x,kk,far,bel⟩:=st8_7_1 (.slice H16 (tn+1) c16) (zx HX2 Bz) nofun;have hzV14:V14.heap.size=w16.heap.size:=by rw[hW];simp
       have hhp:∀k,k≠sb→V14.heap[k]?=w16.heap[k]?:=fun k hk=>by rw[hW];exact heap_setCell_other _ _ _ _ hk
       rw[←hW];clear hW;replace h12:=h12.k kk;replace hkp:=hkp.set zo kk hhp (fun _=>.inr rfl);replace hon:=hon.k kk;replace ho16:=ho16.far2 far nv2_own16;replace hro:=hro.far2 far kk zo (fun v hv=>(HSV.out v hv).1);replace hB:=bel w.heap.size w zo (bT hB Bz);replace HX0:=zf far HX0 Bz;replace HX1:=zf far HX1 Bz;replace HX3:=zf far HX3 Bz;replace HX4:=zf far HX4 Bz;replace HX5:=zf far HX5 Bz;replace HX2:=zh x;clear x kk far bel Bz;have Bz:=zr V14;clear pc7 fc7 y2;go_wp2_with fail
       go_roundg (n-(i+1))
       case measure=>have:=HGK.out;omega
       case rel=>exact⟨i+1,_,_,_,_,_,zo,rfl,by go_num,RO.below hro,HMP.out,fun j hj=>by rw[dD zo];exact HRS.out j zo,HSV.out,HNW.out,HAV2.out,OwnR.below ho16,HTE2.out _ rfl,OnT.below (OnT.snoc hon h12 rfl HSQ) (by go_grown),zo,HX2.out.below (bT Bz),KP.below hkp,bT (bT hB Bz)⟩
   ·obtain rfl:i=n:=zo;have i1:¬(i:Int)<(i:Int):=zo;have hkq:KP (fun b=>b=g) wc wr:=(KP.after HB3.out hkp).mono (fun b hb hz=>by
     rcases hz with rfl | rfl
     ·rfl
     ·omega)
    have hrr:=hkp.own HRR.out HRZ.out;have hrt:=HRT.out.k hkp.k;have hpv:=HPV.out.k hkp.k;have nv1_own:some (wc.heap.size+1)≠(Value.slice H tn tc).ownBlock:=OwnR.off ho zo;have nv1_rr:some (wc.heap.size+1)≠(Value.slice RA rn rc).ownBlock:=OwnR.off hrr zo;clear hkp;have Bz:=zr wr;obtain⟨pb0,pb1,pb2,pb3,pb4,pb5,pb6,pb7,-⟩:=(zx HX1 Bz).cz;obtain⟨y1,fb0,fb1,fb2,fb3,fb4,fb5,fb6,fb7,-⟩:=(zx HX1 Bz).fz;obtain⟨pc0,pc1,pc2,pc3,pc4,pc5,pc6,pc7,-⟩:=(zx HX2 Bz).cz;go_wp2_with fail
    (try simp only[Exit.inBlock,Exit.then])
    refine bodyPost_ret (by simp[results,Tryz.results39,go_sem,pb0,pb1,pb2,pb3,pb4,pb5,pb6,pb7];try rfl) rfl ?_;obtain⟨V21,hW,x,kk,far,bel⟩:=store8 (.int .i64 (k:Int)) (.int .i64 co) (.bool s) (.slice A l c) (.bool s') (.slice A' l' c') (.slice RA rn rc) (.slice H tn tc) (zx HX1 Bz) nofun nofun nofun nofun nofun nofun nofun nofun;have hzV21:V21.heap.size=wr.heap.size:=by rw[hW];simp
    have hhp:∀k,k≠wc.heap.size+1→V21.heap[k]?=wr.heap[k]?:=fun k hk=>by rw[hW,heap_setCell_other _ _ _ _ (by exact hk),heap_setCell_other _ _ _ _ (by exact hk),heap_setCell_other _ _ _ _ (by exact hk),heap_setCell_other _ _ _ _ (by exact hk),heap_setCell_other _ _ _ _ (by exact hk),heap_setCell_other _ _ _ _ (by exact hk),heap_setCell_other _ _ _ _ (by exact hk),heap_setCell_other _ _ _ _ (by exact hk)]
    rw[←hW];clear hW;replace hkq:=hkq.set zo kk hhp (fun c=>absurd c zo);replace hon:=hon.k kk;replace hrt:=hrt.k kk;replace ho:=ho.far2 far nv1_own;replace hpv:=hpv.k kk;replace hro:=hro.far2 far kk zo (fun v hv=>(HSV.out v hv).2);replace hrr:=hrr.far2 far nv1_rr;replace hB:=bel w.heap.size w zo (bT hB Bz);replace HX0:=zf far HX0 Bz;replace HX2:=zf far HX2 Bz;replace HX1:=zh x;clear x kk far bel Bz;have Bz:=zr V21;have hF:=bT (c:=V21) hB Bz;exact⟨s,A,c,l,s',A',c',l',RA,rn,rc,RL,H,tn,tc,T,V,rfl,RN.below hpv,(OwnR.below hrr).rebase zo,OnT.below hrt,HRE.out,(OwnR.below ho).rebase zo,OnT.below hon,HTE.out,RO.below hro,HNW.out,HMP.out,KP.below hkq,bT hF⟩
structure StM where
 row:Int
 col:Int
 pv:Fr
 R:Vc
 T:Vc
def StM.cs (s:StM):List Value:=[.int .i64 s.row,.int .i64 s.col,.bool s.pv.s,.slice s.pv.A s.pv.l s.pv.c,.bool s.pv.s',.slice s.pv.A' s.pv.l' s.pv.c',.slice s.R.A s.R.n s.R.c,.slice s.T.A s.T.n s.T.c]
theorem StM.cs_len (s:StM):s.cs.length=8:=rfl
def StM.f (s:StM):StepF:=⟨s.row,s.col,s.pv.q,prs s.R.L,prs s.T.L⟩
theorem elt_st:Elt StM.cs 8 66 74:=Elt.of (.agg #[.int .i64 0,.int .i64 0,.bool false,.slice none 0 0,.bool false,.slice none 0 0,.slice none 0 0,.slice none 0 0]) 128 Tryz.underlying66 (by kernel_rfl) zo (by kernel_rfl) (nou_list (by kernel_rfl)) StM.cs_len
 (fun s u hu=>by simp[StM.cs] at hu;rcases hu with rfl | rfl | rfl | rfl | rfl | rfl | rfl | rfl<;>rfl) (fun s u hu n=>by simp[StM.cs] at hu;rcases hu with rfl | rfl | rfl | rfl | rfl | rfl | rfl | rfl<;>simp)
structure StOwn (w:World) (B K:Nat) (s:StM):Prop where
 pv:RN w s.pv.s s.pv.A s.pv.c s.pv.l s.pv.s' s.pv.A' s.pv.c' s.pv.l' s.pv.q∧s.pv.ex=true∧sz s.pv.q+1≤K
 r:OwnR w B 32 5 (vsl s.R) s.R.n (flat Tm.cs s.R.L)∧OnT w s.R.L (fun _=>K)
 t:OwnR w B 32 5 (vsl s.T) s.T.n (flat Tm.cs s.T.L)∧OnT w s.T.L (fun _=>K)
theorem StOwn.below {w w':World} {B K:Nat} {s:StM} (h:StOwn w B K s) (hb:Below w.heap.size w w':=by go_grown):StOwn w' B K s:=⟨⟨h.pv.1.below hb,h.pv.2⟩,⟨h.r.1.below hb,h.r.2.below hb⟩,⟨h.t.1.below hb,h.t.2.below hb⟩⟩
theorem StOwn.mono {w:World} {B K K':Nat} {s:StM} (h:StOwn w B K s) (hK:K≤K'):StOwn w B K' s:=⟨⟨h.pv.1,h.pv.2.1,by have:=h.pv.2.2;omega⟩,⟨h.r.1,h.r.2.mono fun _ _=>hK⟩,⟨h.t.1,h.t.2.mono fun _ _=>hK⟩⟩
theorem StOwn.grown {w w':World} {B K:Nat} {s:StM} {x y:Value} (h:StOwn w B K s) (hg:Grew w w' x y) (hr:Ap (vsl s.R) x) (ht:Ap (vsl s.T) x):StOwn w' B K s :=
 ⟨⟨h.pv.1.k hg.k,h.pv.2⟩,⟨h.r.1.grown hg hr,h.r.2.k hg.k⟩,⟨h.t.1.grown hg ht,h.t.2.k hg.k⟩⟩
theorem StOwn.kp {Z:Nat→Prop} {w w':World} {B K:Nat} {s:StM} (h:StOwn w B K s) (hk:KP Z w w') (hr:∀b,(vsl s.R).ownBlock=some b→¬Z b) (ht:∀b,(vsl s.T).ownBlock=some b→¬Z b):StOwn w' B K s :=
 ⟨⟨h.pv.1.k hk.k,h.pv.2⟩,⟨hk.own h.r.1 hr,h.r.2.k hk.k⟩,⟨hk.own h.t.1 ht,h.t.2.k hk.k⟩⟩
theorem StOwn.far2 {w w':World} {B K b:Nat} {s:StM} (h:StOwn w B K s) (far:∀b' cs t',b'≠b→Bx w b' cs t'→Bx w' b' cs t') (hk:K64 w w') (hr:some b≠(vsl s.R).ownBlock) (ht:some b≠(vsl s.T).ownBlock):StOwn w' B K s :=
 ⟨⟨h.pv.1.k hk,h.pv.2⟩,⟨h.r.1.far2 far hr,h.r.2.k hk⟩,⟨h.t.1.far2 far ht,h.t.2.k hk⟩⟩
def vsOf (LS:List StM):List Vc:=LS.flatMap fun s=>[s.R,s.T]
theorem vsOf_r {LS:List StM} {s:StM} (h:s∈LS):s.R∈vsOf LS:=List.mem_flatMap.2 ⟨s,h,by simp⟩
theorem vsOf_t {LS:List StM} {s:StM} (h:s∈LS):s.T∈vsOf LS:=List.mem_flatMap.2 ⟨s,h,by simp⟩
theorem vsOf_app (LS:List StM) (s:StM):vsOf (LS++[s])=vsOf LS++[s.R,s.T]:=by unfold vsOf;rw[List.flatMap_append];rfl
theorem Ap.of_ne {v:Value} {g n c:Nat} (h:some g≠v.ownBlock):Ap v (.slice (some ⟨g,0,none⟩) n c):=.inr fun e=>h (by rw[e];rfl)
structure OffV (g ob fb:Nat) (X:Value) (v:Vc):Prop where
 g:some g≠(vsl v).ownBlock
 o:some ob≠(vsl v).ownBlock
 f:some fb≠(vsl v).ownBlock
 x:Ap (vsl v) X
structure FM (w:World) (B g ob fb n i:Nat) (H:Option Addr) (hc:Nat) (X:Value) (V:List Vc) (OB:List Bool) (LS:List StM) (M:Nat) (K:Nat→Nat):Prop where
 rows:RO w B g n V M
 opn:OwnR w B 4 1 (.slice (some ⟨ob,0,none⟩) n n) n (flat bls OB)
 stp:OwnR w B 74 8 (.slice H i hc) i (flat StM.cs LS)
 st:∀j s,LS[j]?=some s→StOwn w B (K j) s
 box:Bx w fb #[.bool true,.int .i64 (n:Int),X] 68
 fB:B≤fb
 go:g≠ob
 gf:fb≠g
 fo:fb≠ob
 gH:some g≠(Value.slice H i hc).ownBlock
 oH:some ob≠(Value.slice H i hc).ownBlock
 fH:some fb≠(Value.slice H i hc).ownBlock
 vec:∀v∈V,OffV g ob fb (.slice H i hc) v
 svec:∀v∈vsOf LS,OffV g ob fb (.slice H i hc) v
section
variable {w w':World} {B g ob fb n i:Nat} {H:Option Addr} {hc:Nat} {X:Value} {V:List Vc} {OB:List Bool} {LS:List StM} {M:Nat} {K:Nat→Nat}
theorem FM.below (h:FM w B g ob fb n i H hc X V OB LS M K) (hb:Below w.heap.size w w':=by go_grown):FM w' B g ob fb n i H hc X V OB LS M K :=
 ⟨h.rows.below hb,h.opn.below hb,h.stp.below hb,fun j s hs=>(h.st j s hs).below hb,h.box.below hb,h.fB,h.go,h.gf,h.fo,h.gH,h.oH,h.fH,h.vec,h.svec⟩
theorem FM.mono {M':Nat} (h:FM w B g ob fb n i H hc X V OB LS M K) (hM:M≤M'):FM w B g ob fb n i H hc X V OB LS M' K :=
 ⟨h.rows.mono hM,h.opn,h.stp,h.st,h.box,h.fB,h.go,h.gf,h.fo,h.gH,h.oH,h.fH,h.vec,h.svec⟩
theorem FM.lens (h:FM w B g ob fb n i H hc X V OB LS M K):V.length=n∧OB.length=n∧LS.length=i:=⟨h.rows.len,h.opn.eltn elt_bls zo,h.stp.eltn elt_st zo⟩
theorem FM.shut {k:Nat} {y:Bool} (h:FM w B g ob fb n i H hc X V OB LS M K) (hy:OB[k]?=some y) :
  ∃W,W=w.setCell ⟨ob,k,none⟩ (.bool false)∧FM W B g ob fb n i H hc X V (OB.set k false) LS M K∧Grew w W (.slice (some ⟨ob,0,none⟩) n n) (.slice (some ⟨ob,0,none⟩) n n):=by
 obtain⟨W,hW,h1,h2⟩:=bl_store h.opn hy false;refine⟨W,hW,⟨h.rows.grown h2 (fun e=>h.go (Option.some.inj e).symm) (fun v hv=>Ap.of_ne (h.vec v hv).o),h1,h.stp.grown h2 (Ap.of_ne h.oH),fun j s hs=>(h.st j s hs).grown h2 (Ap.of_ne (h.svec _ (vsOf_r (eA hs))).o) (Ap.of_ne (h.svec _ (vsOf_t (eA hs))).o),h2.bx h.box (fun e=>h.fo (Option.some.inj e)),h.fB,h.go,h.gf,h.fo,h.gH,h.oH,h.fH,h.vec,h.svec⟩,h2⟩
theorem FM.elim {V':List Vc} {M':Nat} (h:FM w B g ob fb n i H hc X V OB LS M K) (hr:RO w' B g n V' M') (hk:KP (fun b=>b=g) w w') (hn:∀v∈V',v∈V∨∀b,(vsl v).ownBlock=some b→w.heap.size≤b):FM w' B g ob fb n i H hc X V' OB LS M' K:=by
 have hg:=h.rows.base.2;have ho:=h.opn.lt ob rfl;have hf:=h.box.lt;refine⟨hr,hk.own h.opn (fun b e=>by cases e;exact fun e2=>h.go e2.symm),hk.own h.stp (fun b e e2=>h.gH (by rw[e,e2])),fun j s hs=>(h.st j s hs).kp hk (fun b e e2=>(h.svec _ (vsOf_r (eA hs))).g (by rw[e,e2])) (fun b e e2=>(h.svec _ (vsOf_t (eA hs))).g (by rw[e,e2])),hk.bx h.box h.gf,h.fB,h.go,h.gf,h.fo,h.gH,h.oH,h.fH,fun v hv=>?_,h.svec⟩;rcases hn v hv with hv | hv
 ·exact h.vec v hv
 ·refine⟨fun e=>?_,fun e=>?_,fun e=>?_,?_⟩
  ·have:=hv g e.symm;omega
  ·have:=hv ob e.symm;omega
  ·have:=hv fb e.symm;omega
  ·cases e:(vsl v).ownBlock with
   | none=>exact .inl e
   | some b=>exact .inr fun e2=>by have h1:=hv b e;have h2:=h.stp.lt b (e2.symm.trans e);omega
theorem FM.app {s:StM} {H':Option Addr} {hc':Nat} (h:FM w B g ob fb n i H hc X V OB LS M K) (hs:StOwn w B (K i) s) (hr:OffV g ob fb (.slice H i hc) s.R) (ht:OffV g ob fb (.slice H i hc) s.T)
  (ho:OwnR w' B 74 8 (.slice H' (i+1) hc') (i+1) (flat StM.cs (LS++[s]))) (hg:Grew w w' (.slice H i hc) (.slice H' (i+1) hc')):FM w' B g ob fb n (i+1) H' hc' X V OB (LS++[s]) M K:=by
 have hgl:=h.rows.base.2;have hol:=h.opn.lt ob rfl;have hfl:=h.box.lt;have hv:∀v∈vsOf (LS++[s]),OffV g ob fb (.slice H i hc) v∧OwnR w B 32 5 (vsl v) v.n (flat Tm.cs v.L):=fun v hv=>by
  rw[vsOf_app] at hv;rcases nC.1 hv with hv | hv
  ·obtain⟨u,hu,hvu⟩:=List.mem_flatMap.1 hv;refine⟨h.svec v hv,?_⟩;simp only[rB,fG,or_false] at hvu
   obtain⟨j,hj⟩:=rD hu;rcases hvu with rfl | rfl
   ·exact(h.st j u hj).r.1
   ·exact(h.st j u hj).t.1
  ·simp only[rB,fG,or_false] at hv
   rcases hv with rfl | rfl
   ·exact⟨hr,hs.r.1⟩
   ·exact⟨ht,hs.t.1⟩
 refine⟨h.rows.grown hg (fun e=>h.gH e.symm) (fun v hv=>(h.vec v hv).x),h.opn.grown hg (.inr fun e=>h.oH e),ho,fun j u hu=>?_,hg.bx h.box h.fH,h.fB,h.go,h.gf,h.fo,hg.ne hgl h.gH,hg.ne hol h.oH,hg.ne hfl h.fH,fun v hm=>?_,fun v hm=>?_⟩
 ·have hl:=h.stp.eltn elt_st zo;by_cases hj:j<LS.length
  ·rw[uF hj] at hu;have hm:=eA hu;exact(h.st j u hu).grown hg (h.svec _ (vsOf_r hm)).x (h.svec _ (vsOf_t hm)).x
  ·rw[xD zo] at hu;have hj2:j-LS.length=0:=by
    rcases xC (j-LS.length) with h9 | h9
    ·exact h9
    ·rw[eB (by simp;omega)] at hu;cases hu
   rw[hj2] at hu;obtain rfl:s=u:=Option.some.inj hu;obtain rfl:j=i:=zo;exact hs.grown hg hr.x ht.x
 ·have h1:=h.vec v hm;exact⟨h1.g,h1.o,h1.f,hg.ap (h.rows.row v hm).1 h1.x⟩
 ·obtain⟨h1,h2⟩:=hv v hm;exact⟨h1.g,h1.o,h1.f,hg.ap h2 h1.x⟩
theorem FM.put {Y:Value} (h:FM w B g ob fb n i H hc X V OB LS M K) (far:∀b' cs t',b'≠fb→Bx w b' cs t'→Bx w' b' cs t') (hk:K64 w w') (hx:Bx w' fb #[.bool true,.int .i64 (n:Int),Y] 68):FM w' B g ob fb n i H hc Y V OB LS M K :=
 ⟨h.rows.far2 far hk h.gf (fun v hv=>(h.vec v hv).f),h.opn.far2 far (fun e=>h.fo (Option.some.inj e)),h.stp.far2 far h.fH,fun j s hs=>(h.st j s hs).far2 far hk (h.svec _ (vsOf_r (eA hs))).f (h.svec _ (vsOf_t (eA hs))).f,hx,h.fB,h.go,h.gf,h.fo,h.gH,h.oH,h.fH,h.vec,h.svec⟩
end
structure StRd (w:World) (K:Nat) (s:StM):Prop where
 pv:RN w s.pv.s s.pv.A s.pv.c s.pv.l s.pv.s' s.pv.A' s.pv.c' s.pv.l' s.pv.q∧s.pv.ex=true∧sz s.pv.q+1≤K
 r:CN w s.R K
 t:CN w s.T K
 ra:∀a,s.R.A=some a→a.block<w.heap.size
 ta:∀a,s.T.A=some a→a.block<w.heap.size
theorem own_adr {w:World} {B n c k m:Nat} {e:TypeId} {A:Option Addr} {xs:List Value} (h:OwnR w B e k (.slice A n c) m xs):∀a,A=some a→a.block<w.heap.size:=fun a ha=>by
 obtain⟨H,c2,e9,_,h9,_⟩:=h.slice;cases e9;obtain⟨g,rfl⟩:=h9 a ha;subst ha;exact h.lt g rfl
theorem StRd.below {w w':World} {K:Nat} {s:StM} (h:StRd w K s) (hb:Below w.heap.size w w':=by go_grown):StRd w' K s:=⟨⟨h.pv.1.below hb,h.pv.2⟩,h.r.below hb,h.t.below hb,fun a ha=>dB (h.ra a ha) hb.size,fun a ha=>dB (h.ta a ha) hb.size⟩
def LuM (w:World) (fb n:Nat) (ST:List StepF) (K:Nat→Nat):Prop :=
 ∃(H:Option Addr) (hc:Nat) (LS:List StM),Bx w fb #[.bool true,.int .i64 (n:Int),.slice H n hc] 68∧Sl StM.cs 8 w H n hc LS∧(∀i s,LS[i]?=some s→StRd w (K i) s)∧LS.map StM.f=ST
theorem LuM.below {w w':World} {fb n:Nat} {K:Nat→Nat} {ST:List StepF} (h:LuM w fb n ST K) (hb:Below w.heap.size w w':=by go_grown):LuM w' fb n ST K:=by
 obtain⟨H,hc,LS,h1,h2,h3,h4⟩:=h;exact⟨H,hc,LS,h1.below hb,h2.below hb,fun i s hs=>(h3 i s hs).below hb,h4⟩
theorem FM.lu {w:World} {B g ob fb n:Nat} {H:Option Addr} {hc:Nat} {V:List Vc} {OB:List Bool} {LS:List StM} {M:Nat} {K:Nat→Nat} (h:FM w B g ob fb n n H hc (.slice H n hc) V OB LS M K):LuM w fb n (LS.map StM.f) K :=
 ⟨H,hc,LS,h.box,h.stp.sl' elt_st h.lens.2.2,fun i s hs=>⟨(h.st i s hs).pv,own_cn (h.st i s hs).r.1 (h.st i s hs).r.2,own_cn (h.st i s hs).t.1 (h.st i s hs).t.2,own_adr (h.st i s hs).r.1,own_adr (h.st i s hs).t.1⟩,rfl⟩
def qs (D:List Fr):List Rat:=D.map fun x=>x.q
def numF (L:List Rat) (a:Int):Rat:=if 0≤a then L.getD a.toNat 0 else 0
theorem numF_at {D:List Fr} {a:Int} {y:Fr} (h:0≤a) (hy:D[a.toNat]?=some y):numF (qs D) a=y.q:=by
 unfold numF qs
 rw[zA h,dA,qB,hy];rfl
theorem AllRn.mono {w:World} {K K':Nat} {L:List Fr} (h:AllRn w K L) (hK:K≤K'):AllRn w K' L:=fun x hx=>⟨(h x hx).1,(h x hx).2.1,by have:=(h x hx).2.2;omega⟩
theorem ev_snoc {T:List Tm} {i:Nat} {x:Tm} (h:T[i]?=some x) (f:Int→Rat):ev (prs (T.take (i+1))) f=ev (prs (T.take i)) f+x.x.q*f x.at_:=by
 rw[take_snoc h,prs_append,ev_append];show _+(x.x.q*f x.at_+0)=_
 rw[wC]
def LS1 (w:World) (q:Rat) (T:List Tm) (f:Int→Rat) (n S K gk:Nat) (x:Value) (wr:World):Prop :=
 ∃(i:Nat) (sS:Bool) (sA:Option Addr) (sc sl:Nat) (sS':Bool) (sA':Option Addr) (sc' sl':Nat),i≤n∧n-i=gk∧x=.int .i64 (i:Int)∧RN wr sS sA sc sl sS' sA' sc' sl' (q-ev (prs (T.take i)) f)∧sz (q-ev (prs (T.take i)) f)+1≤S+i*K∧
  Bx wr w.heap.size #[.bool sS,.slice sA sl sc,.bool sS',.slice sA' sl' sc'] 30∧Bx wr (w.heap.size+1) #[.bool false,.slice none 0 0,.bool false,.slice none 0 0] 30∧Below w.heap.size w wr
def TellsNm (w:World) (q:Rat) (K:Nat) (e:Ending) (w':World):Prop:=∃s A c l s' A' c' l',e=.returned (.agg #[.bool s,.slice A l c,.bool s',.slice A' l' c'])∧RN w' s A c l s' A' c' l' q∧sz q+1≤K∧Below w.heap.size w w'
theorem lessL_q {w:World} {s s':Bool} {A A':Option Addr} {c l c' l':Nat} {q:Rat} {S K KX KB:Nat} {X BA:Option Addr} {n cx bn bc:Nat} {v:Vc} {BL:List Fr} (ha:RN w s A c l s' A' c' l' q) (hS:sz q+1≤S) (hv:v.A=X∧v.n=n∧v.c=cx) (h:CN w v K) (hb:Sl Fr.cs 4 w BA bn bc BL) (hbf:Hid (AllRn w KB BL)) (hbx:Hid (∀t∈prs v.L,∀y,BL[t.1.toNat]?=some y→sz y.q+1≤KX))
  (hin:Hid (∀t∈prs v.L,0≤t.1∧t.1<(bn:Int))) (hn:n≤1000) (hbn:bn≤1000) (hD:S+n*(K+KX)≤35000000000) (hT:Hid (Tab w)) :
  Calls Tryz.prog 43 #[.agg #[.bool s,.slice A l c,.bool s',.slice A' l' c'],.slice X n cx,.slice BA bn bc] w (TellsNm w (q-ev (prs v.L) (numF (qs BL))) (S+n*(K+KX))):=by
 obtain⟨VA,vn,vc,T⟩:=v;obtain⟨rfl,rfl,rfl⟩:=hv;obtain⟨h1,h2,h3⟩:=h;simp only at h1 h2 h3 hn hD hbx ⊢
 have HS:=zh h1;have HLN:=zh h1.1;have HON:=zh h2;have HB:=zh hb;have HLB:=zh hb.1;obtain⟨f,hf⟩:∃f,f=numF (qs BL):=⟨_,rfl⟩;have HF:=zh hf;rw[←hf];obtain⟨KK,hKK⟩:∃k,k=K+KX:=⟨_,rfl⟩;rw[←hKK] at hD ⊢;have HQ0:Hid (q-ev (prs (T.take 0)) f=q):=zh (by rw[yE];show q-0=q;grind);clear h1 h2 h3 hb hf;obtain⟨W,hW,x0,x1,hB⟩:=boxes2 w #[.bool s,.slice A l c,.bool s',.slice A' l' c'] 30 #[.bool false,.slice none 0 0,.bool false,.slice none 0 0] 30;replace ha:=ha.below hB;have HX0:=zh x0;have HX1:=zh x1;clear x0 x1;have Bz:=zr W;go_enter Tryz.func43,Tryz.ntmps43
 go_wp2_with fail
 rw[←hW];clear hW;go_wp2_with fail
 have HB1:=zh (bT hB Bz);have XX0:=zh (zx HX0 Bz);have XX1:=zh (zx HX1 Bz);have HA1:=zh ha;clear hB Bz HX0 HX1 ha;go_loopg [11] vn (fun gk x wr=>LS1 w q T f vn S KK gk x wr)
 case atStart=>exact⟨0,_,_,_,_,_,_,_,_,cB _,rfl,rfl,by rw[HQ0.out];exact HA1.out.below (by go_grown),by rw[HQ0.out];omega,XX0.out.below (by go_grown),XX1.out.below (by go_grown),bT HB1.out⟩
 case round =>
  clear HA1 XX0 XX1 HB1 HQ0;obtain⟨i,sS,sA,sc,sl,sS',sA',sc',sl',hi,hgk,rfl,ha,hsz,hx0,hx1,hB⟩:=hrel;have HGK:=zh hgk;have HX0:=zh hx0;have HX1:=zh hx1;clear hgk hx0 hx1;by_cases hlt:i<vn
  ·obtain⟨eb,eo,rfl,hel⟩:=HS.out.at Tm.cs_len zo zo;obtain⟨x,hx⟩:∃x,T[i]?=some x:=⟨T[i]'(by rw[HLN.out];exact hlt),cA _⟩;have hnd:=hel i x hx;have hxm:=eA hx;have hxr:0≤x.at_∧x.at_<(bn:Int):=hin.out (x.at_,x.x.q) (rC.2 ⟨x,hxm,rfl⟩);obtain⟨bb,bo,rfl,helb⟩:=HB.out.at Fr.cs_len zo zo;obtain⟨y,hy⟩:∃y,BL[x.at_.toNat]?=some y:=⟨BL[x.at_.toNat]'(by rw[HLB.out];omega),cA _⟩;have hnd2:=helb _ y hy;have hxo:=HON.out x hxm;have hyo:=hbf.out y (eA hy);have hsy:sz y.q+1≤KX:=hbx.out (x.at_,x.x.q) (rC.2 ⟨x,hxm,rfl⟩) y hy;have hrx:=hxo.1.below hB;have hry:=hyo.1.below hB;have hsx:sz x.x.q+1≤K:=hxo.2.2;have hsm:sz (x.x.q*y.q)≤(K-1)+(KX-1):=sz_mul zo zo;have hfy:f x.at_=y.q:=by rw[HF.out];exact numF_at hxr.1 hy
   have hev:=ev_snoc hx f;rw[hfy] at hev;have hqq:q-ev (prs (T.take i)) f-x.x.q*y.q=q-ev (prs (T.take (i+1))) f:=by rw[hev];grind
   have HEV:=zh hqq;have hiK:(i+1)*KK=i*KK+KK:=by rw[cC,fE]
   have hnK:(i+1)*KK≤vn*KK:=wB _ hlt;have HSZ:Hid (sz (q-ev (prs (T.take (i+1))) f)+1≤S+(i+1)*KK):=zh (by
    rw[←hqq];have:=sz_sub (aA (sz (q-ev (prs (T.take i)) f))) hsm;omega)
   have i1:(i:Int)<(vn:Int):=zo;have i2:(0:Int)≤(i:Int):=zo;have j2:0≤x.at_:=hxr.1;have j3:x.at_<(bn:Int):=hxr.2;clear hel hx hxm hxr helb hy hxo hyo hfy hev hqq;have Bz:=zr wr;obtain⟨pA0,pA1,pA2,pA3,pA4,-⟩:=(hnd.below (bT hB Bz)).ez;go_upto_region 4 with(fail)
   obtain⟨V11,hW,x2,hN⟩:=zAc wr #[.int .i64 x.at_,.bool x.x.s,.slice x.x.A x.x.l x.x.c,.bool x.x.s',.slice x.x.A' x.x.l' x.x.c'] 32;rw[←hW];clear hW;obtain⟨v2,hb2⟩:=ze wr.heap.size;rw[←hb2] at x2 ⊢;have o0_2:w.heap.size<v2:=zi (zx HX0 Bz).lt;have o1_2:(w.heap.size+1)<v2:=zi (zx HX1 Bz).lt;have ow_2:w.heap.size≤v2:=zi (zww hB Bz);replace ha:=ha.below hN;replace hrx:=hrx.below hN;replace hry:=hry.below hN;replace hB:=bT (bT hB Bz) hN;replace HX0:=zba HX0 Bz hN;replace HX1:=zba HX1 Bz hN;have HX2:=zh x2;clear x2 hN Bz hb2;have Bz:=zr V11;clear pA0 pA1 pA2 pA3 pA4;obtain⟨pa0,pa1,pa2,pa3,-⟩:=(zx HX0 Bz).cz;obtain⟨y0,fa0,fa1,fa2,fa3,-⟩:=(zx HX0 Bz).fz;obtain⟨pc0,pc1,pc2,pc3,pc4,-⟩:=(zx HX2 Bz).cz;have pB0:=(hnd2.below (bT hB Bz)).c0 (u:=.bool y.s) rfl;have pB1:=(hnd2.below (bT hB Bz)).at 1 (.slice y.A y.l y.c) rfl;have pB2:=(hnd2.below (bT hB Bz)).at 2 (.bool y.s') rfl;have pB3:=(hnd2.below (bT hB Bz)).at 3 (.slice y.A' y.l' y.c') rfl;go_wp2_with fail
   (try simp only[vA,vBa,vC])
   refine zl (.take 0 (.pure 1 (.take 2 (.pure 3 (.pure 4 (.take 5 (.pure 6 (.take 7 (.only 8 (.only 9 (.only 10 .done))))))))))) [10] (zsa pa0 (zsa pa1 (zsa pa2 (zsa pa3 (zsa pc0 (zsa pc1 (zsa pc2 (zsa pc3 (zsa pc4 (zsa pB0 (zsa pB1 (zsa pB2 (zIa pB3))))))))))))) ?_;iterate 8 ((first|refine zUa ?_|refine zV ?_);try simp only[uW,uX,uY,uZ])
   refine zC 23 rfl rfl (fun K hK=>?_);go_simp
   with_reducible refine(mul_q (R.below hrx.r) (R.below hry.r) zo (zt hT hB Bz)).mono ?_
   rintro e w11 ⟨s11,A11,c11,l11,s11r,A11r,c11r,l11r,rfl,h11,b⟩;replace b:=zq (a:=V11) b;replace ha:=ha.below b;replace Bz:=bT Bz b;clear b;clear pa0 pa1 pa2 pa3 fa0 fa1 fa2 fa3 y0 pc0 pc1 pc2 pc3 pc4 pB0 pB1 pB2 pB3;obtain⟨pa0,pa1,pa2,pa3,-⟩:=(zx HX0 Bz).cz;obtain⟨y0,fa0,fa1,fa2,fa3,-⟩:=(zx HX0 Bz).fz;obtain⟨pc0,pc1,pc2,pc3,pc4,-⟩:=(zx HX2 Bz).cz;have pB0:=(hnd2.below (bT hB Bz)).c0 (u:=.bool y.s) rfl;have pB1:=(hnd2.below (bT hB Bz)).at 1 (.slice y.A y.l y.c) rfl;have pB2:=(hnd2.below (bT hB Bz)).at 2 (.bool y.s') rfl;have pB3:=(hnd2.below (bT hB Bz)).at 3 (.slice y.A' y.l' y.c') rfl;refine hK.out _ _ ⟨pa0,pa1,pa2,pa3,pc0,pc1,pc2,pc3,pc4,pB0,pB1,pB2,pB3⟩ (fun _=>?_);try simp only[uW,uX,uY,uZ]
   clear hK K;refine zC 24 rfl rfl (fun K hK=>?_);go_simp
   with_reducible refine(sub_q (R.below ha.r) (R.below h11.r) zo (zt hT hB Bz)).mono ?_
   rintro e w12 ⟨s12,A12,c12,l12,s12r,A12r,c12r,l12r,rfl,h12,b⟩;replace b:=zq (a:=w11) b;replace Bz:=bT Bz b;clear b;clear pa0 pa1 pa2 pa3 fa0 fa1 fa2 fa3 y0 pc0 pc1 pc2 pc3 pc4 pB0 pB1 pB2 pB3;obtain⟨pa0,pa1,pa2,pa3,-⟩:=(zx HX0 Bz).cz;obtain⟨y0,fa0,fa1,fa2,fa3,-⟩:=(zx HX0 Bz).fz;obtain⟨pc0,pc1,pc2,pc3,pc4,-⟩:=(zx HX2 Bz).cz;have pB0:=(hnd2.below (bT hB Bz)).c0 (u:=.bool y.s) rfl;have pB1:=(hnd2.below (bT hB Bz)).at 1 (.slice y.A y.l y.c) rfl;have pB2:=(hnd2.below (bT hB Bz)).at 2 (.bool y.s') rfl;have pB3:=(hnd2.below (bT hB Bz)).at 3 (.slice y.A' y.l' y.c') rfl;refine hK.out _ _ ⟨pa0,pa1,pa2,pa3,pc0,pc1,pc2,pc3,pc4,pB0,pB1,pB2,pB3⟩ (fun _=>?_);try simp only[uW,uX,uY,uZ]
   clear hK K;refine zAb (o:=⟨none,_,_,_,_,_⟩) rfl rfl zd (fun K hK=>?_);go_simp
   refine hK.out _ _ ?_;try simp only[Act.put,uX,uY,uZ]
   clear hK K;refine zAa ?_;obtain⟨V12,hW,x,kk,far,bel⟩:=store4 (.bool s12) (.slice A12 l12 c12) (.bool s12r) (.slice A12r l12r c12r) (zx HX0 Bz) nofun nofun nofun nofun;rw[←hW];clear hW;replace h12:=h12.k kk;replace hB:=bel w.heap.size w zo (bT hB Bz);replace HX1:=zf far HX1 Bz;replace HX2:=zf far HX2 Bz;replace HX0:=zh x;clear x kk far bel Bz;have Bz:=zr V12;clear pa0 pa1 pa2 pa3 fa0 fa1 fa2 fa3 y0 pc0 pc1 pc2 pc3 pc4 pB0 pB1 pB2 pB3;go_wp2_with fail
   go_roundg (vn-(i+1))
   case measure=>have:=HGK.out;omega
   case rel=>exact⟨i+1,_,_,_,_,_,_,_,_,zo,rfl,by go_num,HEV.out ▸ RN.below h12,HSZ.out,HX0.out.below (bT Bz),HX1.out.below (bT Bz),bT (bT hB Bz)⟩
  ·obtain rfl:vn=i:=zo;have i1:¬(vn:Int)<(vn:Int):=zo;have HEV:Hid (q-ev (prs (T.take vn)) f=q-ev (prs T) f):=zh (by rw[nA (by rw[HLN.out];exact aA _)]);have HSZ:Hid (sz (q-ev (prs T) f)+1≤S+vn*KK):=zh (by rw[←HEV.out];exact hsz);clear hsz;have Bz:=zr wr;obtain⟨pa0,pa1,pa2,pa3,-⟩:=(zx HX0 Bz).cz;obtain⟨pb0,pb1,pb2,pb3,-⟩:=(zx HX1 Bz).cz;obtain⟨y1,fb0,fb1,fb2,fb3,-⟩:=(zx HX1 Bz).fz;go_wp2_with fail
   (try simp only[Exit.inBlock,Exit.then])
   refine bodyPost_ret (by simp[results,Tryz.results43,go_sem,pb0,pb1,pb2,pb3];try rfl) rfl ?_;obtain⟨V21,hW,x,kk,far,bel⟩:=store4 (.bool sS) (.slice sA sl sc) (.bool sS') (.slice sA' sl' sc') (zx HX1 Bz) nofun nofun nofun nofun;rw[←hW];clear hW;replace ha:=ha.k kk;replace hB:=bel w.heap.size w zo (bT hB Bz);replace HX0:=zf far HX0 Bz;replace HX1:=zh x;clear x kk far bel Bz;have Bz:=zr V21;have hF:=bT (c:=V21) hB Bz;exact⟨_,_,_,_,_,_,_,_,rfl,HEV.out ▸ RN.below ha,hKK ▸ HSZ.out,bT hF⟩
def SprU (D0 D:List Fr) (T:List Tm) (q:Rat):Prop:=D.length=D0.length∧∀(i:Nat) (y:Fr),D0[i]?=some y→∃v,D[i]?=some v∧v.q=y.q-pget (prs T) (i:Int)*q∧((∀t∈T,t.at_≠(i:Int))→v=y)
def TellsSpr (w wc:World) (g bn bc:Nat) (D:List Fr) (P:List (Int×Rat)) (q:Rat) (K:Nat) (e:Ending) (w':World):Prop :=
 e=.returned (.tuple #[])∧∃D',OwnR w' w.heap.size 30 4 (.slice (some ⟨g,0,none⟩) bn bc) bn (flat Fr.cs D')∧D'.length=bn∧AllRn w' K D'∧(∀a:Int,0≤a→a<(bn:Int)→numF (qs D') a=spr (numF (qs D)) P q a)∧KP (fun b=>b=g) wc w'∧Below w.heap.size w w'
def SP1 (w wc:World) (g bn bc vb:Nat) (q:Rat) (cs:Array Value) (s:Bool) (A:Option Addr) (c l:Nat) (s':Bool) (A':Option Addr) (c' l':Nat) (D0:List Fr) (T:List Tm) (n K gk:Nat) (x:Value) (wr:World):Prop :=
 ∃(i:Nat) (D:List Fr),i≤n∧n-i=gk∧x=.int .i64 (i:Int)∧OwnR wr w.heap.size 30 4 (.slice (some ⟨g,0,none⟩) bn bc) bn (flat Fr.cs D)∧AllRn wr K D∧SprU D0 D (T.take i) q∧Bx wr vb cs 30∧RN wr s A c l s' A' c' l' q∧KP (fun b=>b=g) wc wr∧Below w.heap.size w wr
theorem SprU.start (D:List Fr) (q:Rat):SprU D D [] q:=⟨rfl,fun i y hy=>⟨y,hy,by show y.q=y.q-0*q;grind,fun _=>rfl⟩⟩
theorem SprU.step {D0 D:List Fr} {T:List Tm} {q:Rat} {i:Nat} {x:Tm} {y r:Fr} (h:SprU D0 D (T.take i) q) (_hr:Rise (prs T)) (hx:T[i]?=some x) (h0:0≤x.at_) (hy:D[x.at_.toNat]?=some y) (hq:r.q=y.q-x.x.q*q):SprU D0 (D.set x.at_.toNat r) (T.take (i+1)) q:=by
 refine⟨by rw[bC,h.1],fun j u hu=>?_⟩;obtain⟨v,h1,h2,h3⟩:=h.2 j u hu;have hs:pget (prs (T.take (i+1))) (j:Int)=pget (prs (T.take i)) (j:Int)+if x.at_=(j:Int) then x.x.q else 0:=dns_get hx _;by_cases e:x.at_.toNat=j
 ·have e2:x.at_=(j:Int):=zo;subst e;rw[h1] at hy;obtain rfl:=Option.some.inj hy;refine⟨r,bD (yB.1 h1).1,?_,fun hn=>?_⟩
  ·rw[hq,h2,hs,zA e2];grind
  ·exact absurd e2 (hn x (by rw[take_snoc hx];exact List.mem_append_right _ qA))
 ·refine⟨v,by rw[dD e];exact h1,?_,fun hn=>h3 fun t ht=>hn t (by rw[take_snoc hx];exact List.mem_append_left _ ht)⟩;rw[h2,hs,uA (fun e2=>e zo),wC]
theorem SprU.old {D0 D:List Fr} {T:List Tm} {q:Rat} {i:Nat} {x:Tm} {y:Fr} (h:SprU D0 D (T.take i) q) (hr:Rise (prs T)) (hx:T[i]?=some x) (h0:0≤x.at_) (hy:D0[x.at_.toNat]?=some y):D[x.at_.toNat]?=some y:=by
 obtain⟨v,h1,h2,h3⟩:=h.2 _ y hy;rw[h1,←h3 (fun t ht e=>?_)];have h4:Rise (prs (T.take i++[x])):=by
  rw[←take_snoc hx];unfold prs
  rw[List.map_take];exact List.Pairwise.sublist (List.take_sublist _ _) hr
 rw[prs_append] at h4;have h5:=(wF.1 h4).2.2 (t.at_,t.x.q) (rC.2 ⟨t,ht,rfl⟩) (x.at_,x.x.q) (rC.2 ⟨x,qA,rfl⟩);simp only at h5
 omega
theorem SprU.done {D0 D:List Fr} {T:List Tm} {q:Rat} (h:SprU D0 D T q) (a:Int) (ha:0≤a) (ha2:a<(D0.length:Int)):numF (qs D) a=spr (numF (qs D0)) (prs T) q a:=by
 obtain⟨y,hy⟩:∃y,D0[a.toNat]?=some y:=⟨D0[a.toNat]'zo,cA _⟩;obtain⟨v,h1,h2,_⟩:=h.2 _ y hy;unfold spr
 rw[numF_at ha h1,numF_at ha hy,h2,cG ha]
theorem spread_q {w0 w:World} (h1:Below w0.heap.size w0 w) {s s':Bool} {A A':Option Addr} {c l c' l':Nat} {q:Rat} {K KX KD:Nat} {X:Option Addr} {g n cx bn bc:Nat} {v:Vc} {D:List Fr} (ha:RN w s A c l s' A' c' l' q) (hS:sz q+1≤KX) (hv:v.A=X∧v.n=n∧v.c=cx) (h:CN w v K) (hvg:∀a,v.A=some a→a.block≠g)
  (ho:OwnR w w0.heap.size 30 4 (.slice (some ⟨g,0,none⟩) bn bc) bn (flat Fr.cs D)) (hal:AllRn w KD D) (hr:Hid (Rise (prs v.L))) (hin:Hid (∀t∈prs v.L,0≤t.1∧t.1<(bn:Int))) (hn:n≤1000) (_hbn:bn≤1000) (hD:KD+K+KX≤20000000000) (hT0:Hid (Tab w0)) :
  Calls Tryz.prog 41 #[.slice (some ⟨g,0,none⟩) bn bc,.slice X n cx,.agg #[.bool s,.slice A l c,.bool s',.slice A' l' c']] w (TellsSpr w0 w g bn bc D (prs v.L) q (KD+K+KX)):=by
 obtain⟨VA,vn,vc,T⟩:=v;obtain⟨rfl,rfl,rfl⟩:=hv;obtain⟨h2,h3,h4⟩:=h;simp only at h2 h3 h4 hn hr hin hvg ⊢
 have hT:=zh (Tab.below hT0.out h1);have HS:=zh h2;have HLN:=zh h2.1;have HON:=zh h3;have HVG:=zh hvg;have HLD:=zh (ho.eltn elt_frs zo);have HAD:=zh hal;have hgb:=(ho.base g rfl);have hgl:=(ho.lt g rfl);clear h2 h3 h4 hvg;obtain⟨z,HZ⟩:∃z,Hid (q.num.sign=z):=⟨_,zh rfl⟩;by_cases hz0:q=0
 ·have g3:(z==0)=true:=by rw[←HZ.out,hz0];rfl
  have HZV:Hid (∀a,numF (qs D) a=spr (numF (qs D)) (prs T) q a):=zh (fun a=>by unfold spr;rw[hz0,tE];grind);clear hz0;obtain⟨W,hW,x0,hB⟩:=zAc w #[.bool s,.slice A l c,.bool s',.slice A' l' c'] 30;replace ha:=ha.below hB;replace hal:=hal.below hB;replace ho:=ho.below hB;have HX0:=zh x0;clear x0;have Bz:=zr W;obtain⟨pa0,pa1,pa2,pa3,-⟩:=(zx HX0 Bz).cz;go_enter Tryz.func41,Tryz.ntmps41
  go_wp2_with fail
  rw[←hW];clear hW;with_reducible refine(sign_q (R.below ha.r) zo z HZ).mono ?_
  rintro e w1 ⟨rfl,J⟩;replace J:=zq (a:=W) J;replace hal:=hal.below J;replace ho:=ho.below J;replace Bz:=bT Bz J;clear J;clear pa0 pa1 pa2 pa3;go_wp2_with fail
  go_end0
  exact⟨rfl,D,OwnR.below ho,HLD.out,AllRn.mono (AllRn.below hal) zo,(fun a _ _=>HZV.out a),KP.of_below _ (bT (bT hB Bz)),bT h1 (bT (bT hB Bz))⟩
 ·have g3:(z==0)=false:=by
   have:=sign_zero HZ.out;rw[jA hz0] at this;simpa [bne] using this
  clear hz0;obtain⟨W,hW,x0,hB⟩:=zAc w #[.bool s,.slice A l c,.bool s',.slice A' l' c'] 30;replace ha:=ha.below hB;replace hal:=hal.below hB;replace ho:=ho.below hB;have HX0:=zh x0;clear x0;have Bz:=zr W;obtain⟨pa0,pa1,pa2,pa3,-⟩:=(zx HX0 Bz).cz;go_enter Tryz.func41,Tryz.ntmps41
  go_wp2_with fail
  rw[←hW];clear hW;go_wp2_with fail
  with_reducible refine(sign_q (R.below ha.r) zo z HZ).mono ?_
  rintro e w1 ⟨rfl,J⟩;replace J:=zq (a:=W) J;replace ha:=ha.below J;replace hal:=hal.below J;replace ho:=ho.below J;replace Bz:=bT Bz J;clear J;clear pa0 pa1 pa2 pa3;go_wp2_with fail
  have hvl:=HX0.out.lt;have hvb:=HX0.out;have hvg:w.heap.size≠g:=zo;have hBs:=hB.size;have hW0:=bT h1 (bT hB Bz);have hKP0:=KP.of_below (fun b=>b=g) (bT hB Bz);have HXB:=zh (hvb.below Bz);have HO:=zh ho;have HAL:=zh hal;have HA:=zh ha;have HW0:=zh hW0;have HKP0:=zh hKP0;have hTt:=hT0;clear hT ho hal ha hB Bz HX0 hvb hW0 hKP0;obtain⟨wc,hwc⟩:∃x:World,x=w:=⟨_,rfl⟩;subst hwc;obtain⟨w,hw⟩:∃x:World,x=w0:=⟨_,rfl⟩;subst hw;have hT:=hTt;clear hTt;go_loopg [13] vn (fun gk x wr=>SP1 w wc g bn bc wc.heap.size q #[.bool s,.slice A l c,.bool s',.slice A' l' c'] s A c l s' A' c' l' D T vn (KD+K+KX) gk x wr)
  case atStart=>exact⟨0,D,cB _,rfl,rfl,HO.out.below (by go_grown),(HAL.out.below (by go_grown)).mono zo,SprU.start _ _,HXB.out.below (by go_grown),HA.out.below (by go_grown),HKP0.out.below (by go_grown),bT HW0.out⟩
  case round =>
   clear HXB HO HAL HA HW0 HKP0;obtain⟨i,D1,hi,hgk,rfl,ho,hal,hsu,hx0,ha,hkp,hB⟩:=hrel;have HGK:=zh hgk;have HX0:=zh hx0;have HSU:=zh hsu;clear hgk hx0 hsu;by_cases hlt:i<vn
   ·obtain⟨eb,eo,rfl,hel⟩:=HS.out.at Tm.cs_len zo zo;obtain⟨x,hx⟩:∃x,T[i]?=some x:=⟨T[i]'(by rw[HLN.out];exact hlt),cA _⟩;have hnd0:=hel i x hx;have hebg:=HVG.out _ rfl;simp only at hebg
    have hnd:=hkp.ela hnd0 hebg;have hxm:=eA hx;have hxr:0≤x.at_∧x.at_<(bn:Int):=hin.out (x.at_,x.x.q) (rC.2 ⟨x,hxm,rfl⟩);obtain⟨y,hy0⟩:∃y,D[x.at_.toNat]?=some y:=⟨D[x.at_.toNat]'(by rw[HLD.out];omega),cA _⟩;have hy:=HSU.out.old hr.out hx hxr.1 hy0;have HY:=zh hy;have hyo:=HAD.out y (eA hy0);have hxo:=HON.out x hxm;have hrx:=hxo.1.k hkp.k;have hry:=hyo.1.k hkp.k;have hsx:sz x.x.q+1≤K:=hxo.2.2;have hsy:sz y.q+1≤KD:=hyo.2.2;have hsm:sz (x.x.q*q)≤(K-1)+(KX-1):=sz_mul zo zo;have HSZ:Hid (sz (y.q-x.x.q*q)+1≤KD+K+KX):=zh (by
     have:=sz_sub (show sz y.q≤KD-1 by omega) hsm;omega)
    have HS2:Hid (∀r:Fr,r.q=y.q-x.x.q*q→SprU D (D1.set x.at_.toNat r) (T.take (i+1)) q):=zh (fun r e=>HSU.out.step hr.out hx hxr.1 HY.out e);have i1:(i:Int)<(vn:Int):=zo;have i2:(0:Int)≤(i:Int):=zo;have j2:0≤x.at_:=hxr.1;have j3:x.at_<(bn:Int):=hxr.2;clear hel hx hxm hxr hnd0 hy0 hy hyo hxo;have Bz:=zr wr;obtain⟨pA0,pA1,pA2,pA3,pA4,-⟩:=(hnd.below Bz).ez;go_upto_region 5 with(fail)
    obtain⟨V11,hW,x1,hN⟩:=zAc wr #[.int .i64 x.at_,.bool x.x.s,.slice x.x.A x.x.l x.x.c,.bool x.x.s',.slice x.x.A' x.x.l' x.x.c'] 32;rw[←hW];clear hW;obtain⟨v1,hb1⟩:=ze wr.heap.size;rw[←hb1] at x1 ⊢;have ow_1:w.heap.size≤v1:=zi (zww hB Bz);have nv1_own:=OwnR.off' (b:=v1) ho zo;replace ha:=ha.below hN;replace hal:=hal.below hN;replace hkp:=hkp.below hN;replace ho:=ho.below hN;replace hrx:=hrx.below hN;replace hry:=hry.below hN;replace hB:=bT (bT hB Bz) hN;replace HX0:=zba HX0 Bz hN;have HX1:=zh x1;clear x1 hN Bz hb1;have Bz:=zr V11;clear pA0 pA1 pA2 pA3 pA4;obtain⟨pa0,pa1,pa2,pa3,-⟩:=(zx HX0 Bz).cz;obtain⟨pb0,pb1,pb2,pb3,pb4,-⟩:=(zx HX1 Bz).cz;have pB0:=fr_0 ho HY.out;have pB1:=elt_frs.cell ho HY.out (j:=1) (u:=.slice y.A y.l y.c) zo rfl;have pB2:=elt_frs.cell ho HY.out (j:=2) (u:=.bool y.s') zo rfl;have pB3:=elt_frs.cell ho HY.out (j:=3) (u:=.slice y.A' y.l' y.c') zo rfl;have fB0:=ho.frozen (x.at_.toNat*4);have fB1:=ho.frozen (x.at_.toNat*4+1);have fB2:=ho.frozen (x.at_.toNat*4+2);have fB3:=ho.frozen (x.at_.toNat*4+3);have y51:=ho.blk.1;go_wp2_with fail
    (try simp only[vA,vBa,vC])
    refine zl (.pure 0 (.pure 1 (.take 2 (.pure 3 (.pure 4 (.take 5 (.pure 6 (.take 7 (.pure 8 (zza [9,10] (.only 11 (.only 12 (.pure 13 (.only 14 .done)))))))))))))) [14] (zsa pa0 (zsa pa1 (zsa pa2 (zsa pa3 (zsa pb0 (zsa pb1 (zsa pb2 (zsa pb3 (zsa pb4 (zsa pB0 (zsa pB1 (zsa pB2 (zIa pB3))))))))))))) ?_;iterate 11 ((first|refine zV ?_|refine zUa ?_);try simp only[uW,uX,uY,uZ])
    refine zC 28 rfl rfl (fun K hK=>?_);go_simp
    with_reducible refine(mul_q (R.below hrx.r) (R.below ha.r) zo (zt hT hB Bz)).mono ?_
    rintro e w11 ⟨s11,A11,c11,l11,s11r,A11r,c11r,l11r,rfl,h11,J⟩;replace J:=zq (a:=V11) J;replace ha:=ha.below J;replace hal:=hal.below J;replace hkp:=hkp.below J;replace ho:=ho.below J;replace hry:=hry.below J;replace Bz:=bT Bz J;clear J;clear pa0 pa1 pa2 pa3 pb0 pb1 pb2 pb3 pb4 pB0 pB1 pB2 pB3 fB0 fB1 fB2 fB3 y51;obtain⟨pa0,pa1,pa2,pa3,-⟩:=(zx HX0 Bz).cz;obtain⟨pb0,pb1,pb2,pb3,pb4,-⟩:=(zx HX1 Bz).cz;have pB0:=fr_0 ho HY.out;have pB1:=elt_frs.cell ho HY.out (j:=1) (u:=.slice y.A y.l y.c) zo rfl;have pB2:=elt_frs.cell ho HY.out (j:=2) (u:=.bool y.s') zo rfl;have pB3:=elt_frs.cell ho HY.out (j:=3) (u:=.slice y.A' y.l' y.c') zo rfl;have fB0:=ho.frozen (x.at_.toNat*4);have fB1:=ho.frozen (x.at_.toNat*4+1);have fB2:=ho.frozen (x.at_.toNat*4+2);have fB3:=ho.frozen (x.at_.toNat*4+3);have y51:=ho.blk.1;refine hK.out _ _ ⟨pa0,pa1,pa2,pa3,pb0,pb1,pb2,pb3,pb4,pB0,pB1,pB2,pB3⟩ (fun _=>?_);try simp only[uW,uX,uY,uZ]
    clear hK K;refine zC 29 rfl rfl (fun K hK=>?_);go_simp
    with_reducible refine(sub_q (R.below hry.r) (R.below h11.r) zo (zt hT hB Bz)).mono ?_
    rintro e w12 ⟨s12,A12,c12,l12,s12r,A12r,c12r,l12r,rfl,h12,J⟩;replace J:=zq (a:=w11) J;replace ha:=ha.below J;replace hal:=hal.below J;replace hkp:=hkp.below J;replace ho:=ho.below J;replace Bz:=bT Bz J;clear J;clear pa0 pa1 pa2 pa3 pb0 pb1 pb2 pb3 pb4 pB0 pB1 pB2 pB3 fB0 fB1 fB2 fB3 y51;obtain⟨pa0,pa1,pa2,pa3,-⟩:=(zx HX0 Bz).cz;obtain⟨pb0,pb1,pb2,pb3,pb4,-⟩:=(zx HX1 Bz).cz;have pB0:=fr_0 ho HY.out;have pB1:=elt_frs.cell ho HY.out (j:=1) (u:=.slice y.A y.l y.c) zo rfl;have pB2:=elt_frs.cell ho HY.out (j:=2) (u:=.bool y.s') zo rfl;have pB3:=elt_frs.cell ho HY.out (j:=3) (u:=.slice y.A' y.l' y.c') zo rfl;have fB0:=ho.frozen (x.at_.toNat*4);have fB1:=ho.frozen (x.at_.toNat*4+1);have fB2:=ho.frozen (x.at_.toNat*4+2);have fB3:=ho.frozen (x.at_.toNat*4+3);have y51:=ho.blk.1;refine hK.out _ _ ⟨pa0,pa1,pa2,pa3,pb0,pb1,pb2,pb3,pb4,pB0,pB1,pB2,pB3⟩ (fun _=>?_);try simp only[uW,uX,uY,uZ]
    clear hK K;refine zV ?_;try simp only[uW,uX,uY,uZ]
    refine zAb (o:=⟨none,_,_,_,_,_⟩) rfl rfl zd (fun K hK=>?_);go_simp
    refine hK.out _ _ ?_;try simp only[Act.put,uX,uY,uZ]
    clear hK K;obtain⟨V12,hV,ho2,hg2⟩:=fr_store ho HY.out ⟨s12,A12,c12,l12,s12r,A12r,c12r,l12r,y.q-x.x.q*q,true⟩;rw[←hV];clear hV;have hbg:=(OwnR.base ho g rfl);replace hB:=(bT hB Bz).trans (hg2.below (zi (zww hB Bz)) (rowB hbg));replace hkp:=KP.grew hkp hg2 (fun t ht _=>by cases ht;rfl);replace HX0:=zh (hg2.bx (zx HX0 Bz) (rowN hvg));replace HX1:=zh (hg2.bx (zx HX1 Bz) nv1_own);have hal2:=AllRn.set (AllRn.k hal hg2.k) x.at_.toNat (x:=⟨s12,A12,c12,l12,s12r,A12r,c12r,l12r,y.q-x.x.q*q,true⟩) (AllRn.put (RN.k (RN.below h12) hg2.k) HSZ.out);replace ha:=ha.k hg2.k;replace ho:=ho2;replace hal:=hal2;clear ho2 hal2 hg2 Bz hbg;have Bz:=zr V12;clear pa0 pa1 pa2 pa3 pb0 pb1 pb2 pb3 pb4 pB0 pB1 pB2 pB3 fB0 fB1 fB2 fB3 y51;obtain⟨pa0,pa1,pa2,pa3,-⟩:=(zx HX0 Bz).cz;obtain⟨pb0,pb1,pb2,pb3,pb4,-⟩:=(zx HX1 Bz).cz;refine zAa ?_;go_wp2_with fail
    go_roundg (vn-(i+1))
    case measure=>have:=HGK.out;omega
    case rel=>exact⟨i+1,_,zo,rfl,by go_num,OwnR.below ho,AllRn.below hal,HS2.out _ rfl,HX0.out.below (bT Bz),RN.below ha,KP.below hkp,bT (bT hB Bz)⟩
   ·obtain rfl:vn=i:=zo;have i1:¬(vn:Int)<(vn:Int):=zo;have HSE:=zh (by have h9:=HSU.out;rwa [nA (by rw[HLN.out];exact aA _)] at h9:SprU D D1 T q);have HL1:=zh (ho.eltn elt_frs zo);go_wp2_with fail
    go_end0
    exact⟨rfl,D1,ho.below (by go_grown),HL1.out,hal.below (by go_grown),(fun a h8 h9=>HSE.out.done a h8 (by rw[HLD.out];exact h9)),hkp.below (by go_grown),bT hB⟩
theorem sprU_off {D0 D:List Fr} {T:List Tm} {q:Rat} {j:Nat} {y:Fr} (h:SprU D0 D T q) (hj:∀t∈T,t.at_≠(j:Int)) (hy:D0[j]?=some y):D[j]?=some y:=by
 obtain⟨v,h1,_,h3⟩:=h.2 j y hy;rw[h1,h3 hj]
theorem rest_off {T:List Tm} {r:Int} (hr:Rise (prs T)) (hnz:∀t∈T,t.x.q≠0) (h:pget (prs T) r=0):∀t∈T,t.at_≠r:=fun t ht e=>by
 have h1:=hr.get (x:=(t.at_,t.x.q)) (rC.2 ⟨t,ht,rfl⟩);simp only at h1
 rw[e,h] at h1;exact hnz t ht h1.symm
def TellsEta (w0 w:World) (g n:Nat) (F:Int→Rat) (K:Nat) (e:Ending) (w':World):Prop :=
 e=.returned (.tuple #[])∧∃D',OwnR w' w0.heap.size 30 4 (.slice (some ⟨g,0,none⟩) n n) n (flat Fr.cs D')∧D'.length=n∧AllRn w' K D'∧(∀a:Int,0≤a→a<(n:Int)→numF (qs D') a=F a)∧KP (fun b=>b=g) w w'∧Below w0.heap.size w0 w'
def EX1 (w0 w:World) (g n rb pb r:Nat) (pv:Fr) (D1:List Fr) (T:List Tm) (q:Rat) (vn K gk:Nat) (x:Value) (wr:World):Prop :=
 ∃(i:Nat) (D:List Fr),i≤vn∧vn-i=gk∧x=.int .i64 (i:Int)∧OwnR wr w0.heap.size 30 4 (.slice (some ⟨g,0,none⟩) n n) n (flat Fr.cs D)∧AllRn wr K D∧SprU D1 D (T.take i) q∧Bx wr rb #[.int .i64 (r:Int)] 3∧Bx wr pb #[.bool pv.s,.slice pv.A pv.l pv.c,.bool pv.s',.slice pv.A' pv.l' pv.c'] 30∧RN wr pv.s pv.A pv.c pv.l pv.s' pv.A' pv.c' pv.l' pv.q∧KP (fun b=>b=g) w wr∧Below w0.heap.size w0 wr
theorem numF_setE {D:List Fr} {r:Nat} {x:Fr} (hr:r<D.length) (a:Int) (h0:0≤a):numF (qs (D.set r x)) a=upd (numF (qs D)) (r:Int) x.q a:=by
 unfold numF qs
 rw[zA h0,List.map_set];by_cases h:a=(r:Int)
 ·rw[h,upd_at,rE,dA,bD (by rw[xB];exact hr)];rfl
 ·rw[upd_off h,zA h0,dA,dD zo,←dA]
theorem exF_q {w0 w:World} (h1:Below w0.heap.size w0 w) {rb pb sb r g n K KD:Nat} {VA:Option Addr} {vn vc:Nat} {T:List Tm} {pv:Fr} {D:List Fr} (hrb:Bx w rb #[.int .i64 (r:Int)] 3) (hpb:Bx w pb #[.bool pv.s,.slice pv.A pv.l pv.c,.bool pv.s',.slice pv.A' pv.l' pv.c'] 30) (hsb:Bx w sb #[.slice VA vn vc] 35) (hrg:rb≠g) (hpg:pb≠g) (hsg:sb≠g)
  (hpv:RN w pv.s pv.A pv.c pv.l pv.s' pv.A' pv.c' pv.l' pv.q) (hpz:sz pv.q+1≤K) (h:CN w ⟨VA,vn,vc,T⟩ K) (hvg:∀a,VA=some a→a.block≠g) (ho:OwnR w w0.heap.size 30 4 (.slice (some ⟨g,0,none⟩) n n) n (flat Fr.cs D)) (hal:AllRn w KD D) (hr:Hid (Rise (prs T))) (hr0:Hid (pget (prs T) (r:Int)=0)) (hin:Hid (∀t∈prs T,0≤t.1∧t.1<(n:Int))) (hrn:r<n) (hvn:vn≤1000) (_hn:n≤1000) (hnz:Hid (∀t∈T,t.x.q≠0)) (hD:4*KD+4*K≤20000000000) (hT0:Hid (Tab w0)) :
  Calls Tryz.prog 111 #[.slice (some ⟨g,0,none⟩) n n,.pointer (some ⟨rb,0,none⟩),.pointer (some ⟨pb,0,none⟩),.pointer (some ⟨sb,0,none⟩)] w (TellsEta w0 w g n (etaF ⟨(r:Int),pv.q,prs T⟩ (numF (qs D))) (2*KD+3*K)):=by
 have hT:=hT0;obtain⟨h2,h3,h4⟩:=h;simp only at h2 h3 h4
 have HS:=zh h2;have HLN:=zh h2.1;have HON:=zh h3;have HVG:=zh hvg;have HLD:=zh (ho.eltn elt_frs zo);have HAD:=zh hal;have hgb:=(ho.base g rfl);have hgl:=(ho.lt g rfl);have HRB:=zh hrb;have HPB:=zh hpb;have HSB:=zh hsb;have hkp:=KP.refl (fun b=>b=g) w;have HKW:=zh h1;have HZp:Hid (sz pv.q≤K):=zh zo;obtain⟨y,hy⟩:∃y,D[r]?=some y:=⟨D[r]'(by rw[HLD.out];exact hrn),cA _⟩;have HY:=zh hy;have hyo:=hal y (eA hy);have HZy:Hid (sz y.q≤KD):=zh (zi hyo.2.2);have hry:=hyo.1;have k1:(r:Int)<(n:Int):=zo;have k2:(0:Int)≤(r:Int):=zo;have HYN:Hid (numF (qs D) (r:Int)=y.q):=zh (numF_at k2 (by rw[rE];exact hy));clear h2 h3 h4 hvg hy hyo hrb hpb hsb;obtain⟨z,HZ⟩:∃z,Hid (y.q.num.sign=z):=⟨_,zh rfl⟩;by_cases hz0:y.q=0
 ·have g3:(z==0)=true:=by rw[←HZ.out,hz0];rfl
  have HZV:Hid (∀a:Int,0≤a→a<(n:Int)→numF (qs D) a=etaF ⟨(r:Int),pv.q,prs T⟩ (numF (qs D)) a):=zh (fun a _ _=>(etaF_zero (by rw[←hz0];exact HYN.out) a).symm);clear hz0;have hB:=Below.refl w.heap.size w;have Bz:=zr w;replace hB:=h1;have p90_0:=(HRB.out.below Bz).cell 0 (.int .i64 (r:Int)) rfl;have pB0:=fr_0 ho HY.out;have pB1:=elt_frs.cell ho HY.out (j:=1) (u:=.slice y.A y.l y.c) zo rfl;have pB2:=elt_frs.cell ho HY.out (j:=2) (u:=.bool y.s') zo rfl;have pB3:=elt_frs.cell ho HY.out (j:=3) (u:=.slice y.A' y.l' y.c') zo rfl;go_enter Tryz.func111,Tryz.ntmps111
  go_wp2_with fail
  with_reducible refine(sign_q (RN.r' (RN.below hry) HZy.out) zo z HZ).mono ?_
  rintro e w1 ⟨rfl,J⟩;replace J:=zq (a:=w) J;replace hal:=hal.below J;replace hkp:=hkp.below J;replace ho:=ho.below J;replace hpv:=hpv.below J;replace Bz:=bT Bz J;clear J;clear p90_0 pB0 pB1 pB2 pB3;go_wp2_with fail
  go_end0
  exact⟨rfl,D,OwnR.below ho,HLD.out,AllRn.mono (AllRn.below hal) zo,HZV.out,KP.below hkp,bT (bT hB Bz)⟩
 ·have g3:(z==0)=false:=by
   have:=sign_zero HZ.out;rw[jA hz0] at this;simpa [bne] using this
  have hsq:sz (y.q / pv.q)≤KD+K:=sz_quo HZy.out HZp.out;have HSQ:Hid (sz (y.q / pv.q)+1≤2*KD+3*K):=zh zo;replace hal:=AllRn.mono hal (show KD≤2*KD+3*K by omega);clear hz0;have hB:=Below.refl w.heap.size w;have Bz:=zr w;replace hB:=h1;have p90_0:=(HRB.out.below Bz).cell 0 (.int .i64 (r:Int)) rfl;have pB0:=fr_0 ho HY.out;have pB1:=elt_frs.cell ho HY.out (j:=1) (u:=.slice y.A y.l y.c) zo rfl;have pB2:=elt_frs.cell ho HY.out (j:=2) (u:=.bool y.s') zo rfl;have pB3:=elt_frs.cell ho HY.out (j:=3) (u:=.slice y.A' y.l' y.c') zo rfl;go_enter Tryz.func111,Tryz.ntmps111
  go_wp2_with fail
  with_reducible refine(sign_q (RN.r' (RN.below hry) HZy.out) zo z HZ).mono ?_
  rintro e w1 ⟨rfl,J⟩;replace J:=zq (a:=w) J;replace hal:=hal.below J;replace hkp:=hkp.below J;replace ho:=ho.below J;replace hpv:=hpv.below J;replace hry:=hry.below J;replace Bz:=bT Bz J;clear J;clear p90_0 pB0 pB1 pB2 pB3;have p90_0:=(HRB.out.below Bz).cell 0 (.int .i64 (r:Int)) rfl;have p91_0:=(HPB.out.below Bz).cell 0 (.bool pv.s) rfl;have p91_1:=(HPB.out.below Bz).cell 1 (.slice pv.A pv.l pv.c) rfl;have p91_2:=(HPB.out.below Bz).cell 2 (.bool pv.s') rfl;have p91_3:=(HPB.out.below Bz).cell 3 (.slice pv.A' pv.l' pv.c') rfl;have pB0:=fr_0 ho HY.out;have pB1:=elt_frs.cell ho HY.out (j:=1) (u:=.slice y.A y.l y.c) zo rfl;have pB2:=elt_frs.cell ho HY.out (j:=2) (u:=.bool y.s') zo rfl;have pB3:=elt_frs.cell ho HY.out (j:=3) (u:=.slice y.A' y.l' y.c') zo rfl;have fB0:=ho.frozen (r*4);have fB1:=ho.frozen (r*4+1);have fB2:=ho.frozen (r*4+2);have fB3:=ho.frozen (r*4+3);have y51:=ho.blk.1;go_wp2_with fail
  (try simp only[vA,vBa,vC])
  refine zl (.pure 0 (.take 1 (.pure 2 (.take 3 (.pure 4 (zza [5,6] (.only 7 (.pure 8 (.only 9 .done))))))))) [9] (zsa pB0 (zsa pB1 (zsa pB2 (zsa pB3 (zsa p90_0 (zsa p91_0 (zsa p91_1 (zsa p91_2 (zIa p91_3))))))))) ?_;iterate 7 ((first|refine zV ?_|refine zUa ?_);try simp only[uW,uX,uY,uZ])
  refine zC 20 rfl rfl (fun K hK=>?_);go_simp
  with_reducible refine(quo_q (RN.r' (RN.below hry) HZy.out) (RN.r' (RN.below hpv) HZp.out) zo (zt hT hB Bz)).mono ?_
  rintro e w2 ⟨s2,A2,c2,l2,s2r,A2r,c2r,l2r,rfl,h2,J⟩;replace J:=zq (a:=w1) J;replace hal:=hal.below J;replace hkp:=hkp.below J;replace ho:=ho.below J;replace hpv:=hpv.below J;replace Bz:=bT Bz J;clear J;clear p90_0 p91_0 p91_1 p91_2 p91_3 pB0 pB1 pB2 pB3 fB0 fB1 fB2 fB3 y51;have p90_0:=(HRB.out.below Bz).cell 0 (.int .i64 (r:Int)) rfl;have p91_0:=(HPB.out.below Bz).cell 0 (.bool pv.s) rfl;have p91_1:=(HPB.out.below Bz).cell 1 (.slice pv.A pv.l pv.c) rfl;have p91_2:=(HPB.out.below Bz).cell 2 (.bool pv.s') rfl;have p91_3:=(HPB.out.below Bz).cell 3 (.slice pv.A' pv.l' pv.c') rfl;have pB0:=fr_0 ho HY.out;have pB1:=elt_frs.cell ho HY.out (j:=1) (u:=.slice y.A y.l y.c) zo rfl;have pB2:=elt_frs.cell ho HY.out (j:=2) (u:=.bool y.s') zo rfl;have pB3:=elt_frs.cell ho HY.out (j:=3) (u:=.slice y.A' y.l' y.c') zo rfl;have fB0:=ho.frozen (r*4);have fB1:=ho.frozen (r*4+1);have fB2:=ho.frozen (r*4+2);have fB3:=ho.frozen (r*4+3);have y51:=ho.blk.1;refine hK.out _ _ ⟨pB0,pB1,pB2,pB3,p90_0,p91_0,p91_1,p91_2,p91_3⟩ (fun _=>?_);try simp only[uW,uX,uY,uZ]
  clear hK K;refine zV ?_;try simp only[uW,uX,uY,uZ]
  refine zAb (o:=⟨none,_,_,_,_,_⟩) rfl rfl zd (fun K hK=>?_);go_simp
  refine hK.out _ _ ?_;try simp only[Act.put,uX,uY,uZ]
  clear hK K;obtain⟨V1,hV,ho2,hg2⟩:=fr_store ho HY.out ⟨s2,A2,c2,l2,s2r,A2r,c2r,l2r,y.q / pv.q,true⟩;rw[←hV];clear hV;have hbg:=(OwnR.base ho g rfl);replace hB:=(bT hB Bz).trans (hg2.below (zi (zww hB Bz)) (rowB hbg));replace hkp:=KP.grew hkp hg2 (fun t ht _=>by cases ht;rfl);replace HRB:=zh (hg2.bx (HRB.out.below Bz) (rowN hrg));replace HPB:=zh (hg2.bx (HPB.out.below Bz) (rowN hpg));replace HSB:=zh (hg2.bx (HSB.out.below Bz) (rowN hsg));have hal2:=AllRn.set (AllRn.k hal hg2.k) r (x:=⟨s2,A2,c2,l2,s2r,A2r,c2r,l2r,y.q / pv.q,true⟩) (AllRn.put (RN.k (RN.below h2) hg2.k) HSQ.out);replace hpv:=hpv.k hg2.k;replace ho:=ho2;replace hal:=hal2;clear ho2 hal2 hg2 Bz hbg;have Bz:=zr V1;clear p90_0 p91_0 p91_1 p91_2 p91_3 pB0 pB1 pB2 pB3 fB0 fB1 fB2 fB3 y51;have p90_0:=(HRB.out.below Bz).cell 0 (.int .i64 (r:Int)) rfl;have p91_0:=(HPB.out.below Bz).cell 0 (.bool pv.s) rfl;have p91_1:=(HPB.out.below Bz).cell 1 (.slice pv.A pv.l pv.c) rfl;have p91_2:=(HPB.out.below Bz).cell 2 (.bool pv.s') rfl;have p91_3:=(HPB.out.below Bz).cell 3 (.slice pv.A' pv.l' pv.c') rfl;have p92_0:=(HSB.out.below Bz).cell 0 (.slice VA vn vc) rfl;refine zAa ?_;go_wp2_with fail
  obtain⟨D1,hd1⟩:∃D1,D1=D.set r ⟨s2,A2,c2,l2,s2r,A2r,c2r,l2r,y.q / pv.q,true⟩:=⟨_,rfl⟩;rw[←hd1] at ho hal;have HD1:=zh hd1;have HL1:=zh (show D1.length=n by rw[hd1,bC];exact HLD.out);have HO:=zh ho;have HAL:=zh hal;have HPV:=zh hpv;have HKP:=zh hkp;have HB1:=zh hB;have XRB:=HRB;have XPB:=HPB;obtain⟨q,hq⟩:∃q,q=y.q / pv.q:=⟨_,rfl⟩;have HQ:=zh hq;have HQZ:Hid (sz q≤KD+K):=zh (by rw[hq];exact hsq);clear ho hal hpv hkp hB Bz HRB HPB HSB hd1 hq hry g3 HY;go_loopg [24] vn (fun gk x wr=>EX1 w0 w g n rb pb r pv D1 T q vn (2*KD+3*K) gk x wr)
  case atStart=>exact⟨0,D1,cB _,rfl,rfl,HO.out.below (by go_grown),HAL.out.below (by go_grown),SprU.start _ _,XRB.out.below (by go_grown),XPB.out.below (by go_grown),HPV.out.below (by go_grown),HKP.out.below (by go_grown),bT HB1.out⟩
  case round =>
   clear HO HAL HPV HKP HB1 XRB XPB;obtain⟨i,D2,hi,hgk,rfl,ho,hal,hsu,hrb,hpb,hpv,hkp,hB⟩:=hrel;have HGK:=zh hgk;have HRB:=zh hrb;have HPB:=zh hpb;have HSU:=zh hsu;clear hgk hrb hpb hsu;by_cases hlt:i<vn
   ·obtain⟨eb,eo,rfl,hel⟩:=HS.out.at Tm.cs_len zo zo;obtain⟨x,hx⟩:∃x,T[i]?=some x:=⟨T[i]'(by rw[HLN.out];exact hlt),cA _⟩;have hnd:=hkp.ela (hel i x hx) (HVG.out _ rfl);have hxm:=eA hx;have hxr:0≤x.at_∧x.at_<(n:Int):=hin.out (x.at_,x.x.q) (rC.2 ⟨x,hxm,rfl⟩);have hxne:x.at_≠(r:Int):=rest_off hr.out hnz.out hr0.out x hxm;obtain⟨u,hu0⟩:∃u,D[x.at_.toNat]?=some u:=⟨D[x.at_.toNat]'(by rw[HLD.out];omega),cA _⟩;have hu1:D1[x.at_.toNat]?=some u:=by rw[HD1.out,dD zo];exact hu0
    have HU:=zh (HSU.out.old hr.out hx hxr.1 hu1);obtain⟨y,hy⟩:∃y,D1[r]?=some y:=⟨D1[r]'(by rw[HL1.out];exact hrn),cA _⟩;have hyq:y.q=q:=by
     rw[HD1.out,bD (by rw[HLD.out];exact hrn)] at hy;rw[←Option.some.inj hy,HQ.out]
    have HY:=zh (sprU_off HSU.out (fun t ht=>rest_off hr.out hnz.out hr0.out t (yF ht)) hy);have hyo:=hal y (eA HY.out);have huo:=HAD.out u (eA hu0);have hxo:=HON.out x hxm;have hrx:=hxo.1.k hkp.k;have hru:=huo.1.k hkp.k;have hry:=hyo.1;have hsx:sz x.x.q+1≤K:=hxo.2.2;have hsu2:sz u.q+1≤KD:=huo.2.2;have hsy:sz y.q≤KD+K:=by rw[hyq];exact HQZ.out
    have hsm:sz (x.x.q*y.q)≤(K-1)+(KD+K):=sz_mul zo hsy;have HSZ:Hid (sz (u.q-x.x.q*y.q)+1≤2*KD+3*K):=zh (by
     have:=sz_sub (show sz u.q≤KD-1 by omega) hsm;omega)
    have HS2:Hid (∀v:Fr,v.q=u.q-x.x.q*y.q→SprU D1 (D2.set x.at_.toNat v) (T.take (i+1)) q):=zh (fun v e=>HSU.out.step hr.out hx hxr.1 HU.out (by rw[e,hyq]));have i1:(i:Int)<(vn:Int):=zo;have i2:(0:Int)≤(i:Int):=zo;have j2:0≤x.at_:=hxr.1;have j3:x.at_<(n:Int):=hxr.2;have hws:=hkp.size;clear hel hx hxm hxr hu0 hu1 hy hyo huo hxo hyq hxne;have Bz:=zr wr;obtain⟨pA0,pA1,pA2,pA3,pA4,-⟩:=(hnd.below Bz).ez;go_upto_region 5 with(fail)
    obtain⟨V31,hW,x0,hN⟩:=zAc wr #[.int .i64 x.at_,.bool x.x.s,.slice x.x.A x.x.l x.x.c,.bool x.x.s',.slice x.x.A' x.x.l' x.x.c'] 32;rw[←hW];clear hW;obtain⟨v0,hb0⟩:=ze wr.heap.size;rw[←hb0] at x0 ⊢;have ow_0:w.heap.size≤v0:=zi (zww hB Bz);have nv0_own:=OwnR.off' (b:=v0) ho zo;replace hal:=hal.below hN;replace hkp:=hkp.below hN;replace ho:=ho.below hN;replace hpv:=hpv.below hN;replace hrx:=hrx.below hN;replace hru:=hru.below hN;replace hry:=hry.below hN;replace hB:=bT (bT hB Bz) hN;replace HRB:=zh ((HRB.out.below Bz).below hN);replace HPB:=zh ((HPB.out.below Bz).below hN);have HX0:=zh x0;clear x0 hN Bz hb0;have Bz:=zr V31;clear pA0 pA1 pA2 pA3 pA4;have p90_0:=(HRB.out.below Bz).cell 0 (.int .i64 (r:Int)) rfl;obtain⟨pa0,pa1,pa2,pa3,pa4,-⟩:=(zx HX0 Bz).cz;have pB0:=fr_0 ho HY.out;have pB1:=elt_frs.cell ho HY.out (j:=1) (u:=.slice y.A y.l y.c) zo rfl;have pB2:=elt_frs.cell ho HY.out (j:=2) (u:=.bool y.s') zo rfl;have pB3:=elt_frs.cell ho HY.out (j:=3) (u:=.slice y.A' y.l' y.c') zo rfl;have pC0:=fr_0 ho HU.out;have pC1:=elt_frs.cell ho HU.out (j:=1) (u:=.slice u.A u.l u.c) zo rfl;have pC2:=elt_frs.cell ho HU.out (j:=2) (u:=.bool u.s') zo rfl;have pC3:=elt_frs.cell ho HU.out (j:=3) (u:=.slice u.A' u.l' u.c') zo rfl;have fC0:=ho.frozen (x.at_.toNat*4);have fC1:=ho.frozen (x.at_.toNat*4+1);have fC2:=ho.frozen (x.at_.toNat*4+2);have fC3:=ho.frozen (x.at_.toNat*4+3);have y52:=ho.blk.1;go_wp2_with fail
    (try simp only[vA,vBa,vC])
    refine zl (.pure 0 (.pure 1 (.take 2 (.pure 3 (.pure 4 (.take 5 (.pure 6 (.take 7 (.pure 8 (.take 9 (.pure 10 (.take 11 (.pure 12 (.take 13 (.only 14 (.only 15 (.pure 16 (.only 17 .done)))))))))))))))))) [17] (zsa pa0 (zsa pa1 (zsa pa2 (zsa pa3 (zsa pa4 (zsa pB0 (zsa pB1 (zsa pB2 (zsa pB3 (zsa pC0 (zsa pC1 (zsa pC2 (zsa pC3 (zIa p90_0)))))))))))))) ?_;iterate 14 ((first|refine zV ?_|refine zUa ?_);try simp only[uW,uX,uY,uZ])
    refine zC 42 rfl rfl (fun K hK=>?_);go_simp
    with_reducible refine(mul_q (R.below hrx.r) (R.below hry.r) zo (zt hT hB Bz)).mono ?_
    rintro e w31 ⟨s31,A31,c31,l31,s31r,A31r,c31r,l31r,rfl,h31,J⟩;replace J:=zq (a:=V31) J;replace hal:=hal.below J;replace hkp:=hkp.below J;replace ho:=ho.below J;replace hpv:=hpv.below J;replace hru:=hru.below J;replace Bz:=bT Bz J;clear J;clear p90_0 pa0 pa1 pa2 pa3 pa4 pB0 pB1 pB2 pB3 pC0 pC1 pC2 pC3 fC0 fC1 fC2 fC3 y52;have p90_0:=(HRB.out.below Bz).cell 0 (.int .i64 (r:Int)) rfl;obtain⟨pa0,pa1,pa2,pa3,pa4,-⟩:=(zx HX0 Bz).cz;have pB0:=fr_0 ho HY.out;have pB1:=elt_frs.cell ho HY.out (j:=1) (u:=.slice y.A y.l y.c) zo rfl;have pB2:=elt_frs.cell ho HY.out (j:=2) (u:=.bool y.s') zo rfl;have pB3:=elt_frs.cell ho HY.out (j:=3) (u:=.slice y.A' y.l' y.c') zo rfl;have pC0:=fr_0 ho HU.out;have pC1:=elt_frs.cell ho HU.out (j:=1) (u:=.slice u.A u.l u.c) zo rfl;have pC2:=elt_frs.cell ho HU.out (j:=2) (u:=.bool u.s') zo rfl;have pC3:=elt_frs.cell ho HU.out (j:=3) (u:=.slice u.A' u.l' u.c') zo rfl;have fC0:=ho.frozen (x.at_.toNat*4);have fC1:=ho.frozen (x.at_.toNat*4+1);have fC2:=ho.frozen (x.at_.toNat*4+2);have fC3:=ho.frozen (x.at_.toNat*4+3);have y52:=ho.blk.1;refine hK.out _ _ ⟨pa0,pa1,pa2,pa3,pa4,pB0,pB1,pB2,pB3,pC0,pC1,pC2,pC3,p90_0⟩ (fun _=>?_);try simp only[uW,uX,uY,uZ]
    clear hK K;refine zC 43 rfl rfl (fun K hK=>?_);go_simp
    with_reducible refine(sub_q (R.below hru.r) (R.below h31.r) zo (zt hT hB Bz)).mono ?_
    rintro e w32 ⟨s32,A32,c32,l32,s32r,A32r,c32r,l32r,rfl,h32,J⟩;replace J:=zq (a:=w31) J;replace hal:=hal.below J;replace hkp:=hkp.below J;replace ho:=ho.below J;replace hpv:=hpv.below J;replace Bz:=bT Bz J;clear J;clear p90_0 pa0 pa1 pa2 pa3 pa4 pB0 pB1 pB2 pB3 pC0 pC1 pC2 pC3 fC0 fC1 fC2 fC3 y52;have p90_0:=(HRB.out.below Bz).cell 0 (.int .i64 (r:Int)) rfl;obtain⟨pa0,pa1,pa2,pa3,pa4,-⟩:=(zx HX0 Bz).cz;have pB0:=fr_0 ho HY.out;have pB1:=elt_frs.cell ho HY.out (j:=1) (u:=.slice y.A y.l y.c) zo rfl;have pB2:=elt_frs.cell ho HY.out (j:=2) (u:=.bool y.s') zo rfl;have pB3:=elt_frs.cell ho HY.out (j:=3) (u:=.slice y.A' y.l' y.c') zo rfl;have pC0:=fr_0 ho HU.out;have pC1:=elt_frs.cell ho HU.out (j:=1) (u:=.slice u.A u.l u.c) zo rfl;have pC2:=elt_frs.cell ho HU.out (j:=2) (u:=.bool u.s') zo rfl;have pC3:=elt_frs.cell ho HU.out (j:=3) (u:=.slice u.A' u.l' u.c') zo rfl;have fC0:=ho.frozen (x.at_.toNat*4);have fC1:=ho.frozen (x.at_.toNat*4+1);have fC2:=ho.frozen (x.at_.toNat*4+2);have fC3:=ho.frozen (x.at_.toNat*4+3);have y52:=ho.blk.1;refine hK.out _ _ ⟨pa0,pa1,pa2,pa3,pa4,pB0,pB1,pB2,pB3,pC0,pC1,pC2,pC3,p90_0⟩ (fun _=>?_);try simp only[uW,uX,uY,uZ]
    clear hK K;refine zV ?_;try simp only[uW,uX,uY,uZ]
    refine zAb (o:=⟨none,_,_,_,_,_⟩) rfl rfl zd (fun K hK=>?_);go_simp
    refine hK.out _ _ ?_;try simp only[Act.put,uX,uY,uZ]
    clear hK K;obtain⟨V32,hV,ho2,hg2⟩:=fr_store ho HU.out ⟨s32,A32,c32,l32,s32r,A32r,c32r,l32r,u.q-x.x.q*y.q,true⟩;rw[←hV];clear hV;have hbg:=(OwnR.base ho g rfl);replace hB:=(bT hB Bz).trans (hg2.below (zi (zww hB Bz)) (rowB hbg));replace hkp:=KP.grew hkp hg2 (fun t ht _=>by cases ht;rfl);replace HRB:=zh (hg2.bx (HRB.out.below Bz) (rowN hrg));replace HPB:=zh (hg2.bx (HPB.out.below Bz) (rowN hpg));replace HX0:=zh (hg2.bx (zx HX0 Bz) nv0_own);have hal2:=AllRn.set (AllRn.k hal hg2.k) x.at_.toNat (x:=⟨s32,A32,c32,l32,s32r,A32r,c32r,l32r,u.q-x.x.q*y.q,true⟩) (AllRn.put (RN.k (RN.below h32) hg2.k) HSZ.out);replace hpv:=hpv.k hg2.k;replace ho:=ho2;replace hal:=hal2;clear ho2 hal2 hg2 Bz hbg;have Bz:=zr V32;clear p90_0 pa0 pa1 pa2 pa3 pa4 pB0 pB1 pB2 pB3 pC0 pC1 pC2 pC3 fC0 fC1 fC2 fC3 y52;have p90_0:=(HRB.out.below Bz).cell 0 (.int .i64 (r:Int)) rfl;obtain⟨pa0,pa1,pa2,pa3,pa4,-⟩:=(zx HX0 Bz).cz;refine zAa ?_;go_wp2_with fail
    go_roundg (vn-(i+1))
    case measure=>have:=HGK.out;omega
    case rel=>exact⟨i+1,_,zo,rfl,by go_num,OwnR.below ho,AllRn.below hal,HS2.out _ rfl,HRB.out.below (bT Bz),HPB.out.below (bT Bz),RN.below hpv,KP.below hkp,bT (bT hB Bz)⟩
   ·obtain rfl:vn=i:=zo;have i1:¬(vn:Int)<(vn:Int):=zo;have HSE:=zh (by have h9:=HSU.out;rwa [nA (by rw[HLN.out];exact aA _)] at h9:SprU D1 D2 T q);have HL2:=zh (ho.eltn elt_frs zo);have HFN:Hid (∀a:Int,0≤a→a<(n:Int)→numF (qs D2) a=etaF ⟨(r:Int),pv.q,prs T⟩ (numF (qs D)) a):=zh fun a h8 h9=>by
     rw[HSE.out.done a h8 (by rw[HL1.out];exact h9)];unfold etaF spr
     rw[HD1.out,numF_setE (by rw[HLD.out];exact hrn) a h8];show upd (numF (qs D)) (r:Int) (y.q / pv.q) a-_=upd (numF (qs D)) (r:Int) (numF (qs D) (r:Int) / pv.q) a-_
     rw[HYN.out,HQ.out]
    go_wp2_with fail
    go_end0
    exact⟨rfl,D2,ho.below (by go_grown),HL2.out,hal.below (by go_grown),HFN.out,hkp.below (by go_grown),bT hB⟩
def fitsB (n:Nat) (P:List (Int×Rat)):Bool:=P.all fun x=>decide (0≤x.1)&&decide (x.1<(n:Int))
theorem fits_iff {n:Nat} {P:List (Int×Rat)}:fitsB n P=true↔∀x∈P,0≤x.1∧x.1<(n:Int):=by
 unfold fitsB
 rw[cE];exact forall_congr' fun x=>by simp
def TellsLD (w:World) (n K:Nat) (P:List (Int×Rat)) (e:Ending) (w':World):Prop :=
 Below w.heap.size w w'∧((fitsB n (nrm P)=false∧e=.returned (.tuple #[.slice none 0 0,.bool false]))∨
  (fitsB n (nrm P)=true∧∃SA sc D,e=.returned (.tuple #[.slice SA n sc,.bool true])∧OwnR w' w.heap.size 30 4 (.slice SA n sc) n (flat Fr.cs D)∧AllRn w' K D∧qs D=denseF P n))
theorem TellsLD.no {w w':World} {n K:Nat} {P:List (Int×Rat)} (h:fitsB n (nrm P)=false) (hb:Below w.heap.size w w'):TellsLD w n K P (.returned (.tuple #[.slice none 0 0,.bool false])) w':=⟨hb,.inl ⟨h,rfl⟩⟩
def fitT (n:Nat) (t:Tm):Bool:=decide (0≤t.at_)&&decide (t.at_<(n:Int))
theorem fits_prs (n:Nat) (T:List Tm):T.all (fitT n)=fitsB n (prs T):=by
 unfold fitsB prs
 rw[List.all_map];rfl
def DE1 (w:World) (fb n nm:Nat) (H:Option Addr) (hl hc:Nat) (X:Value) (T:List Tm) (M gk:Nat) (x:Value) (wr:World):Prop :=
 ∃i:Nat,i≤nm∧nm-i=gk∧x=.int .i64 (i:Int)∧OwnR wr w.heap.size 32 5 X nm (flat Tm.cs T)∧OnT wr T (fun _=>M)∧(T.take i).all (fitT n)=true∧Bx wr fb #[.bool true,.int .i64 (n:Int),.slice H hl hc] 68∧Below w.heap.size w wr
theorem ldense_q {w:World} {fb n bn bc M hl hc:Nat} {H X:Option Addr} {P:List (Int×Rat)} (hf:Bx w fb #[.bool true,.int .i64 (n:Int),.slice H hl hc] 68) (h:GV w X bn bc P M) (hM:M≤18000000000) (hM2:2≤M) (hbn:bn≤1000) (hn:n≤256) (hT:Hid (Tab w)) :
  Calls Tryz.prog 40 #[.pointer (some ⟨fb,0,none⟩),.slice X bn bc] w (TellsLD w n M P):=by
 have HX:=zh h;have HF0:=zh hf;have hnq:=normO_q (HX.out) zo zo hT;clear h hf;go_enter Tryz.func40,Tryz.ntmps40
 go_wp2_with fail
 with_reducible refine hnq.mono ?_
 rintro e w1 ⟨Am,nm,cm,T,rfl,ho1,on1,ep,b1⟩;have HO:=zh ho1;have HN:=zh on1;have HEP:=zh ep;have HTL:=zh (ho1.eltn elt_vec zo);have HF1:=zh (HF0.out.below b1);have HB1:=zh b1;have HOK:Hid (T.all (fitT n)=fitsB n (nrm P)):=zh (by rw[fits_prs,ep]);have hnm:nm≤1000:=by
  have h1:=nrm_len P;rw[←ep,prs_len,ho1.eltn elt_vec zo,HX.out.len] at h1;omega
 clear hnq ho1 on1 ep b1;go_wp2_with fail
 go_loopg [11] nm (fun gk x wr=>DE1 w fb n nm H hl hc (.slice Am nm cm) T M gk x wr)
 case atStart=>exact⟨0,cB _,rfl,rfl,HO.out.below (by go_grown),HN.out.below (by go_grown),by rw[yE];rfl,HF1.out.below (by go_grown),bT HB1.out⟩
 case round =>
  clear HO HN HF1 HB1;obtain⟨i,hi,hgk,rfl,hho,hon,hd,hfb,hB⟩:=hrel;have HGK:=zh hgk;have HD:=zh hd;have HFB:=zh hfb;clear hgk hd hfb;by_cases hlt:i<nm
  ·obtain⟨eb,eo,rfl,hel⟩:=(hho.sl' elt_vec HTL.out).at Tm.cs_len zo zo;obtain⟨x,hx⟩:∃x,T[i]?=some x:=⟨T[i]'(by rw[HTL.out];exact hlt),cA _⟩;have hnd:=hel i x hx;have HTI:=zh hx;have i1:(i:Int)<(nm:Int):=zo;have i2:(0:Int)≤(i:Int):=zo;clear hel hx;by_cases k1:x.at_<0
   ·have HP:Hid (fitT n x=false):=zh (by unfold fitT;rw[fA zo];rfl);have Bz:=zr wr;obtain⟨pA0,pA1,pA2,pA3,pA4,-⟩:=(hnd.below Bz).ez;go_upto_region 4 with(fail)
    obtain⟨V11,hW,x1,hN⟩:=zAc wr #[.int .i64 x.at_,.bool x.x.s,.slice x.x.A x.x.l x.x.c,.bool x.x.s',.slice x.x.A' x.x.l' x.x.c'] 32;rw[←hW];clear hW;obtain⟨v1,hb1⟩:=ze wr.heap.size;rw[←hb1] at x1 ⊢;have ow_1:w.heap.size≤v1:=zi (zww hB Bz);replace hB:=bT (bT hB Bz) hN;replace HFB:=zh ((HFB.out.below Bz).below hN);have HX1:=zh x1;clear x1 hN Bz hb1;have Bz:=zr V11;clear pA0 pA1 pA2 pA3 pA4;have pb0:=(zx HX1 Bz).cell 0 (.int .i64 x.at_) rfl;go_wp2_with fail
    (try simp only[vA,vBa,vC])
    refine zl (zza [0,1,2,3,4,5,6,7,8,9,10,11] .done) [] (zIa pb0) ?_;iterate 4 (refine zUa ?_;try simp only[uW,uX,uY,uZ])
    iterate 7 (refine zN rfl rfl ?_;try simp only[uW,uX,uY,uZ])
    refine zUa ?_;try simp only[uW,uX,uY,uZ]
    refine zAa ?_;go_wp2_with fail
    go_ret2
    have hF:=bT (c:=V11) hB Bz;have hno:=all_no HTI.out HP.out;exact TellsLD.no (by rw[←HOK.out];exact hno) (bT hF)
   ·have kb:decide (x.at_<0)=false:=fA k1;by_cases k2:(n:Int)≤x.at_
    ·have HP:Hid (fitT n x=false):=zh (by unfold fitT;rw[fA (p:=x.at_<(n:Int)) zo,Bool.and_false]);have Bz:=zr wr;obtain⟨pA0,pA1,pA2,pA3,pA4,-⟩:=(hnd.below Bz).ez;go_upto_region 4 with(fail)
     obtain⟨V11,hW,x1,hN⟩:=zAc wr #[.int .i64 x.at_,.bool x.x.s,.slice x.x.A x.x.l x.x.c,.bool x.x.s',.slice x.x.A' x.x.l' x.x.c'] 32;rw[←hW];clear hW;obtain⟨v1,hb1⟩:=ze wr.heap.size;rw[←hb1] at x1 ⊢;have ow_1:w.heap.size≤v1:=zi (zww hB Bz);replace hB:=bT (bT hB Bz) hN;replace HFB:=zh ((HFB.out.below Bz).below hN);have HX1:=zh x1;clear x1 hN Bz hb1;have Bz:=zr V11;clear pA0 pA1 pA2 pA3 pA4;have pa1:=(HFB.out.below Bz).cell 1 (.int .i64 (n:Int)) rfl;have pb0:=(zx HX1 Bz).cell 0 (.int .i64 x.at_) rfl;go_wp2_with fail
     (try simp only[vA,vBa,vC])
     refine zl (zza [0,1,2,3,4,5,6,7,8,9,10,11] .done) [] (zsa pa1 (zIa pb0)) ?_;iterate 12 (refine zUa ?_;try simp only[uW,uX,uY,uZ])
     refine zAa ?_;go_wp2_with fail
     go_ret2
     have hF:=bT (c:=V11) hB Bz;have hno:=all_no HTI.out HP.out;exact TellsLD.no (by rw[←HOK.out];exact hno) (bT hF)
    ·have HP:Hid (fitT n x=true):=zh (by unfold fitT;rw[jA zo,jA zo];rfl);have k3:¬x.at_≥(n:Int):=zo;have Bz:=zr wr;obtain⟨pA0,pA1,pA2,pA3,pA4,-⟩:=(hnd.below Bz).ez;go_upto_region 4 with(fail)
     obtain⟨V11,hW,x1,hN⟩:=zAc wr #[.int .i64 x.at_,.bool x.x.s,.slice x.x.A x.x.l x.x.c,.bool x.x.s',.slice x.x.A' x.x.l' x.x.c'] 32;rw[←hW];clear hW;obtain⟨v1,hb1⟩:=ze wr.heap.size;rw[←hb1] at x1 ⊢;have ow_1:w.heap.size≤v1:=zi (zww hB Bz);replace hho:=hho.below hN;replace hon:=hon.below hN;replace hB:=bT (bT hB Bz) hN;replace HFB:=zh ((HFB.out.below Bz).below hN);have HX1:=zh x1;clear x1 hN Bz hb1;have Bz:=zr V11;clear pA0 pA1 pA2 pA3 pA4;have pa1:=(HFB.out.below Bz).cell 1 (.int .i64 (n:Int)) rfl;have pb0:=(zx HX1 Bz).cell 0 (.int .i64 x.at_) rfl;go_wp2_with fail
     (try simp only[vA,vBa,vC])
     refine zl (zza [0,1,2,3,4,5,6,7,8,9,10,11] .done) [] (zsa pa1 (zIa pb0)) ?_;iterate 12 (refine zUa ?_;try simp only[uW,uX,uY,uZ])
     refine zAa ?_;go_wp2_with fail
     go_roundg (nm-(i+1))
     case measure=>have:=HGK.out;omega
     case rel=>exact⟨i+1,zo,rfl,by go_num,OwnR.below hho,OnT.below hon,take_all HD.out HTI.out HP.out,HFB.out.below (bT Bz),bT (bT hB Bz)⟩
  ·obtain rfl:nm=i:=zo;have i1:¬(nm:Int)<(nm:Int):=zo;have HFT:Hid (fitsB n (nrm P)=true):=zh (by rw[←HOK.out];exact all_yes HTL.out HD.out);have pa1:=HFB.out.cell 1 (.int .i64 (n:Int)) rfl;have hTr:=zh (hT.out.below hB);have HXr:=zh (HX.out.below hB);by_cases hn0:n<1
   ·have hdq:=dense_no (w:=wr) (X:=X) (nx:=bn) (cx:=bc) (n:Int) zo;go_wp2_with fail
    with_reducible refine hdq.mono ?_
    rintro e w2 ⟨rfl,b2⟩;go_wp2_with fail
    go_ret2
    obtain rfl:n=0:=zo;exact⟨bT hB b2,.inr ⟨HFT.out,none,0,[],rfl,OwnR.nil _ _ _ _,(fun x hx=>by cases hx),rfl⟩⟩
   ·have hdq:=denseO_q (m:=n) HXr.out hM hM2 zo zo zo hTr;go_wp2_with fail
    with_reducible refine hdq.mono ?_
    rintro e w2 ⟨g,D,rfl,ho2,hal,hqs,b2⟩;go_wp2_with fail
    go_ret2
    exact⟨bT hB b2,.inr ⟨HFT.out,_,_,D,rfl,ho2.rebase hB.size,hal,hqs⟩⟩
end Go.Proofs.YteggjbgbknkoiaaGreatDoor
