import Derived.Test.YteggjbgbknkoiaaGreatDoorUMxR
set_option maxHeartbeats 16000000
set_option maxRecDepth 100000
namespace Go.Proofs.YteggjbgbknkoiaaGreatDoor
open Go.RowKit Tw
theorem better_q {w:World} (a b:Piv) (t:Bool) (ht:Hid (a.less b=t)) :
  Calls Tryz.prog 77 #[.agg #[.int .i64 a.cost,.int .i64 a.col,.int .i64 a.row],.agg #[.int .i64 b.cost,.int .i64 b.col,.int .i64 b.row]] w fun e w'=>e=.returned (.bool t)∧Below w.heap.size w w':=by
 by_cases h0:a.cost≠b.cost
 ·have g0:(a.cost != b.cost)=true:=by simpa using h0
  obtain⟨W,hW,x0,x1,hB⟩:=boxes2 w #[.int .i64 a.cost,.int .i64 a.col,.int .i64 a.row] 70 #[.int .i64 b.cost,.int .i64 b.col,.int .i64 b.row] 70;have HX0:=zh x0;have HX1:=zh x1;clear x0 x1;have Bz:=zr W;have pa0:=(zxb HX0 Bz).cell 0 (.int .i64 a.cost) rfl;have pb0:=(zxb HX1 Bz).cell 0 (.int .i64 b.cost) rfl;go_enter Tryz.func77,Tryz.ntmps77
  go_wp2_with fail
  rw[←hW];clear hW;go_wp2_with fail
  go_ret
  have hF:=bT (c:=W) hB Bz;exact⟨by rw[←ht.out];unfold Piv.less;rw[gA h0];try rfl,bT hF⟩
 ·have g0:(a.cost != b.cost)=false:=by simpa using h0
  by_cases h1:a.col≠b.col
  ·have g1:(a.col != b.col)=true:=by simpa using h1
   obtain⟨W,hW,x0,x1,hB⟩:=boxes2 w #[.int .i64 a.cost,.int .i64 a.col,.int .i64 a.row] 70 #[.int .i64 b.cost,.int .i64 b.col,.int .i64 b.row] 70;have HX0:=zh x0;have HX1:=zh x1;clear x0 x1;have Bz:=zr W;obtain⟨pa0,pa1,-⟩:=(zxb HX0 Bz).cz;obtain⟨pb0,pb1,-⟩:=(zxb HX1 Bz).cz;go_enter Tryz.func77,Tryz.ntmps77
   go_wp2_with fail
   rw[←hW];clear hW;go_wp2_with fail
   go_ret
   have hF:=bT (c:=W) hB Bz;exact⟨by rw[←ht.out];unfold Piv.less;rw[fA h0,gA h1];try rfl,bT hF⟩
  ·have g1:(a.col != b.col)=false:=by simpa using h1
   obtain⟨W,hW,x0,x1,hB⟩:=boxes2 w #[.int .i64 a.cost,.int .i64 a.col,.int .i64 a.row] 70 #[.int .i64 b.cost,.int .i64 b.col,.int .i64 b.row] 70;have HX0:=zh x0;have HX1:=zh x1;clear x0 x1;have Bz:=zr W;obtain⟨pa0,pa1,pa2,-⟩:=(zxb HX0 Bz).cz;obtain⟨pb0,pb1,pb2,-⟩:=(zxb HX1 Bz).cz;go_enter Tryz.func77,Tryz.ntmps77
   go_wp2_with fail
   rw[←hW];clear hW;go_wp2_with fail
   go_ret
   have hF:=bT (c:=W) hB Bz;exact⟨by rw[←ht.out];unfold Piv.less;rw[fA h0,fA h1];try rfl,bT hF⟩
theorem mul_small {a b:Int} (ha:-1≤a∧a≤1000) (hb:-1≤b) (hb':b≤1000000):-1000000000≤a*b∧a*b≤1000000000:=by
 have h1:a*b≤1000*1000000:=by
  rcases Int.lt_or_le b 0 with h | h
  ·have:b = -1:=zo;subst this;omega
  ·exact Int.le_trans (Int.mul_le_mul_of_nonneg_right ha.2 h) (Int.mul_le_mul_of_nonneg_left hb' zo)
 have h2:-1000000000≤a*b:=by
  rcases Int.lt_or_le b 0 with h | h
  ·have:b = -1:=zo;subst this;omega
  ·have h3:=Int.mul_le_mul_of_nonneg_right ha.1 h;omega
 exact⟨h2,zo⟩
theorem nvo {b g n c:Nat} (h:b≠g):some b≠(Value.slice (some ⟨g,0,none⟩) n c).ownBlock:=fun e=>h (Option.some.inj e)
def TellsNx (w:World) (r:Option Piv) (e:Ending) (w':World):Prop :=
 ∃p:Piv,e=.returned (.tuple #[.agg #[.int .i64 p.cost,.int .i64 p.col,.int .i64 p.row],.bool r.isSome])∧(∀q,r=some q→p=q)∧Below w.heap.size w w'
def NX1 (w:World) (gc n:Nat) (R:List (List (Int×Rat))) (OB:List Bool) (gk:Nat) (s:Value) (wr:World):Prop :=
 ∃i:Nat,i≤n∧n-i=gk∧s=.int .i64 (i:Int)∧OwnR wr w.heap.size 3 1 (.slice (some ⟨gc,0,none⟩) n n) n (flat ics (cntUp R OB i))∧CntOk (cntUp R OB i) (1000*(i:Int))∧Bx wr w.heap.size #[.int .i64 0,.int .i64 0,.int .i64 0] 70∧Below w.heap.size w wr
def NX2 (w:World) (gc n m:Nat) (C0:List Int) (K:Int) (P:List (Int×Rat)) (gk:Nat) (s:Value) (wr:World):Prop :=
 ∃(j:Nat) (C:List Int),j≤m∧m-j=gk∧s=.int .i64 (j:Int)∧OwnR wr w.heap.size 3 1 (.slice (some ⟨gc,0,none⟩) n n) n (flat ics C)∧C=bumps C0 (P.take j)∧CntOk C (K+(j:Int))∧Bx wr w.heap.size #[.int .i64 0,.int .i64 0,.int .i64 0] 70∧Below w.heap.size w wr
def Holds (r:Option Piv) (p:Piv):Prop:=∀q,r=some q→p=q
def NX3 (w:World) (gc bb n:Nat) (R:List (List (Int×Rat))) (OB:List Bool) (C:List Int) (gk:Nat) (s f:Value) (wr:World):Prop :=
 ∃(i:Nat) (p:Piv),i≤n∧n-i=gk∧s=.int .i64 (i:Int)∧f=.bool (bestUp R OB C i).isSome∧OwnR wr w.heap.size 3 1 (.slice (some ⟨gc,0,none⟩) n n) n (flat ics C)∧Holds (bestUp R OB C i) p∧Bx wr w.heap.size #[.int .i64 0,.int .i64 0,.int .i64 0] 70∧Bx wr bb #[.int .i64 p.cost,.int .i64 p.col,.int .i64 p.row] 70∧Below w.heap.size w wr
def NX4 (w:World) (gc bb n m:Nat) (b0:Option Piv) (L:List Piv) (C:List Int) (gk:Nat) (s f:Value) (wr:World):Prop :=
 ∃(j:Nat) (p:Piv),j≤m∧m-j=gk∧s=.int .i64 (j:Int)∧f=.bool ((L.take j).foldl bst b0).isSome∧OwnR wr w.heap.size 3 1 (.slice (some ⟨gc,0,none⟩) n n) n (flat ics C)∧Holds ((L.take j).foldl bst b0) p∧Bx wr w.heap.size #[.int .i64 0,.int .i64 0,.int .i64 0] 70∧Bx wr bb #[.int .i64 p.cost,.int .i64 p.col,.int .i64 p.row] 70∧Below w.heap.size w wr
theorem next_q {w:World} {A OA:Option Addr} {n c oc:Nat} {CL:List Vc} {OB:List Bool} (h:Sl Vc.cs 1 w A n c CL) (hv:Hid (∀v∈CL,Sl Tm.cs 5 w v.A v.n v.c v.L∧v.n≤12∧∀t∈v.L,0≤t.at_∧t.at_<(n:Int))) (hob:Sl bls 1 w OA n oc OB) (hn:n≤12) :
  Calls Tryz.prog 38 #[.slice A n c,.slice OA n oc] w (TellsNx w (nextF (CL.map fun v=>prs v.L) OB)):=by
 have H:=zh h;have HLN:=zh h.1;have HO:=zh hob;have HLO:=zh hob.1;obtain⟨R,hR⟩:∃R,R=CL.map fun v=>prs v.L:=⟨_,rfl⟩;have HR:=zh hR;have HRL:Hid (R.length=n):=zh (by rw[hR,cB];exact h.1);rw[←hR];clear h hob hR;obtain⟨W,hW,x0,hB⟩:=zAe w #[.int .i64 0,.int .i64 0,.int .i64 0] 70;have HX0:=zh x0;have HBW:=zh hB;clear x0 hB;go_enter Tryz.func38,Tryz.ntmps38
 go_wp2_with (at_make;refine And.left (b:=True) ?_)
 rw[←hW];clear hW;refine⟨?_,trivial⟩;refine Elt.makeN elt_ics 0 (fun i z h1 h2=>by have h3:Tryz.prog.info? 3=some i:=h1;exact int_zero h3 h2) rfl _ _ rfl .i64 .i64 n rfl rfl zo W.heap.size (cA _) ?_;intro gc w1 ho1 b1;have HG1:Hid (w.heap.size<gc):=zh (by have h1:=ho1.base gc rfl;have h2:=HX0.out.lt;omega);have HO1:Hid (OwnR w1 w.heap.size 3 1 (.slice (some ⟨gc,0,none⟩) n n) n (flat ics (cntUp R OB 0))):=zh (by unfold cntUp;rw[HRL.out];exact ho1.rebase HBW.out.size);have HB1:=zh (bT HBW.out b1);have HX1:=zh (HX0.out.below b1);clear ho1 b1 HX0 HBW;go_wp2_with fail
 go_loopg [24] n (fun gk s wr=>NX1 w gc n R OB gk s wr)
 case atStart=>exact⟨0,nA _,rfl,rfl,HO1.out.below (by go_grown),CntOk.start _,HX1.out.below (by go_grown),bT HB1.out⟩
 case round =>
  clear HX1 HO1 HB1;obtain⟨i,hi,hgk,rfl,ho,hck,hx0,hB⟩:=hrel;have HGK:=zh hgk;have HX0:=zh hx0;have HCK:=zh hck;clear hgk hx0 hck;by_cases hlt:i<n
  ·obtain⟨b,off,rfl,hel⟩:=H.out.at Vc.cs_len zo zo;obtain⟨⟨VA,vn,vc,VL⟩,hv0⟩:∃v,CL[i]?=some v:=⟨CL[i]'(by rw[HLN.out];exact hlt),aA _⟩;have hnd0:ElA w b (off+i) (Vc.mk VA vn vc VL).cs:=by have:=hel i _ hv0;rwa [wC] at this
   have hcv:=hv.out _ (dA hv0);have HRI:Hid (R.getD i []=prs VL):=zh (by rw[HR.out,bA,rA,hv0];rfl);obtain⟨ob,oo,rfl,helo⟩:=HO.out.at bls_len zo zo;obtain⟨o,ho0⟩:∃o,OB[i]?=some o:=⟨OB[i]'(by rw[HLO.out];exact hlt),aA _⟩;have hnd1:ElA w ob (oo+i) (bls o):=by have:=helo i o ho0;rwa [wC] at this
   have HOI:Hid (OB.getD i false=o):=zh (by rw[bA,ho0];rfl);have p0:=(hnd0.below hB).c0 (u:=.slice VA vn vc) rfl;have p1:=(hnd1.below hB).c0 (u:=.bool o) rfl;have i1:(i:Int)<(n:Int):=zo;have i2:(0:Int)≤(i:Int):=zo;have HVS:=zh hcv.1;have hvn:=hcv.2.1;have HAT:=zh hcv.2.2;clear hel hv0 hcv hnd0 hnd1 helo ho0;cases o
   ·have HC2:Hid (cntUp R OB (i+1)=cntUp R OB i):=zh (by show(if OB.getD i false=true then _ else _)=_;rw[HOI.out];rfl);go_wp2_with fail
    go_roundg (n-(i+1))
    case measure=>have:=HGK.out;omega
    case rel=>exact⟨i+1,zo,rfl,by go_num,by rw[HC2.out];exact OwnR.below ho,by rw[HC2.out];exact HCK.out.mono zo,HX0.out.below (by go_grown),bT hB⟩
   ·have HC2:Hid (cntUp R OB (i+1)=bumps (cntUp R OB i) (prs VL)):=zh (by show(if OB.getD i false=true then _ else _)=_;rw[HOI.out,HRI.out];rfl);have HO2:=zh ho;have HB2:=zh hB;have HX2:=zh HX0.out;have HVL:=zh HVS.out.1;clear ho;go_wp2_with fail
    go_loopg [35] vn (fun gk s wr=>NX2 w gc n vn (cntUp R OB i) (1000*(i:Int)) (prs VL) gk s wr)
    case atStart=>exact⟨0,_,nA _,rfl,rfl,HO2.out.below (by go_grown),rfl,by rw[Int.natCast_zero,Int.add_zero];exact HCK.out,HX2.out.below (by go_grown),bT HB2.out⟩
    case round =>
     clear HX0 HX2 HO2 HB2 hB;obtain⟨j,C,hj,hgj,rfl,ho,hC,hck,hx0,hB⟩:=hrel;have HGJ:=zh hgj;have HX0:=zh hx0;have HCC:=zh hC;have HCJ:=zh hck;have HLC:=zh (ho.eltn elt_ics zo);clear hgj hx0 hC hck;by_cases hlj:j<vn
     ·obtain⟨eb,eo,rfl,hel⟩:=HVS.out.at Tm.cs_len zo zo;obtain⟨x,hx⟩:∃x,VL[j]?=some x:=⟨VL[j]'(by rw[HVL.out];exact hlj),aA _⟩;have hnd:=hel j x hx;have hxa:=HAT.out x (dA hx);obtain⟨y,hy⟩:∃y,C[x.at_.toNat]?=some y:=⟨C[x.at_.toNat]'(by rw[HLC.out];omega),aA _⟩;have HY:=zh hy;have hyr:=HCJ.out y (dA hy);have HC3:Hid (C.set x.at_.toNat (y+1)=bumps (cntUp R OB i) ((prs VL).take (j+1))):=zh (by
       rw[bumps_snoc (prs_get hx),←HCC.out];show _=C.set x.at_.toNat (C.getD x.at_.toNat 0+1)
       rw[bA,hy];rfl)
      have HK3:Hid (CntOk (C.set x.at_.toNat (y+1)) (1000*(i:Int)+((j+1:Nat):Int))):=zh (by
       have h9:=HCJ.out.bump zo x.at_;have e9:bump C x.at_=C.set x.at_.toNat (y+1):=by unfold bump;rw[bA,hy];rfl
       rw[e9] at h9;exact h9.mono zo)
      have j1:(j:Int)<(vn:Int):=zo;have j2:(0:Int)≤(j:Int):=zo;have a1:0≤x.at_:=hxa.1;have a2:x.at_<(n:Int):=hxa.2;have ywr:IntKind.i64.wrap (y+1)=y+1:=IntWalk.i64_in _ zo;clear hel hx hy hxa;have Bz:=zr wr;obtain⟨pA0,pA1,pA2,pA3,pA4,-⟩:=(hnd.below (bT hB Bz)).ez;go_upto_region 9 with(fail)
      obtain⟨V11,hW,x1,hN⟩:=zAe wr #[.int .i64 x.at_,.bool x.x.s,.slice x.x.A x.x.l x.x.c,.bool x.x.s',.slice x.x.A' x.x.l' x.x.c'] 32;rw[←hW];clear hW;obtain⟨v1,hb1⟩:=ze wr.heap.size;rw[←hb1] at x1 ⊢;have o0_1:w.heap.size<v1:=zi (zxb HX0 Bz).lt;have ow_1:w.heap.size≤v1:=zi (zw hB Bz);replace ho:=ho.below hN;replace hB:=bT (bT hB Bz) hN;replace HX0:=zba HX0 Bz hN;have HX1:=zh x1;clear x1 hN Bz hb1;have Bz:=zr V11;clear pA0 pA1 pA2 pA3 pA4;have pb0:=(zxb HX1 Bz).cell 0 (.int .i64 x.at_) rfl;have pB0:=int_cell ho HY.out;have fB0:=ho.frozen x.at_.toNat;have y51:=ho.blk.1;go_upto_region 10 with(fail)
      obtain⟨V12,hV,ho2,hg2⟩:=int_store ho HY.out (y+1);rw[←hV];clear hV;replace hB:=(bT hB Bz).trans (hg2.below (zi (zw hB Bz)) (fun g' hg'=>by have:=ho.base g' hg';omega));replace HX0:=zh (hg2.bx (zxb HX0 Bz) (nvo (zi HG1.out)));clear HX1;clear ho;have ho:=ho2;clear ho2 hg2 Bz;have Bz:=zr V12;clear pb0 pB0 fB0 y51;go_wp2_with fail
      go_roundg (vn-(j+1))
      case measure=>have:=HGJ.out;omega
      case rel=>exact⟨j+1,_,zo,rfl,by go_num,OwnR.below ho,HC3.out,HK3.out,HX0.out.below (bT Bz),bT (bT hB Bz)⟩
     ·obtain rfl:j=vn:=zo;have j1:¬(j:Int)<(j:Int):=zo;have HC4:Hid (C=cntUp R OB (i+1)):=zh (by rw[HC2.out,HCC.out,eA (by rw[prs_len,HVL.out];exact cA _)]);go_wp2_with fail
      go_roundg (n-(i+1))
      case measure=>have:=HGK.out;omega
      case rel=>exact⟨i+1,zo,rfl,by go_num,by rw[←HC4.out];exact OwnR.below ho,by rw[←HC4.out];exact HCJ.out.mono zo,HX0.out.below (by go_grown),bT hB⟩
  ·obtain rfl:i=n:=zo;have i1:¬(i:Int)<(i:Int):=zo;obtain⟨C,hC0⟩:∃C,C=cntUp R OB i:=⟨_,rfl⟩;have HCE:Hid (nextF R OB=bestUp R OB C i):=zh (by unfold nextF;rw[HRL.out,hC0]);rw[←hC0] at ho;have HCN:Hid (CntOk C 1000000):=zh (by rw[hC0];exact HCK.out.mono zo);have HLC:=zh (ho.eltn elt_ics zo);clear hC0 HCK HGK;go_upto_region 14 with(fail)
   obtain⟨V1,hW,x1,hN⟩:=zAe wr #[.int .i64 0,.int .i64 0,.int .i64 0] 70;rw[←hW];clear hW;obtain⟨bb,hb1⟩:=ze wr.heap.size;rw[←hb1] at x1 ⊢;have hgb:gc<bb:=zi (ho.lt gc rfl);have HBB:Hid (w.heap.size<bb∧gc<bb):=zh ⟨by have:=HX0.out.lt;omega,hgb⟩;have HO3:=zh (ho.below hN);have HX3:=zh (zxb HX0 hN);have HX4:=zh x1;have HB3:=zh (bT hB hN);clear ho hN x1 hb1 hgb hB HX0;go_wp2_with fail
   go_loopg [13,50] i (fun gk f s wr=>NX3 w gc bb i R OB C gk s f wr)
   case atStart=>exact⟨0,⟨0,0,0⟩,nA _,rfl,rfl,rfl,HO3.out.below (by go_grown),nofun,HX3.out.below (by go_grown),HX4.out.below (by go_grown),bT HB3.out⟩
   case round =>
    clear HO3 HX3 HX4 HB3;obtain⟨k,p,hi,hgk,rfl,rfl,ho,hp,hx0,hx1,hB⟩:=hrel;have HGK:=zh hgk;have HX0:=zh hx0;have HX1:=zh hx1;have HP:=zh hp;clear hgk hx0 hx1 hp i1;by_cases hlt:k<i
    ·obtain⟨b,off,rfl,hel⟩:=H.out.at Vc.cs_len zo zo;obtain⟨⟨VA,vn,vc,VL⟩,hv0⟩:∃v,CL[k]?=some v:=⟨CL[k]'(by rw[HLN.out];exact hlt),aA _⟩;have hnd0:ElA w b (off+k) (Vc.mk VA vn vc VL).cs:=by have:=hel k _ hv0;rwa [wC] at this
     have hcv:=hv.out _ (dA hv0);have HRI:Hid (R.getD k []=prs VL):=zh (by rw[HR.out,bA,rA,hv0];rfl);obtain⟨ob,oo,rfl,helo⟩:=HO.out.at bls_len zo zo;obtain⟨o,ho0⟩:∃o,OB[k]?=some o:=⟨OB[k]'(by rw[HLO.out];exact hlt),aA _⟩;have hnd1:ElA w ob (oo+k) (bls o):=by have:=helo k o ho0;rwa [wC] at this
     have HOI:Hid (OB.getD k false=o):=zh (by rw[bA,ho0];rfl);have p0:=(hnd0.below hB).c0 (u:=.slice VA vn vc) rfl;have p1:=(hnd1.below hB).c0 (u:=.bool o) rfl;have i1:(k:Int)<(i:Int):=zo;have i2:(0:Int)≤(k:Int):=zo;have HVS:=zh hcv.1;have hvn:=hcv.2.1;have HAT:=zh hcv.2.2;clear hel hv0 hcv hnd0 hnd1 helo ho0;cases o
     ·have HC2:Hid (bestUp R OB C (k+1)=bestUp R OB C k):=zh (by show(if OB.getD k false=true then _ else _)=_;rw[HOI.out];rfl);go_wp2_with fail
      go_roundg (i-(k+1))
      case measure=>have:=HGK.out;omega
      case rel=>exact⟨k+1,p,zo,rfl,by go_num,by rw[HC2.out],OwnR.below ho,by rw[HC2.out];exact HP.out,HX0.out.below (by go_grown),HX1.out.below (by go_grown),bT hB⟩
     ·have HC2:Hid (bestUp R OB C (k+1)=(cand C k (prs VL)).foldl bst (bestUp R OB C k)):=zh (by show(if OB.getD k false=true then _ else _)=_;rw[HOI.out,HRI.out];rfl);obtain⟨b0,hb0⟩:∃b0,b0=bestUp R OB C k:=⟨_,rfl⟩;rw[←hb0] at HC2 HP ⊢;clear hb0;have HO2:=zh ho;have HB2:=zh hB;have HX2:=zh HX0.out;have HX3:=zh HX1.out;have HVL:=zh HVS.out.1;clear ho;go_wp2_with fail
      go_loopg [13,62] vn (fun gk f s wr=>NX4 w gc bb i vn b0 (cand C k (prs VL)) C gk s f wr)
      case atStart=>exact⟨0,p,nA _,rfl,rfl,rfl,HO2.out.below (by go_grown),HP.out,HX2.out.below (by go_grown),HX3.out.below (by go_grown),bT HB2.out⟩
      case round =>
       clear HX0 HX1 HX2 HX3 HO2 HB2 hB;obtain⟨j,q,hj,hgj,rfl,rfl,ho,hp,hx0,hx1,hB⟩:=hrel;have HGJ:=zh hgj;have HX0:=zh hx0;have HX1:=zh hx1;have HPQ:=zh hp;clear hgj hx0 hx1 hp;by_cases hlj:j<vn
       ·obtain⟨eb,eo,rfl,hel⟩:=HVS.out.at Tm.cs_len zo zo;obtain⟨x,hx⟩:∃x,VL[j]?=some x:=⟨VL[j]'(by rw[HVL.out];exact hlj),aA _⟩;have hnd:=hel j x hx;have hxa:=HAT.out x (dA hx);obtain⟨y,hy⟩:∃y,C[x.at_.toNat]?=some y:=⟨C[x.at_.toNat]'(by rw[HLC.out];omega),aA _⟩;have HY:=zh hy;have hyr:=HCN.out y (dA hy);have hcg:(cand C k (prs VL))[j]?=some ⟨((vn:Int)-1)*(y-1),x.at_,(k:Int)⟩:=by
         rw[cand_get (prs_get hx),prs_len,HVL.out,bA,hy];rfl
        have HFS:=zh (bst_snoc hcg b0);have j1:(j:Int)<(vn:Int):=zo;have j2:(0:Int)≤(j:Int):=zo;have a1:0≤x.at_:=hxa.1;have a2:x.at_<(i:Int):=hxa.2;have w1:IntKind.i64.wrap ((vn:Int)-1)=(vn:Int)-1:=IntWalk.i64_in _ zo;have w2:IntKind.i64.wrap (y-1)=y-1:=IntWalk.i64_in _ zo;have hpr:=mul_small (a:=(vn:Int)-1) (b:=y-1) zo zo zo;have w3:IntKind.i64.wrap (((vn:Int)-1)*(y-1))=((vn:Int)-1)*(y-1):=IntWalk.i64_in _ zo;have hB1:w.heap.size<bb:=HBB.out.1;have hB2:gc<bb:=HBB.out.2;have nv1_own:some bb≠(Value.slice (some ⟨gc,0,none⟩) i i).ownBlock:=nvo zo;clear hel hx hy hxa hcg hpr;cases hfo:((cand C k (prs VL)).take j).foldl bst b0 with
        | none =>
         have HS1:Hid (((cand C k (prs VL)).take (j+1)).foldl bst b0=some ⟨((vn:Int)-1)*(y-1),x.at_,(k:Int)⟩∧Holds (((cand C k (prs VL)).take (j+1)).foldl bst b0) ⟨((vn:Int)-1)*(y-1),x.at_,(k:Int)⟩):=zh (by rw[HFS.out,hfo];exact⟨rfl,fun _ e=>by cases e;rfl⟩);clear hfo HFS HPQ;simp only[Option.isSome_none]
         have Bz:=zr wr;obtain⟨pA0,pA1,pA2,pA3,pA4,-⟩:=(hnd.below (bT hB Bz)).ez;go_upto_region 22 with(fail)
         obtain⟨V11,hW,x2,hN⟩:=zAe wr #[.int .i64 x.at_,.bool x.x.s,.slice x.x.A x.x.l x.x.c,.bool x.x.s',.slice x.x.A' x.x.l' x.x.c'] 32;rw[←hW];clear hW;obtain⟨v2,hb2⟩:=ze wr.heap.size;rw[←hb2] at x2 ⊢;have o0_2:w.heap.size<v2:=zi (zxb HX0 Bz).lt;have o1_2:bb<v2:=zi (zxb HX1 Bz).lt;have ow_2:w.heap.size≤v2:=zi (zw hB Bz);replace ho:=ho.below hN;replace hB:=bT (bT hB Bz) hN;replace HX0:=zba HX0 Bz hN;replace HX1:=zba HX1 Bz hN;have HX2:=zh x2;clear x2 hN Bz hb2;have Bz:=zr V11;clear pA0 pA1 pA2 pA3 pA4;have pc0:=(zxb HX2 Bz).cell 0 (.int .i64 x.at_) rfl;have pB0:=int_cell ho HY.out;go_wp2_with fail
         (try simp only[vAa,vBa,vC])
         refine zl (.pure 0 (.pure 1 (.pure 2 (.pure 3 (.pure 4 (.take 5 (.pure 6 (.take 7 (.pure 8 (.pure 9 (.pure 10 (.take 11 (.pure 12 (.pure 13 (.only 14 (.only 15 .done)))))))))))))))) [15] (zsa pc0 (zIa pB0)) ?_;iterate 14 ((first|refine zV ?_|refine zUa ?_);try simp only[uW,uX,uY,uZ])
         refine zC 18 rfl rfl (fun K hK=>?_);go_simp
         refine hK.out _ _ ⟨(zAd pc0),(zAd pB0)⟩ (fun _=>?_);try simp only[uW,uX,uY,uZ]
         clear hK K;refine zAc (o:=⟨none,_,_,_,_,_⟩) rfl rfl zd (fun K hK=>?_);go_simp
         refine hK.out _ _ ?_;try simp only[Act.put,uX,uY,uZ]
         clear hK K;refine zAa ?_;obtain⟨V12,hW,x3,hN⟩:=zAe V11 #[.int .i64 (((vn:Int)-1)*(y-1)),.int .i64 x.at_,.int .i64 (k:Int)] 70;rw[←hW];clear hW;obtain⟨v3,hb3⟩:=ze V11.heap.size;rw[←hb3] at x3 ⊢;have o0_3:w.heap.size<v3:=zi (zxb HX0 Bz).lt;have o1_3:bb<v3:=zi (zxb HX1 Bz).lt;have ow_3:w.heap.size≤v3:=zi (zw hB Bz);replace ho:=ho.below hN;replace hB:=bT (bT hB Bz) hN;replace HX0:=zba HX0 Bz hN;replace HX1:=zba HX1 Bz hN;replace HX2:=zba HX2 Bz hN;have HX3:=zh x3;clear x3 hN Bz hb3;have Bz:=zr V12;clear pc0 pB0;obtain⟨pb0,pb1,pb2,-⟩:=(zxb HX1 Bz).cz;obtain⟨y1,fb0,fb1,fb2,-⟩:=(zxb HX1 Bz).fz;obtain⟨pd0,pd1,pd2,-⟩:=(zxb HX3 Bz).cz;go_upto_region 25 with(fail)
         obtain⟨V13,hW,x,kk,far,bel⟩:=store3 (.int .i64 (((vn:Int)-1)*(y-1))) (.int .i64 x.at_) (.int .i64 (k:Int)) (zxb HX1 Bz) nofun nofun nofun;rw[←hW];clear hW;replace ho:=ho.far2 far nv1_own;replace hB:=bel w.heap.size w zo (bT hB Bz);replace HX0:=zf far HX0 Bz;replace HX2:=zf far HX2 Bz;replace HX3:=zf far HX3 Bz;replace HX1:=zh x;clear x kk far bel Bz;have Bz:=zr V13;clear pb0 pb1 pb2 fb0 fb1 fb2 y1 pd0 pd1 pd2;go_wp2_with fail
         have hs1:=HS1.out;go_roundg (vn-(j+1))
         case measure=>have:=HGJ.out;omega
         case rel=>exact⟨j+1,⟨((vn:Int)-1)*(y-1),x.at_,(k:Int)⟩,zo,rfl,by go_num,by rw[hs1.1];rfl,OwnR.below ho,hs1.2,HX0.out.below (bT Bz),HX1.out.below (bT Bz),bT (bT hB Bz)⟩
        | some r =>
         obtain rfl:q=r:=HPQ.out r hfo;cases hls:Piv.less ⟨((vn:Int)-1)*(y-1),x.at_,(k:Int)⟩ q
         ·have HS1:Hid (((cand C k (prs VL)).take (j+1)).foldl bst b0=some q∧Holds (((cand C k (prs VL)).take (j+1)).foldl bst b0) q):=zh (by rw[HFS.out,hfo,bst_no hls];exact⟨rfl,fun _ e=>by cases e;rfl⟩);have HLS:=zh hls;clear hfo HFS HPQ hls;simp only[Option.isSome_some]
          have Bz:=zr wr;obtain⟨pA0,pA1,pA2,pA3,pA4,-⟩:=(hnd.below (bT hB Bz)).ez;go_upto_region 22 with(fail)
          obtain⟨V11,hW,x2,hN⟩:=zAe wr #[.int .i64 x.at_,.bool x.x.s,.slice x.x.A x.x.l x.x.c,.bool x.x.s',.slice x.x.A' x.x.l' x.x.c'] 32;rw[←hW];clear hW;obtain⟨v2,hb2⟩:=ze wr.heap.size;rw[←hb2] at x2 ⊢;have o0_2:w.heap.size<v2:=zi (zxb HX0 Bz).lt;have o1_2:bb<v2:=zi (zxb HX1 Bz).lt;have ow_2:w.heap.size≤v2:=zi (zw hB Bz);replace ho:=ho.below hN;replace hB:=bT (bT hB Bz) hN;replace HX0:=zba HX0 Bz hN;replace HX1:=zba HX1 Bz hN;have HX2:=zh x2;clear x2 hN Bz hb2;have Bz:=zr V11;clear pA0 pA1 pA2 pA3 pA4;have pc0:=(zxb HX2 Bz).cell 0 (.int .i64 x.at_) rfl;have pB0:=int_cell ho HY.out;go_wp2_with fail
          (try simp only[vAa,vBa,vC])
          refine zl (.pure 0 (.pure 1 (.pure 2 (.pure 3 (.pure 4 (.take 5 (.pure 6 (.take 7 (.pure 8 (.pure 9 (.pure 10 (.take 11 (.pure 12 (.pure 13 (.only 14 (.only 15 .done)))))))))))))))) [15] (zsa pc0 (zIa pB0)) ?_;iterate 14 ((first|refine zV ?_|refine zUa ?_);try simp only[uW,uX,uY,uZ])
          refine zC 18 rfl rfl (fun K hK=>?_);go_simp
          refine hK.out _ _ ⟨(zAd pc0),(zAd pB0)⟩ (fun _=>?_);try simp only[uW,uX,uY,uZ]
          clear hK K;refine zAc (o:=⟨none,_,_,_,_,_⟩) rfl rfl zd (fun K hK=>?_);go_simp
          refine hK.out _ _ ?_;try simp only[Act.put,uX,uY,uZ]
          clear hK K;refine zAa ?_;obtain⟨V12,hW,x3,hN⟩:=zAe V11 #[.int .i64 (((vn:Int)-1)*(y-1)),.int .i64 x.at_,.int .i64 (k:Int)] 70;rw[←hW];clear hW;obtain⟨v3,hb3⟩:=ze V11.heap.size;rw[←hb3] at x3 ⊢;have o0_3:w.heap.size<v3:=zi (zxb HX0 Bz).lt;have o1_3:bb<v3:=zi (zxb HX1 Bz).lt;have ow_3:w.heap.size≤v3:=zi (zw hB Bz);replace ho:=ho.below hN;replace hB:=bT (bT hB Bz) hN;replace HX0:=zba HX0 Bz hN;replace HX1:=zba HX1 Bz hN;replace HX2:=zba HX2 Bz hN;have HX3:=zh x3;clear x3 hN Bz hb3;have Bz:=zr V12;clear pc0 pB0;obtain⟨pb0,pb1,pb2,-⟩:=(zxb HX1 Bz).cz;obtain⟨pd0,pd1,pd2,-⟩:=(zxb HX3 Bz).cz;go_wp2_with fail
          with_reducible refine(better_q ⟨((vn:Int)-1)*(y-1),x.at_,(k:Int)⟩ q false HLS).mono ?_
          rintro e w11 ⟨rfl,J⟩;replace J:=zq (a:=V12) J;replace ho:=ho.below J;replace Bz:=bT Bz J;clear J;clear pb0 pb1 pb2 pd0 pd1 pd2;go_wp2_with fail
          have hs1:=HS1.out;go_roundg (vn-(j+1))
          case measure=>have:=HGJ.out;omega
          case rel=>exact⟨j+1,q,zo,rfl,by go_num,by rw[hs1.1];rfl,OwnR.below ho,hs1.2,HX0.out.below (bT Bz),HX1.out.below (bT Bz),bT (bT hB Bz)⟩
         ·have HS1:Hid (((cand C k (prs VL)).take (j+1)).foldl bst b0=some ⟨((vn:Int)-1)*(y-1),x.at_,(k:Int)⟩∧Holds (((cand C k (prs VL)).take (j+1)).foldl bst b0) ⟨((vn:Int)-1)*(y-1),x.at_,(k:Int)⟩):=zh (by rw[HFS.out,hfo,bst_yes hls];exact⟨rfl,fun _ e=>by cases e;rfl⟩);have HLS:=zh hls;clear hfo HFS HPQ hls;simp only[Option.isSome_some]
          have Bz:=zr wr;obtain⟨pA0,pA1,pA2,pA3,pA4,-⟩:=(hnd.below (bT hB Bz)).ez;go_upto_region 22 with(fail)
          obtain⟨V11,hW,x2,hN⟩:=zAe wr #[.int .i64 x.at_,.bool x.x.s,.slice x.x.A x.x.l x.x.c,.bool x.x.s',.slice x.x.A' x.x.l' x.x.c'] 32;rw[←hW];clear hW;obtain⟨v2,hb2⟩:=ze wr.heap.size;rw[←hb2] at x2 ⊢;have o0_2:w.heap.size<v2:=zi (zxb HX0 Bz).lt;have o1_2:bb<v2:=zi (zxb HX1 Bz).lt;have ow_2:w.heap.size≤v2:=zi (zw hB Bz);replace ho:=ho.below hN;replace hB:=bT (bT hB Bz) hN;replace HX0:=zba HX0 Bz hN;replace HX1:=zba HX1 Bz hN;have HX2:=zh x2;clear x2 hN Bz hb2;have Bz:=zr V11;clear pA0 pA1 pA2 pA3 pA4;have pc0:=(zxb HX2 Bz).cell 0 (.int .i64 x.at_) rfl;have pB0:=int_cell ho HY.out;go_wp2_with fail
          (try simp only[vAa,vBa,vC])
          refine zl (.pure 0 (.pure 1 (.pure 2 (.pure 3 (.pure 4 (.take 5 (.pure 6 (.take 7 (.pure 8 (.pure 9 (.pure 10 (.take 11 (.pure 12 (.pure 13 (.only 14 (.only 15 .done)))))))))))))))) [15] (zsa pc0 (zIa pB0)) ?_;iterate 14 ((first|refine zV ?_|refine zUa ?_);try simp only[uW,uX,uY,uZ])
          refine zC 18 rfl rfl (fun K hK=>?_);go_simp
          refine hK.out _ _ ⟨(zAd pc0),(zAd pB0)⟩ (fun _=>?_);try simp only[uW,uX,uY,uZ]
          clear hK K;refine zAc (o:=⟨none,_,_,_,_,_⟩) rfl rfl zd (fun K hK=>?_);go_simp
          refine hK.out _ _ ?_;try simp only[Act.put,uX,uY,uZ]
          clear hK K;refine zAa ?_;obtain⟨V12,hW,x3,hN⟩:=zAe V11 #[.int .i64 (((vn:Int)-1)*(y-1)),.int .i64 x.at_,.int .i64 (k:Int)] 70;rw[←hW];clear hW;obtain⟨v3,hb3⟩:=ze V11.heap.size;rw[←hb3] at x3 ⊢;have o0_3:w.heap.size<v3:=zi (zxb HX0 Bz).lt;have o1_3:bb<v3:=zi (zxb HX1 Bz).lt;have ow_3:w.heap.size≤v3:=zi (zw hB Bz);replace ho:=ho.below hN;replace hB:=bT (bT hB Bz) hN;replace HX0:=zba HX0 Bz hN;replace HX1:=zba HX1 Bz hN;replace HX2:=zba HX2 Bz hN;have HX3:=zh x3;clear x3 hN Bz hb3;have Bz:=zr V12;clear pc0 pB0;obtain⟨pb0,pb1,pb2,-⟩:=(zxb HX1 Bz).cz;obtain⟨pd0,pd1,pd2,-⟩:=(zxb HX3 Bz).cz;go_wp2_with fail
          with_reducible refine(better_q ⟨((vn:Int)-1)*(y-1),x.at_,(k:Int)⟩ q true HLS).mono ?_
          rintro e w11 ⟨rfl,J⟩;replace J:=zq (a:=V12) J;replace ho:=ho.below J;replace Bz:=bT Bz J;clear J;clear pb0 pb1 pb2 pd0 pd1 pd2;obtain⟨pb0,pb1,pb2,-⟩:=(zxb HX1 Bz).cz;obtain⟨y1,fb0,fb1,fb2,-⟩:=(zxb HX1 Bz).fz;obtain⟨pd0,pd1,pd2,-⟩:=(zxb HX3 Bz).cz;go_upto_region 25 with(fail)
          obtain⟨V13,hW,x,kk,far,bel⟩:=store3 (.int .i64 (((vn:Int)-1)*(y-1))) (.int .i64 x.at_) (.int .i64 (k:Int)) (zxb HX1 Bz) nofun nofun nofun;rw[←hW];clear hW;replace ho:=ho.far2 far nv1_own;replace hB:=bel w.heap.size w zo (bT hB Bz);replace HX0:=zf far HX0 Bz;replace HX2:=zf far HX2 Bz;replace HX3:=zf far HX3 Bz;replace HX1:=zh x;clear x kk far bel Bz;have Bz:=zr V13;clear pb0 pb1 pb2 fb0 fb1 fb2 y1 pd0 pd1 pd2;go_wp2_with fail
          have hs1:=HS1.out;go_roundg (vn-(j+1))
          case measure=>have:=HGJ.out;omega
          case rel=>exact⟨j+1,⟨((vn:Int)-1)*(y-1),x.at_,(k:Int)⟩,zo,rfl,by go_num,by rw[hs1.1];rfl,OwnR.below ho,hs1.2,HX0.out.below (bT Bz),HX1.out.below (bT Bz),bT (bT hB Bz)⟩
       ·obtain rfl:j=vn:=zo;have j1:¬(j:Int)<(j:Int):=zo;have HC4:Hid ((cand C k (prs VL)).take j=cand C k (prs VL)):=zh (eA (by unfold cand;rw[cB,prs_len,HVL.out];exact cA _));rw[HC4.out] at HPQ ⊢;rw[←HC2.out] at HPQ ⊢;go_wp2_with fail
        go_roundg (i-(k+1))
        case measure=>have:=HGK.out;omega
        case rel=>exact⟨k+1,q,zo,rfl,by go_num,rfl,OwnR.below ho,HPQ.out,HX0.out.below (by go_grown),HX1.out.below (by go_grown),bT hB⟩
    ·obtain rfl:k=i:=zo;have i1:¬(k:Int)<(k:Int):=zo;have Bz:=zr wr;have hB1:=HBB.out.1;clear ho;have Bz:=zr wr;obtain⟨pa0,pa1,pa2,-⟩:=(zxb HX0 Bz).cz;obtain⟨y0,fa0,fa1,fa2,-⟩:=(zxb HX0 Bz).fz;obtain⟨pb0,pb1,pb2,-⟩:=(zxb HX1 Bz).cz;go_wp2_with fail
     (try simp only[Exit.inBlock,Exit.then])
     refine bodyPost_ret (by simp[results,Tryz.results38,go_sem,pa0,pa1,pa2];try rfl) rfl ?_;obtain⟨V11,hW,x,kk,far,bel⟩:=store3 (.int .i64 p.cost) (.int .i64 p.col) (.int .i64 p.row) (zxb HX0 Bz) nofun nofun nofun;rw[←hW];clear hW;replace hB:=bel w.heap.size w zo (bT hB Bz);replace HX1:=zf far HX1 Bz;replace HX0:=zh x;clear x kk far bel Bz;have Bz:=zr V11;have hF:=bT (c:=V11) hB Bz;exact⟨p,by rw[HCE.out],by rw[HCE.out];exact HP.out,bT hF⟩
end Go.Proofs.YteggjbgbknkoiaaGreatDoor
