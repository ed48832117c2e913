/-
  lu's dense: a side as a row of numbers. Written by wip/gen/lu7.py.
-/
import Derived.Test.YtjkgjiofmgapfaaGreatDoorYLu6
set_option maxHeartbeats 8000000
set_option maxRecDepth 100000
namespace Go.Proofs.YtjkgjiofmgapfaaGreatDoor
open Go.RowKit Tw
def fitsB (n:Nat) (P:List (Int×Rat)):Bool:=P.all fun x=>decide (0≤x.1)&&decide (x.1<(n:Int))
def TellsLD (w:World) (n K:Nat) (P:List (Int×Rat)) (e:Ending) (w':World):Prop :=
 Below w.heap.size w w'∧((fitsB n (nrm P)=false∧e=.returned (.tuple #[.slice none 0 0,.bool false]))∨
  (fitsB n (nrm P)=true∧∃SA sc D,e=.returned (.tuple #[.slice SA n sc,.bool true])∧OwnR w' w.heap.size 33 4 (.slice SA n sc) n (flat Fr.cs D)∧AllRn w' K D∧qs D=denseF P n))
theorem TellsLD.no {w w':World} {n K:Nat} {P:List (Int×Rat)} (h:fitsB n (nrm P)=false) (hb:Below w.heap.size w w'):TellsLD w n K P (.returned (.tuple #[.slice none 0 0,.bool false])) w':=⟨hb,.inl ⟨h,rfl⟩⟩
def fitT (n:Nat) (t:Tm):Bool:=decide (0≤t.at_)&&decide (t.at_<(n:Int))
theorem fits_prs (n:Nat) (T:List Tm):T.all (fitT n)=fitsB n (prs T):=by
 unfold fitsB prs
 rw[List.all_map];rfl
def DE1 (w:World) (fb n nm:Nat) (H:Option Addr) (hl hc:Nat) (X:Value) (T:List Tm) (M gk:Nat) (x:Value) (wr:World):Prop :=
 ∃i:Nat,i≤nm∧nm-i=gk∧x=.int .i64 (i:Int)∧OwnR wr w.heap.size 71 5 X nm (flat Tm.cs T)∧OnT wr T (fun _=>M)∧(T.take i).all (fitT n)=true∧Bx wr fb #[.bool true,.int .i64 (n:Int),.slice H hl hc] 91∧Below w.heap.size w wr
theorem ldense_q {w:World} {fb n bn bc M hl hc:Nat} {H X:Option Addr} {P:List (Int×Rat)} (hf:Bx w fb #[.bool true,.int .i64 (n:Int),.slice H hl hc] 91) (h:GV w X bn bc P M) (hM:M≤18000000000) (hM2:2≤M) (hbn:bn≤1000) (hn:n≤256) (hT:Hid (Tab w)) :
  Calls Tryz.prog 85 #[.pointer (some ⟨fb,0,none⟩),.slice X bn bc] w (TellsLD w n M P):=by
 have HX:=zh h;have HF0:=zh hf;have hnq:=normO_q (HX.out) zo zo hT;clear h hf;go_enter Tryz.func85,Tryz.ntmps85
 go_wp2_with fail
 with_reducible refine hnq.mono ?_
 rintro e w1 ⟨Am,nm,cm,T,rfl,ho1,on1,ep,b1⟩;have HO:=zh ho1;have HN:=zh on1;have HEP:=zh ep;have HTL:=zh (ho1.eltn elt_vec zo);have HF1:=zh (HF0.out.below b1);have HB1:=zh b1;have HOK:Hid (T.all (fitT n)=fitsB n (nrm P)):=zh (by rw[fits_prs,ep]);have hnm:nm≤1000:=by
  have h1:=nrm_len P;rw[←ep,zAh,ho1.eltn elt_vec zo,HX.out.len] at h1;omega
 clear hnq ho1 on1 ep b1;go_wp2_with fail
 go_loopg [11] nm (fun gk x wr=>DE1 w fb n nm H hl hc (.slice Am nm cm) T M gk x wr)
 case atStart=>exact⟨0,Nat.zero_le _,rfl,rfl,HO.out.below (by go_grown),HN.out.below (by go_grown),by rw[List.take_zero];rfl,HF1.out.below (by go_grown),bT HB1.out⟩
 case round =>
  clear HO HN HF1 HB1;obtain⟨i,hi,hgk,rfl,hho,hon,hd,hfb,hB⟩:=hrel;have HGK:=zh hgk;have HD:=zh hd;have HFB:=zh hfb;clear hgk hd hfb;by_cases hlt:i<nm
  ·obtain⟨eb,eo,rfl,hel⟩:=(hho.sl' elt_vec HTL.out).at Tm.cs_len zo zo;obtain⟨x,hx⟩:∃x,T[i]?=some x:=⟨T[i]'(by rw[HTL.out];exact hlt),List.getElem?_eq_getElem _⟩;have hnd:=hel i x hx;have HTI:=zh hx;have i1:(i:Int)<(nm:Int):=zo;have i2:(0:Int)≤(i:Int):=zo;clear hel hx;by_cases k1:x.at_<0
   ·have HP:Hid (fitT n x=false):=zh (by unfold fitT;rw[decide_eq_false zo];rfl);have Bz:=zr wr;obtain⟨pA0,pA1,pA2,pA3,pA4,-⟩:=(hnd.below Bz).ez;go_upto_region 4 with(fail)
    obtain⟨V11,hW,x1,hN⟩:=zAd wr #[.int .i64 x.at_,.bool x.x.s,.slice x.x.A x.x.l x.x.c,.bool x.x.s',.slice x.x.A' x.x.l' x.x.c'] 71;rw[←hW];clear hW;obtain⟨v1,hb1⟩:=ze wr.heap.size;rw[←hb1] at x1 ⊢;have o0_1:fb<v1:=zi (HFB.out.below Bz).lt;have ow_1:w.heap.size≤v1:=zi (zw hB Bz);replace hB:=bT (bT hB Bz) hN;replace HFB:=zh ((HFB.out.below Bz).below hN);have HX1:=zh x1;clear x1 hN Bz hb1;have Bz:=zr V11;clear pA0 pA1 pA2 pA3 pA4;have pb0:=(zx HX1 Bz).cell 0 (.int .i64 x.at_) rfl;go_wp2_with fail
    (try simp only[vA,vBa,vC])
    refine zl (zz [0,1,2,3,4,5,6,7,8,9,10,11] .done) [] (zIa pb0) ?_;iterate 4 (refine zUa ?_;try simp only[uW,uX,uY,uZ])
    iterate 7 (refine zN rfl rfl ?_;try simp only[uW,uX,uY,uZ])
    refine zUa ?_;try simp only[uW,uX,uY,uZ]
    refine zAa ?_;go_wp2_with fail
    go_ret2
    have hF:=bT (c:=V11) hB Bz;have hno:=all_no HTI.out HP.out;exact TellsLD.no (by rw[←HOK.out];exact hno) (bT hF)
   ·have kb:decide (x.at_<0)=false:=decide_eq_false k1;by_cases k2:(n:Int)≤x.at_
    ·have HP:Hid (fitT n x=false):=zh (by unfold fitT;rw[decide_eq_false (p:=x.at_<(n:Int)) zo,Bool.and_false]);have Bz:=zr wr;obtain⟨pA0,pA1,pA2,pA3,pA4,-⟩:=(hnd.below Bz).ez;go_upto_region 4 with(fail)
     obtain⟨V11,hW,x1,hN⟩:=zAd wr #[.int .i64 x.at_,.bool x.x.s,.slice x.x.A x.x.l x.x.c,.bool x.x.s',.slice x.x.A' x.x.l' x.x.c'] 71;rw[←hW];clear hW;obtain⟨v1,hb1⟩:=ze wr.heap.size;rw[←hb1] at x1 ⊢;have o0_1:fb<v1:=zi (HFB.out.below Bz).lt;have ow_1:w.heap.size≤v1:=zi (zw hB Bz);replace hB:=bT (bT hB Bz) hN;replace HFB:=zh ((HFB.out.below Bz).below hN);have HX1:=zh x1;clear x1 hN Bz hb1;have Bz:=zr V11;clear pA0 pA1 pA2 pA3 pA4;have pa1:=(HFB.out.below Bz).cell 1 (.int .i64 (n:Int)) rfl;have pb0:=(zx HX1 Bz).cell 0 (.int .i64 x.at_) rfl;go_wp2_with fail
     (try simp only[vA,vBa,vC])
     refine zl (zz [0,1,2,3,4,5,6,7,8,9,10,11] .done) [] (zsa pa1 (zIa pb0)) ?_;iterate 12 (refine zUa ?_;try simp only[uW,uX,uY,uZ])
     refine zAa ?_;go_wp2_with fail
     go_ret2
     have hF:=bT (c:=V11) hB Bz;have hno:=all_no HTI.out HP.out;exact TellsLD.no (by rw[←HOK.out];exact hno) (bT hF)
    ·have HP:Hid (fitT n x=true):=zh (by unfold fitT;rw[decide_eq_true zo,decide_eq_true zo];rfl);have k3:¬x.at_≥(n:Int):=zo;have Bz:=zr wr;obtain⟨pA0,pA1,pA2,pA3,pA4,-⟩:=(hnd.below Bz).ez;go_upto_region 4 with(fail)
     obtain⟨V11,hW,x1,hN⟩:=zAd wr #[.int .i64 x.at_,.bool x.x.s,.slice x.x.A x.x.l x.x.c,.bool x.x.s',.slice x.x.A' x.x.l' x.x.c'] 71;rw[←hW];clear hW;obtain⟨v1,hb1⟩:=ze wr.heap.size;rw[←hb1] at x1 ⊢;have o0_1:fb<v1:=zi (HFB.out.below Bz).lt;have ow_1:w.heap.size≤v1:=zi (zw hB Bz);replace hho:=hho.below hN;replace hon:=hon.below hN;replace hB:=bT (bT hB Bz) hN;replace HFB:=zh ((HFB.out.below Bz).below hN);have HX1:=zh x1;clear x1 hN Bz hb1;have Bz:=zr V11;clear pA0 pA1 pA2 pA3 pA4;have pa1:=(HFB.out.below Bz).cell 1 (.int .i64 (n:Int)) rfl;have pb0:=(zx HX1 Bz).cell 0 (.int .i64 x.at_) rfl;go_wp2_with fail
     (try simp only[vA,vBa,vC])
     refine zl (zz [0,1,2,3,4,5,6,7,8,9,10,11] .done) [] (zsa pa1 (zIa pb0)) ?_;iterate 12 (refine zUa ?_;try simp only[uW,uX,uY,uZ])
     refine zAa ?_;go_wp2_with fail
     go_roundg (nm-(i+1))
     case measure=>have:=HGK.out;omega
     case rel=>exact⟨i+1,zo,rfl,by go_num,OwnR.below hho,OnT.below hon,take_all HD.out HTI.out HP.out,HFB.out.below (bT Bz),bT (bT hB Bz)⟩
  ·obtain rfl:nm=i:=zo;have i1:¬(nm:Int)<(nm:Int):=zo;have HFT:Hid (fitsB n (nrm P)=true):=zh (by rw[←HOK.out];exact all_yes HTL.out HD.out);have pa1:=HFB.out.cell 1 (.int .i64 (n:Int)) rfl;have hTr:=zh (hT.out.below hB);have HXr:=zh (HX.out.below hB);by_cases hn0:n<1
   ·have hdq:=dense_no (w:=wr) (X:=X) (nx:=bn) (cx:=bc) (n:Int) zo;go_wp2_with fail
    with_reducible refine hdq.mono ?_
    rintro e w2 ⟨rfl,b2⟩;go_wp2_with fail
    go_ret2
    obtain rfl:n=0:=zo;exact⟨bT hB b2,.inr ⟨HFT.out,none,0,[],rfl,OwnR.nil _ _ _ _,(fun x hx=>by cases hx),rfl⟩⟩
   ·have hdq:=denseO_q (m:=n) HXr.out hM hM2 zo zo zo hTr;go_wp2_with fail
    with_reducible refine hdq.mono ?_
    rintro e w2 ⟨g,D,rfl,ho2,hal,hqs,b2⟩;go_wp2_with fail
    go_ret2
    exact⟨bT hB b2,.inr ⟨HFT.out,_,_,D,rfl,ho2.rebase hB.size,hal,hqs⟩⟩
end Go.Proofs.YtjkgjiofmgapfaaGreatDoor
