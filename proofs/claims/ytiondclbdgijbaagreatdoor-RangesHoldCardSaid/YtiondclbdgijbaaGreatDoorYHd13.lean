import Derived.Test.YtiondclbdgijbaaGreatDoorYLf1
import Derived.Test.YtiondclbdgijbaaGreatDoorYRatS
set_option maxHeartbeats 16000000
set_option maxRecDepth 100000
namespace Go.Proofs.YtiondclbdgijbaaGreatDoor
open Go.RowKit Tw
def QtF (X U:List Fr) (O:List Fr):Prop:=∀(i:Nat) (r x y:Fr),O[i]?=some r→X[i]?=some x→U[i]?=some y→∃q:Int,0≤q∧q≤4∧r.q=x.q+qof q 4*(y.q-x.q)
theorem QtF.snoc {X U O:List Fr} {i:Nat} {x y r:Fr} {q:Int} (h:QtF X U O) (hl:O.length=i) (hx:X[i]?=some x) (hy:U[i]?=some y) (h0:0≤q) (h4:q≤4) (hr:r.q=x.q+qof q 4*(y.q-x.q)):QtF X U (O++[r]):=fun j s u v hs hu hv=>by
 rcases eB j O.length with hj | hj
 ·rw[bF hj] at hs;exact h j s u v hs hu hv
 ·rw[kD hj,List.getElem?_singleton] at hs;split at hs
  ·obtain rfl:j=i:=zo;cases hs;rw[hx] at hu;rw[hy] at hv;cases hu;cases hv;exact⟨q,h0,h4,hr⟩
  ·cases hs
def OutBt (w:World) (n:Nat) (X U:List Fr) (e:Ending) (w':World):Prop:=∃H hc O,e=.returned (.slice H n hc)∧Rob w' w.heap.size w'.heap.size (fun u=>Sl Fr.cs 4 u H n hc O∧AllRn u 21 O)∧QtF X U O∧O.length=n∧Below w.heap.size w w'
def BT1 (w:World) (X U:List Fr) (n gk:Nat) (s7 s12:Value) (wr:World):Prop :=
 ∃(i:Nat) (H:Option Addr) (hc:Nat) (O:List Fr),s7=.slice H i hc∧s12=.int .i64 (i:Int)∧i≤n∧n-i=gk∧OwnR wr w.heap.size 47 4 (.slice H i hc) i (flat Fr.cs O)∧AllRn wr 21 O∧QtF X U O∧Below w.heap.size w wr
theorem between_q {w:World} {A B P:Option Addr} {n ca cb np cp:Nat} {X U:List Fr} {PL:List Int} (h:Sl Fr.cs 4 w A n ca X) (h':Sl Fr.cs 4 w B n cb U) (hf:Hid (∀x∈X,FrOk w 2 x)) (hf':Hid (∀x∈U,FrOk w 2 x)) (hp:Sl ics 1 w P np cp PL) (hpi:Hid (∀z∈PL,I64 z)) (hnp:np≤9223372036854775807) (hn:n≤1000000) (hT:Hid (Tab w)) :
  Calls Tryz.prog 8 #[.slice A n ca,.slice B n cb,.slice P np cp] w (OutBt w n X U):=by
 have HS:=zh h;have HS':=zh h';have HSP:=zh hp;have HL:=zh h.1;have HL':=zh h'.1;have hs4:∀q:Int,0≤q→q≤4→sz (qof q 4)≤1:=fun q h0 h4=>sz_one zo zo zd;clear h h' hp;go_enter Tryz.func8,Tryz.ntmps8
 go_wp2_with fail
 go_loopg [7,12] n (fun gk s7 s12 wr=>BT1 w X U n gk s7 s12 wr)
 case atStart=>exact⟨0,none,0,[],rfl,rfl,uA _,rfl,OwnR.nil _ _ _ _,(fun _ h=>by cases h),(fun i r x y h=>by cases h),Below.refl _ _⟩
 case round =>
  obtain⟨i,H,hc,O,rfl,rfl,hi,hgk,ho,hrn,hqt,hB⟩:=hrel;have HGK:=zh hgk;have HQT:=zh hqt;have HOL:=zh (ho.eltn elt_rat zo);clear hgk hqt;by_cases hlt:i<n
  ·obtain⟨b,off,rfl,hel⟩:=HS.out.at Fr.cs_len zo zo;obtain⟨b',off',rfl,hel'⟩:=HS'.out.at Fr.cs_len zo zo;obtain⟨x,hx⟩:∃x,X[i]?=some x:=⟨X[i]'(by rw[HL.out];exact hlt),cA _⟩;obtain⟨y,hy⟩:∃y,U[i]?=some y:=⟨U[i]'(by rw[HL'.out];exact hlt),cA _⟩;have hnd:=hel i x hx;have hnd':=hel' i y hy;have hfx:=hf.out x (eA hx);have hfy:=hf'.out y (eA hy);have hxr:=hfx.r;have hyr:=hfy.r;have hxz:sz x.q≤2:=hfx.1.sz;have hyz:sz y.q≤2:=hfy.1.sz;have HSB:Hid (sz (y.q-x.q)≤5):=zh (sz_sub hyz hxz);have HMU:Hid (∀q:Int,0≤q→q≤4→sz (qof q 4*(y.q-x.q))≤6):=zh (fun q h0 h4=>sz_mul (hs4 q h0 h4) HSB.out);have hsq:∀q:Int,0≤q→q≤4→sz (x.q+qof q 4*(y.q-x.q))+1≤21:=fun q h0 h4=>by have:=sz_add hxz (HMU.out q h0 h4);omega
   have HXX:=zh hx;have HYY:=zh hy;have i1:(i:Int)<(n:Int):=zo;have i2:(0:Int)≤(i:Int):=zo;clear hel hel' hx hy hfx hfy hxz hyz;by_cases hip:i<np
   ·obtain⟨pb,po,rfl,hel⟩:=HSP.out.at ics_len zo zo;obtain⟨p,hpp⟩:∃p,PL[i]?=some p:=⟨PL[i]'(by rw[HSP.out.1];exact hip),cA _⟩;have hnp':ElA w pb (po+i) (ics p):=by have:=hel i p hpp;rwa [kC] at this
    have hnp:=hnp';have hpb:=hpi.out p (eA hpp);have i3:(i:Int)<(np:Int):=zo;obtain⟨q,hq⟩:∃q,q=(p.tmod 5+5).tmod 5:=⟨_,rfl⟩;have hq0:0≤q∧q≤4:=by
     have h1:=Int.tmod_lt_of_pos p (show(0:Int)<5 by decide);have h2:-5<p.tmod 5:=Int.lt_tmod_of_pos p zd;rw[hq,Int.tmod_eq_emod_of_nonneg zo];omega
    have u0:¬(5:Int)=0:=by decide
    have h5:-5<p.tmod 5∧p.tmod 5<5:=⟨Int.lt_tmod_of_pos p zd,Int.tmod_lt_of_pos p zd⟩;have u1:IntKind.i64.wrap (p.tmod 5)=p.tmod 5:=IntWalk.i64_in _ zo;have u2:IntKind.i64.wrap (p.tmod 5+5)=p.tmod 5+5:=IntWalk.i64_in _ zo;have u3:IntKind.i64.wrap ((p.tmod 5+5).tmod 5)=q:=by rw[←hq];exact IntWalk.i64_in _ zo
    have u4:(p.tmod 5+5).tmod 5=q:=hq.symm;clear hel hpp hnp' hq h5;have Bz:=zr wr;obtain⟨pA0,pA1,pA2,pA3,-⟩:=(hnd.below (bT hB Bz)).ez;obtain⟨pB0,pB1,pB2,pB3,-⟩:=(hnd'.below (bT hB Bz)).ez;have pC0:=(hnp.below (bT hB Bz)).c0 (u:=.int .i64 p) rfl;go_wp2_with fail
    (try simp only[vAa,vBa,vC])
    refine zl (.pure 0 (.pure 1 (.pure 2 (.pure 3 (.take 4 (.pure 5 (.pure 7 (.pure 8 (.pure 9 (.take 10 (.pure 11 (.pure 12 (.pure 13 (.take 14 (.only 6 (.only 15 (.only 16 (.only 17 (.only 18 (.only 19 (.pure 20 .done))))))))))))))))))))) [19] (zsa pA0 (zsa pA1 (zsa pA2 (zsa pA3 (zsa pB0 (zsa pB1 (zsa pB2 (zIa pB3)))))))) ?_;iterate 14 ((first|refine zV ?_|refine zUa ?_);try simp only[uW,uX,uY,uZ])
    refine zC 32 rfl rfl (fun K hK=>?_);go_simp
    with_reducible refine(of_q q 4 (zh zo) (zh zo) (zt hT hB Bz)).mono ?_
    rintro e w11 ⟨s11,A11,c11,l11,s11r,A11r,c11r,l11r,rfl,h11,j⟩;replace j:=zq (a:=wr) j;replace ho:=ho.below j;replace hrn:=hrn.below j;replace Bz:=bT Bz j;clear j;clear pA0 pA1 pA2 pA3 pB0 pB1 pB2 pB3 pC0;obtain⟨pA0,pA1,pA2,pA3,-⟩:=(hnd.below (bT hB Bz)).ez;obtain⟨pB0,pB1,pB2,pB3,-⟩:=(hnd'.below (bT hB Bz)).ez;refine hK.out _ _ ⟨pA0,pA1,pA2,pA3,pB0,pB1,pB2,pB3⟩ (fun _=>?_);try simp only[uW,uX,uY,uZ]
    clear hK K;refine zC 41 rfl rfl (fun K hK=>?_);go_simp
    with_reducible refine(sub_q (hyr.below (bT hB (bT (b:=w11) Bz))) (hxr.below (bT hB (bT (b:=w11) Bz))) zo (zt hT hB Bz)).mono ?_
    rintro e w12 ⟨s12,A12,c12,l12,s12r,A12r,c12r,l12r,rfl,h12,j⟩;replace j:=zq (a:=w11) j;replace h11:=h11.below j;replace ho:=ho.below j;replace hrn:=hrn.below j;replace Bz:=bT Bz j;clear j;clear pA0 pA1 pA2 pA3 pB0 pB1 pB2 pB3;obtain⟨pA0,pA1,pA2,pA3,-⟩:=(hnd.below (bT hB Bz)).ez;obtain⟨pB0,pB1,pB2,pB3,-⟩:=(hnd'.below (bT hB Bz)).ez;refine hK.out _ _ ⟨pA0,pA1,pA2,pA3,pB0,pB1,pB2,pB3⟩ (fun _=>?_);try simp only[uW,uX,uY,uZ]
    clear hK K;refine zC 42 rfl rfl (fun K hK=>?_);go_simp
    with_reducible refine(mul_q (RN.r' (RN.below h11) (hs4 q zo zo)) (RN.r' (RN.below h12) HSB.out) zo (zt hT hB Bz)).mono ?_
    rintro e w13 ⟨s13,A13,c13,l13,s13r,A13r,c13r,l13r,rfl,h13,j⟩;replace j:=zq (a:=w12) j;replace ho:=ho.below j;replace hrn:=hrn.below j;replace Bz:=bT Bz j;clear j;clear pA0 pA1 pA2 pA3 pB0 pB1 pB2 pB3;obtain⟨pA0,pA1,pA2,pA3,-⟩:=(hnd.below (bT hB Bz)).ez;obtain⟨pB0,pB1,pB2,pB3,-⟩:=(hnd'.below (bT hB Bz)).ez;refine hK.out _ _ ⟨pA0,pA1,pA2,pA3,pB0,pB1,pB2,pB3⟩ (fun _=>?_);try simp only[uW,uX,uY,uZ]
    clear hK K;refine zC 43 rfl rfl (fun K hK=>?_);go_simp
    with_reducible refine(add_q (hxr.below (bT hB (bT (b:=w13) Bz))) (RN.r' (RN.below h13) (HMU.out q zo zo)) zo (zt hT hB Bz)).mono ?_
    rintro e w14 ⟨s14,A14,c14,l14,s14r,A14r,c14r,l14r,rfl,h14,j⟩;replace j:=zq (a:=w13) j;replace ho:=ho.below j;replace hrn:=hrn.below j;replace Bz:=bT Bz j;clear j;clear pA0 pA1 pA2 pA3 pB0 pB1 pB2 pB3;obtain⟨pA0,pA1,pA2,pA3,-⟩:=(hnd.below (bT hB Bz)).ez;obtain⟨pB0,pB1,pB2,pB3,-⟩:=(hnd'.below (bT hB Bz)).ez;refine hK.out _ _ ⟨pA0,pA1,pA2,pA3,pB0,pB1,pB2,pB3⟩ (fun _=>?_);try simp only[uW,uX,uY,uZ]
    clear hK K;refine zC 44 rfl rfl (fun K hK=>?_);go_simp
    refine hK.out _ _ ⟨(zAa pA0),(zAa pA1),(zAa pA2),(zAa pA3),(zAa pB0),(zAa pB1),(zAa pB2),(zAa pB3)⟩ (fun _=>?_);try simp only[uW,uX,uY,uZ]
    clear hK K;refine wpPlan_late (o:=⟨some 45,_,_,_,_,_⟩) rfl rfl zd (fun K hK=>?_);obtain⟨V11,hW,x0,hN⟩:=zAb w14 #[.bool s14,.slice A14 l14 c14,.bool s14r,.slice A14r l14r c14r] 47;rw[←hW];clear hW;obtain⟨v0,hb0⟩:=ze w14.heap.size;rw[←hb0] at x0 ⊢;have ow_0:w.heap.size≤v0:=zi (zw hB Bz);have nv0_own:=OwnR.off' (b:=v0) ho zo;replace h14:=h14.below hN;replace ho:=ho.below hN;replace hrn:=hrn.below hN;replace hB:=bT (bT hB Bz) hN;have HX0:=zh x0;clear x0 hN Bz hb0;have Bz:=zr V11;clear pA0 pA1 pA2 pA3 pB0 pB1 pB2 pB3;have hdr:V11.drew.heap.size=V11.heap.size:=rfl;have hdr2:V11.drew.drew.heap.size=V11.heap.size:=rfl;refine Elt.wp elt_rat (.tmp 26) (.tmp 44) rfl (w.heap.size) (.slice H i hc) (i) (O) rfl ho (.slice (some ⟨v0,0,none⟩) 1 1) (1) ([⟨s14,A14,c14,l14,s14r,A14r,c14r,l14r,x.q+qof q 4*(y.q-x.q),true⟩]) rfl (From.one (HX0.out.below (bT Bz)) (⟨s14,A14,c14,l14,s14r,A14r,c14r,l14r,x.q+qof q 4*(y.q-x.q),true⟩) rfl (elt_rat.len _)) zo (zi (zw hB Bz)) ?_;intro H15 c15 w15 ho15 hg15;refine hK.out _ _ ?_;try simp only[uW,uX,uY,uZ]
    clear hK K;replace hB:=(bT (bT hB Bz)).trans (hg15.below (zi (zw hB Bz)) (fun g hg=>by have:=ho.base g hg;omega));clear HX0;clear hdr hdr2;replace h14:=h14.k hg15.k;replace hrn:=hrn.k hg15.k;clear hg15 Bz;have Bz:=zr w15;obtain⟨pA0,pA1,pA2,pA3,-⟩:=(hnd.below (bT hB Bz)).ez;obtain⟨pB0,pB1,pB2,pB3,-⟩:=(hnd'.below (bT hB Bz)).ez;refine zV ?_;try simp only[uW,uX,uY,uZ]
    refine wpPlan_done ?_;go_wp2_with fail
    go_roundg (n-(i+1))
    case measure=>have:=HGK.out;omega
    case rel=>exact⟨i+1,_,_,_,rfl,by go_num,zo,rfl,OwnR.below ho15,AllRn.snoc1 (AllRn.below hrn) (AllRn.put (RN.below h14) (hsq q zo zo)),(HQT.out).snoc (q:=q) HOL.out HXX.out HYY.out zo zo rfl,bT (bT hB Bz)⟩
   ·have i3:¬(i:Int)<(np:Int):=zo;have Bz:=zr wr;obtain⟨pA0,pA1,pA2,pA3,-⟩:=(hnd.below (bT hB Bz)).ez;obtain⟨pB0,pB1,pB2,pB3,-⟩:=(hnd'.below (bT hB Bz)).ez;go_wp2_with fail
    (try simp only[vAa,vBa,vC])
    refine zl (.pure 0 (.pure 1 (.pure 2 (.pure 3 (.take 4 (.pure 5 (.pure 7 (.pure 8 (.pure 9 (.take 10 (.pure 11 (.pure 12 (.pure 13 (.take 14 (.only 6 (.only 15 (.only 16 (.only 17 (.only 18 (.only 19 (.pure 20 .done))))))))))))))))))))) [19] (zsa pA0 (zsa pA1 (zsa pA2 (zsa pA3 (zsa pB0 (zsa pB1 (zsa pB2 (zIa pB3)))))))) ?_;iterate 14 ((first|refine zV ?_|refine zUa ?_);try simp only[uW,uX,uY,uZ])
    refine zC 32 rfl rfl (fun K hK=>?_);go_simp
    with_reducible refine(of_q 0 4 (zh zo) (zh zo) (zt hT hB Bz)).mono ?_
    rintro e w11 ⟨s11,A11,c11,l11,s11r,A11r,c11r,l11r,rfl,h11,j⟩;replace j:=zq (a:=wr) j;replace ho:=ho.below j;replace hrn:=hrn.below j;replace Bz:=bT Bz j;clear j;clear pA0 pA1 pA2 pA3 pB0 pB1 pB2 pB3;obtain⟨pA0,pA1,pA2,pA3,-⟩:=(hnd.below (bT hB Bz)).ez;obtain⟨pB0,pB1,pB2,pB3,-⟩:=(hnd'.below (bT hB Bz)).ez;refine hK.out _ _ ⟨pA0,pA1,pA2,pA3,pB0,pB1,pB2,pB3⟩ (fun _=>?_);try simp only[uW,uX,uY,uZ]
    clear hK K;refine zC 41 rfl rfl (fun K hK=>?_);go_simp
    with_reducible refine(sub_q (hyr.below (bT hB (bT (b:=w11) Bz))) (hxr.below (bT hB (bT (b:=w11) Bz))) zo (zt hT hB Bz)).mono ?_
    rintro e w12 ⟨s12,A12,c12,l12,s12r,A12r,c12r,l12r,rfl,h12,j⟩;replace j:=zq (a:=w11) j;replace h11:=h11.below j;replace ho:=ho.below j;replace hrn:=hrn.below j;replace Bz:=bT Bz j;clear j;clear pA0 pA1 pA2 pA3 pB0 pB1 pB2 pB3;obtain⟨pA0,pA1,pA2,pA3,-⟩:=(hnd.below (bT hB Bz)).ez;obtain⟨pB0,pB1,pB2,pB3,-⟩:=(hnd'.below (bT hB Bz)).ez;refine hK.out _ _ ⟨pA0,pA1,pA2,pA3,pB0,pB1,pB2,pB3⟩ (fun _=>?_);try simp only[uW,uX,uY,uZ]
    clear hK K;refine zC 42 rfl rfl (fun K hK=>?_);go_simp
    with_reducible refine(mul_q (RN.r' (RN.below h11) (hs4 0 zo zo)) (RN.r' (RN.below h12) HSB.out) zo (zt hT hB Bz)).mono ?_
    rintro e w13 ⟨s13,A13,c13,l13,s13r,A13r,c13r,l13r,rfl,h13,j⟩;replace j:=zq (a:=w12) j;replace ho:=ho.below j;replace hrn:=hrn.below j;replace Bz:=bT Bz j;clear j;clear pA0 pA1 pA2 pA3 pB0 pB1 pB2 pB3;obtain⟨pA0,pA1,pA2,pA3,-⟩:=(hnd.below (bT hB Bz)).ez;obtain⟨pB0,pB1,pB2,pB3,-⟩:=(hnd'.below (bT hB Bz)).ez;refine hK.out _ _ ⟨pA0,pA1,pA2,pA3,pB0,pB1,pB2,pB3⟩ (fun _=>?_);try simp only[uW,uX,uY,uZ]
    clear hK K;refine zC 43 rfl rfl (fun K hK=>?_);go_simp
    with_reducible refine(add_q (hxr.below (bT hB (bT (b:=w13) Bz))) (RN.r' (RN.below h13) (HMU.out 0 zo zo)) zo (zt hT hB Bz)).mono ?_
    rintro e w14 ⟨s14,A14,c14,l14,s14r,A14r,c14r,l14r,rfl,h14,j⟩;replace j:=zq (a:=w13) j;replace ho:=ho.below j;replace hrn:=hrn.below j;replace Bz:=bT Bz j;clear j;clear pA0 pA1 pA2 pA3 pB0 pB1 pB2 pB3;obtain⟨pA0,pA1,pA2,pA3,-⟩:=(hnd.below (bT hB Bz)).ez;obtain⟨pB0,pB1,pB2,pB3,-⟩:=(hnd'.below (bT hB Bz)).ez;refine hK.out _ _ ⟨pA0,pA1,pA2,pA3,pB0,pB1,pB2,pB3⟩ (fun _=>?_);try simp only[uW,uX,uY,uZ]
    clear hK K;refine zC 44 rfl rfl (fun K hK=>?_);go_simp
    refine hK.out _ _ ⟨(zAa pA0),(zAa pA1),(zAa pA2),(zAa pA3),(zAa pB0),(zAa pB1),(zAa pB2),(zAa pB3)⟩ (fun _=>?_);try simp only[uW,uX,uY,uZ]
    clear hK K;refine wpPlan_late (o:=⟨some 45,_,_,_,_,_⟩) rfl rfl zd (fun K hK=>?_);obtain⟨V11,hW,x0,hN⟩:=zAb w14 #[.bool s14,.slice A14 l14 c14,.bool s14r,.slice A14r l14r c14r] 47;rw[←hW];clear hW;obtain⟨v0,hb0⟩:=ze w14.heap.size;rw[←hb0] at x0 ⊢;have ow_0:w.heap.size≤v0:=zi (zw hB Bz);have nv0_own:=OwnR.off' (b:=v0) ho zo;replace h14:=h14.below hN;replace ho:=ho.below hN;replace hrn:=hrn.below hN;replace hB:=bT (bT hB Bz) hN;have HX0:=zh x0;clear x0 hN Bz hb0;have Bz:=zr V11;clear pA0 pA1 pA2 pA3 pB0 pB1 pB2 pB3;have hdr:V11.drew.heap.size=V11.heap.size:=rfl;have hdr2:V11.drew.drew.heap.size=V11.heap.size:=rfl;refine Elt.wp elt_rat (.tmp 26) (.tmp 44) rfl (w.heap.size) (.slice H i hc) (i) (O) rfl ho (.slice (some ⟨v0,0,none⟩) 1 1) (1) ([⟨s14,A14,c14,l14,s14r,A14r,c14r,l14r,x.q+qof 0 4*(y.q-x.q),true⟩]) rfl (From.one (HX0.out.below (bT Bz)) (⟨s14,A14,c14,l14,s14r,A14r,c14r,l14r,x.q+qof 0 4*(y.q-x.q),true⟩) rfl (elt_rat.len _)) zo (zi (zw hB Bz)) ?_;intro H15 c15 w15 ho15 hg15;refine hK.out _ _ ?_;try simp only[uW,uX,uY,uZ]
    clear hK K;replace hB:=(bT (bT hB Bz)).trans (hg15.below (zi (zw hB Bz)) (fun g hg=>by have:=ho.base g hg;omega));clear HX0;clear hdr hdr2;replace h14:=h14.k hg15.k;replace hrn:=hrn.k hg15.k;clear hg15 Bz;have Bz:=zr w15;obtain⟨pA0,pA1,pA2,pA3,-⟩:=(hnd.below (bT hB Bz)).ez;obtain⟨pB0,pB1,pB2,pB3,-⟩:=(hnd'.below (bT hB Bz)).ez;refine zV ?_;try simp only[uW,uX,uY,uZ]
    refine wpPlan_done ?_;go_wp2_with fail
    go_roundg (n-(i+1))
    case measure=>have:=HGK.out;omega
    case rel=>exact⟨i+1,_,_,_,rfl,by go_num,zo,rfl,OwnR.below ho15,AllRn.snoc1 (AllRn.below hrn) (AllRn.put (RN.below h14) (hsq 0 zo zo)),(HQT.out).snoc (q:=0) HOL.out HXX.out HYY.out zo zo rfl,bT (bT hB Bz)⟩
  ·obtain rfl:i=n:=zo;have i1:¬(i:Int)<(i:Int):=zo;have HR:Hid (Rob wr w.heap.size wr.heap.size (fun u=>Sl Fr.cs 4 u H i hc O∧AllRn u 21 O)):=zh (by
    have h8:=ho.rob elt_rat (ho.eltn elt_rat zo);exact⟨aA _,fun v hk hc=>⟨h8.on v hk hc,hrn.k hk⟩⟩)
   clear ho hrn;go_wp2_with fail
   go_ret
   exact⟨H,hc,O,rfl,HR.out,HQT.out,HOL.out,hB⟩
end Go.Proofs.YtiondclbdgijbaaGreatDoor
