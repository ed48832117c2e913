import Derived.Test.YteggjbgbknkoiaaGreatDoorYSo4
import Derived.Test.YteggjbgbknkoiaaGreatDoorYVj
set_option maxHeartbeats 8000000
set_option maxRecDepth 100000
namespace Go.Proofs.YteggjbgbknkoiaaGreatDoor
open Go.RowKit Tw
variable {M M' cx cy m:Nat} {P Q:List (Int×Rat)} {X Y:Option Addr}
theorem nrm_app (P Q:List (Int×Rat)):nrm (nrm P++nrm Q)=nrm (P++Q):=nrm_ext fun a=>by rw[pget_append,pget_append,nrm_get,nrm_get]
def TellsO (w:World) (P:List (Int×Rat)) (M n:Nat) (e:Ending) (w':World):Prop :=
 ∃A' n' c' P',e=.returned (.slice A' n' c')∧GV w' A' n' c' P' (M+1)∧Rise P'∧(∀a,pget P' a=pget P a)∧n'≤n∧Below w.heap.size w w'
def OR1 (w:World) (L:List Tm) (n gk:Nat) (s:Value) (wr:World):Prop:=∃i:Nat,i≤n∧n-i=gk∧s=.int .i64 (i:Int)∧Below w.heap.size w wr∧Rise (prs (L.take i))
theorem rise_next {L:List Tm} {k:Nat} {x y:Tm} (h:Rise (prs (L.take (k+1)))) (hy:L[k]?=some y) (hx:L[k+1]?=some x) (hl:y.at_<x.at_):Rise (prs (L.take (k+1+1))):=by
 rw[take_snoc hx,prs_append];refine h.snoc fun z hz=>?_;rw[take_snoc hy,prs_append] at h hz;rcases xC.1 hz with hz | hz
 ·have:=(Rise.front (x:=(y.at_,y.x.q)) h).2 z hz;simp only at this ⊢
  omega
 ·obtain rfl:=kC.1 hz;exact hl
theorem ordered_q {w:World} {A:Option Addr} {n c:Nat} (h:GV w A n c P M) (hM:M≤19000000000) (hn:n≤1000000) (hT:Hid (Tab w)) :
  Calls Tryz.prog 64 #[.slice A n c] w (TellsO w P M n):=by
 have hg:=zh h;obtain⟨L,h1,h2,rfl,h4,h5⟩:=h;have HS:=zh h1;have HLN:=zh h1.1;clear h1 h2 h4 h5;go_enter Tryz.func64,Tryz.ntmps64
 go_wp2_with fail
 go_loopg [6] n (fun gk s wr=>OR1 w L n gk s wr)
 case atStart=>exact⟨0,wA _,rfl,rfl,Below.refl _ _,List.Pairwise.nil⟩
 case round =>
  obtain⟨i,hi,hgk,rfl,hB,hr⟩:=hrel;have HGK:=zh hgk;clear hgk;by_cases hlt:i<n
  ·obtain⟨b,off,rfl,hel⟩:=HS.out.at Tm.cs_len zo zo;obtain⟨x,hx⟩:∃x,L[i]?=some x:=⟨L[i]'(by rw[HLN.out];exact hlt),gA _⟩;have hnd:=hel i x hx;cases i with
   | zero =>
    have HR2:Hid (Rise (prs (L.take (0+1)))):=zh (by rw[take_snoc hx];exact List.pairwise_singleton _ _);have i1:(0:Int)<(n:Int):=zo;clear hx hel hr;have Bz:=zr wr;go_wp2_with fail
    (try simp only[vA,vBa,vC])
    refine zl (zz [0,1,2,3,4,5,6,7,8,9,10,11,12,13,14,15] .done) [] zn ?_;iterate 3 (refine zUa ?_;try simp only[uW,uX,uY,uZ])
    iterate 12 (refine zN rfl rfl ?_;try simp only[uW,uX,uY,uZ])
    refine zUa ?_;try simp only[uW,uX,uY,uZ]
    refine zAa ?_;go_wp2_with fail
    go_roundg (n-(0+1))
    case measure=>have:=HGK.out;omega
    case rel=>exact⟨0+1,zo,rfl,by go_num,bT (bT hB Bz),HR2.out⟩
   | succ k =>
    obtain⟨y,hy⟩:∃y,L[k]?=some y:=⟨L[k]'(by rw[HLN.out];omega),gA _⟩;have hnd':=hel k y hy;have i1:(k:Int)+1<(n:Int):=zo;have i2:(0:Int)≤(k:Int)+1:=zo;have i3:(0:Int)≤(k:Int):=zo;have i4:(k:Int)<(n:Int):=zo;have i5:(0:Int)<(k:Int)+1:=zo;have w6:IntKind.i64.wrap ((k:Int)+1-1)=(k:Int):=by rw[IntWalk.i64_in _ zo];omega
    have w7:IntKind.i64.wrap (k:Int)=(k:Int):=IntWalk.i64_in _ zo;by_cases hl:y.at_<x.at_
    ·have HR2:=zh (rise_next hr hy hx hl);have g1:¬x.at_≤y.at_:=zo;clear hx hy hel hr hl;have Bz:=zr wr;have pA0:=(hnd.below (bT hB Bz)).c0 (u:=.int .i64 x.at_) rfl;have pB0:=(hnd'.below (bT hB Bz)).c0 (u:=.int .i64 y.at_) rfl;go_wp2_with fail
     (try simp only[vA,vBa,vC])
     refine zl (zz [0,1,2,3,4,5,6,7,8,9,10,11,12,13,14,15] .done) [] (zsa pA0 (zIa pB0)) ?_;iterate 16 (refine zUa ?_;try simp only[uW,uX,uY,uZ])
     refine zAa ?_;go_wp2_with fail
     go_roundg (n-(k+1+1))
     case measure=>have:=HGK.out;omega
     case rel=>exact⟨k+1+1,zo,rfl,by go_num,bT (bT hB Bz),HR2.out⟩
    ·have g1:x.at_≤y.at_:=zo;clear hx hy hel hr hl;have Bz:=zr wr;have pA0:=(hnd.below (bT hB Bz)).c0 (u:=.int .i64 x.at_) rfl;have pB0:=(hnd'.below (bT hB Bz)).c0 (u:=.int .i64 y.at_) rfl;go_wp2_with fail
     (try simp only[vA,vBa,vC])
     refine zl (zz [0,1,2,3,4,5,6,7,8,9,10,11,12,13,14,15] .done) [] (zsa pA0 (zIa pB0)) ?_;iterate 16 (refine zUa ?_;try simp only[uW,uX,uY,uZ])
     refine zAa ?_;go_wp2_with fail
     with_reducible refine(normV_q (hg.out.below (bT hB (bT (b:=wr) Bz))) hM hn (zt hT hB Bz)).mono ?_
     rintro e w1 ⟨A1,n1,c1,rfl,h1,q⟩;replace q:=zq (a:=wr) q;replace Bz:=bT Bz q;clear q;clear pA0 pB0;go_wp2_with fail
     go_ret
     have hF:=bT (c:=w1) hB Bz;have hF2:=h1.len;exact⟨A1,n1,c1,nrm (prs L),rfl,(NV.below h1).gv (nrm_nrm _).rise,(nrm_nrm _).rise,nrm_get _,by have:=nrm_len (prs L);have:=HLN.out;rw[prs_len] at *;omega,bT (bT hB Bz)⟩
  ·obtain rfl:i=n:=zo;have i1:¬(i:Int)<(i:Int):=zo;rw[fA (by rw[HLN.out];exact aA _)] at hr;have HR:=zh hr;clear hr;go_wp2_with fail
   go_ret
   exact⟨A,i,c,prs L,rfl,(hg.out.below hB).mono (Nat.le_succ _),HR.out,fun _=>rfl,aA _,hB⟩
def JN1 (w:World) (P Q:List (Int×Rat)) (n m MM gk:Nat) (s5 s6 s7:Value) (wr:World):Prop :=
 ∃(i j k:Nat) (H:Option Addr) (hc:Nat) (O:List Tm),s5=.slice H k hc∧s6=.int .i64 (i:Int)∧s7=.int .i64 (j:Int)∧i≤n∧j≤m∧n-i+(m-j)≤gk∧k≤i+j∧
  OwnR wr w.heap.size 32 5 (.slice H k hc) k (flat Tm.cs O)∧Joined (prs O) P Q i j∧OnT wr O (fun _=>MM)∧Below w.heap.size w wr
theorem add_wrap {n:Nat} (hn:n≤1000000) (hm:m≤1000000):IntKind.i64.wrap ((n:Int)+(m:Int))=((n+m:Nat):Int):=by rw[IntWalk.i64_in _ zo];omega
theorem joinO_q {w:World} {n:Nat} (h:NV w X n cx P M) (h':NV w Y m cy Q M') (hP:Nrm P) (hQ:Nrm Q) (hM:M+M'≤18000000000) (hn:n≤1000000) (hm:m≤1000000) (hT:Hid (Tab w)) :
  Calls Tryz.prog 110 #[.slice X n cx,.slice Y m cy] w (TellsVO w (nrm (P++Q)) (M+M')):=by
 obtain⟨LX,x1,x2,rfl,x4⟩:=h;obtain⟨LY,y1,y2,rfl,y4⟩:=h';have HSX:=zh x1;have HLX:=zh x1.1;have HNX:=zh x2;have HSY:=zh y1;have HLY:=zh y1.1;have HNY:=zh y2;have HPX:=zh hP;have HPY:=zh hQ;have w0:=add_wrap hn hm;clear x1 x2 x4 y1 y2 y4 hP hQ;go_enter Tryz.func110,Tryz.ntmps110
 go_wp2_with (at_make;refine And.left (b:=True) ?_)
 refine⟨?_,trivial⟩;refine Elt.make elt_vec rfl _ _ rfl .i64 .i64 _ (n+m) rfl rfl (by first | rfl | (push_cast;rfl) | omega) zo w.heap.size (aA _) ?_;intro g0 w1 ho1 hB1 hg0;have HO1:=zh ho1;have HB1:=zh hB1;clear ho1 hB1 hg0;go_wp2_with fail
 go_loopg [5,6,7] (n+m) (fun gk s5 s6 s7 wr=>JN1 w (prs LX) (prs LY) n m (M+M') gk s5 s6 s7 wr)
 case atStart=>exact⟨0,0,0,_,_,[],rfl,rfl,rfl,wA _,wA _,aA _,aA _,HO1.out.below (by go_grown),Joined.start _ _,OnT.nil _ _,bT HB1.out⟩
 case round =>
  clear HO1 HB1 w0;obtain⟨i,j,k,H,hc,O,rfl,rfl,rfl,hi,hj,hgk,hk,ho,hjo,hon,hB⟩:=hrel;have HJO:=zh hjo;have i2:(0:Int)≤(i:Int):=zo;have j2:(0:Int)≤(j:Int):=zo;by_cases hin:i<n
  ·obtain⟨bx,ox,rfl,hel⟩:=HSX.out.at Tm.cs_len zo zo;obtain⟨x,hx⟩:∃x,LX[i]?=some x:=⟨LX[i]'(by rw[HLX.out];exact hin),gA _⟩;have hnd:=hel i x hx;have hxn:=HNX.out x (jA hx);have hnx:=hxn.1.below hB;have hrx:=hnx.r;have hxs:sz x.x.q+1≤M:=hxn.2.2;have hpx:=prs_get hx;have i1:(i:Int)<(n:Int):=zo;have i3:((i:Int)==(n:Int))=false:=by rw[beq_eq_false_iff_ne];omega
   clear hel hx;by_cases hjm:j<m
   ·obtain⟨by_,oy,rfl,hel'⟩:=HSY.out.at Tm.cs_len zo zo;obtain⟨y,hy⟩:∃y,LY[j]?=some y:=⟨LY[j]'(by rw[HLY.out];exact hjm),gA _⟩;have hnd':=hel' j y hy;have hyn:=HNY.out y (jA hy);have hny:=hyn.1.below hB;have hry:=hny.r;have hys:sz y.x.q+1≤M':=hyn.2.2;have hpy:=prs_get hy;have j1:(j:Int)<(m:Int):=zo;have j3:((j:Int)==(m:Int))=false:=by rw[beq_eq_false_iff_ne];omega
    clear hel' hy;by_cases hxy:x.at_<y.at_
    ·have HJ2:Hid (Joined (prs (O++[x])) (prs LX) (prs LY) (i+1) j):=zh (by rw[prs_append];exact HJO.out.left HPX.out hpx (HPY.out.rise.behind hpy hxy));have HS1:Hid (sz x.x.q+1≤M+M'):=zh zo;have HEX:=zh hxn.2.1;have g1:x.at_<y.at_:=hxy;clear hxy hxn hyn hpx hpy hjo;have Bz:=zr wr;obtain⟨pA0,pA1,pA2,pA3,pA4,-⟩:=(hnd.below (bT hB Bz)).ez;have pB0:=(hnd'.below (bT hB Bz)).c0 (u:=.int .i64 y.at_) rfl;go_wp2_with fail
     (try simp only[vA,vBa,vC])
     refine zl (zz [0,1,2,3,4,5,6,7,8,9,10,11,12,13,14,15,16,17,18,19,20,21,22,23] .done) [] (zsa pA0 (zIa pB0)) ?_;iterate 24 (refine zUa ?_;try simp only[uW,uX,uY,uZ])
     refine zAa ?_;go_wp2_with (at_builtin;refine And.left (b:=True) ?_)
     refine⟨?_,trivial⟩;obtain⟨V1,hW,x0,hN⟩:=zAc wr #[.int .i64 x.at_,.bool x.x.s,.slice x.x.A x.x.l x.x.c,.bool x.x.s',.slice x.x.A' x.x.l' x.x.c'] 32;rw[←hW];clear hW;obtain⟨v0,hb0⟩:=ze wr.heap.size;rw[←hb0] at x0 ⊢;have ow_0:w.heap.size≤v0:=zi (zw hB Bz);have nv0_own:=OwnR.off' (b:=v0) ho zo;replace hnx:=hnx.below hN;replace hon:=hon.below hN;replace ho:=ho.below hN;replace hB:=bT (bT hB Bz) hN;have HX0:=zh x0;clear x0 hN Bz hb0;have Bz:=zr V1;clear pA0 pA1 pA2 pA3 pA4 pB0;have hdr:V1.drew.heap.size=V1.heap.size:=rfl;have hdr2:V1.drew.drew.heap.size=V1.heap.size:=rfl;refine Elt.app elt_vec rfl _ _ rfl (w.heap.size) (.slice H k hc) (k) (O) rfl ho (.slice (some ⟨v0,0,none⟩) 1 1) (1) ([x]) rfl (From.one (HX0.out.below (bT Bz)) (x) rfl (elt_vec.len _)) zo (zi (zw hB Bz)) ?_;intro H1 c1 w1 ho1 hg1;replace hB:=(bT (bT hB Bz)).trans (hg1.below (zi (zw hB Bz)) (fun g hg=>by have:=ho.base g hg;omega));clear HX0;clear hdr hdr2;replace hnx:=hnx.k hg1.k;replace hon:=hon.k hg1.k;clear hg1 Bz;have Bz:=zr w1;go_wp2_with fail
     have hs1:=HS1.out;go_roundg (n-(i+1)+(m-(j)))
     case measure=>omega
     case rel=>exact⟨i+1,j,k+1,_,_,_,rfl,by go_num,rfl,zo,zo,aA _,zo,OwnR.below ho1,HJ2.out,(OnT.below hon).snoc (RN.below hnx) HEX.out hs1,bT (bT hB Bz)⟩
    ·have g1:¬x.at_<y.at_:=hxy;by_cases hyx:y.at_<x.at_
     ·have HJ2:Hid (Joined (prs (O++[y])) (prs LX) (prs LY) i (j+1)):=zh (by rw[prs_append];exact HJO.out.right HPY.out hpy (HPX.out.rise.behind hpx hyx));have HS1:Hid (sz y.x.q+1≤M+M'):=zh zo;have HEX:=zh hyn.2.1;have g2:y.at_<x.at_:=hyx;clear hxy hyx hxn hyn hpx hpy hjo;have Bz:=zr wr;have pA0:=(hnd.below (bT hB Bz)).c0 (u:=.int .i64 x.at_) rfl;obtain⟨pB0,pB1,pB2,pB3,pB4,-⟩:=(hnd'.below (bT hB Bz)).ez;go_wp2_with fail
      (try simp only[vA,vBa,vC])
      refine zl (zz [0,1,2,3,4,5,6,7,8,9,10,11,12,13,14,15,16,17,18,19,20,21,22,23] .done) [] (zsa pA0 (zIa pB0)) ?_;iterate 24 (refine zUa ?_;try simp only[uW,uX,uY,uZ])
      refine zAa ?_;go_wp2_with fail
      (try simp only[vA,vBa,vC])
      refine zl (zz [0,1,2,3,4,5,6,7,8,9,10,11,12,13,14,15,16,17] .done) [] (zsa pA0 (zIa pB0)) ?_;iterate 18 (refine zUa ?_;try simp only[uW,uX,uY,uZ])
      refine zAa ?_;go_wp2_with (at_builtin;refine And.left (b:=True) ?_)
      refine⟨?_,trivial⟩;obtain⟨V1,hW,x0,hN⟩:=zAc wr #[.int .i64 y.at_,.bool y.x.s,.slice y.x.A y.x.l y.x.c,.bool y.x.s',.slice y.x.A' y.x.l' y.x.c'] 32;rw[←hW];clear hW;obtain⟨v0,hb0⟩:=ze wr.heap.size;rw[←hb0] at x0 ⊢;have ow_0:w.heap.size≤v0:=zi (zw hB Bz);have nv0_own:=OwnR.off' (b:=v0) ho zo;replace hny:=hny.below hN;replace hon:=hon.below hN;replace ho:=ho.below hN;replace hB:=bT (bT hB Bz) hN;have HX0:=zh x0;clear x0 hN Bz hb0;have Bz:=zr V1;clear pA0 pB0 pB1 pB2 pB3 pB4;have hdr:V1.drew.heap.size=V1.heap.size:=rfl;have hdr2:V1.drew.drew.heap.size=V1.heap.size:=rfl;refine Elt.app elt_vec rfl _ _ rfl (w.heap.size) (.slice H k hc) (k) (O) rfl ho (.slice (some ⟨v0,0,none⟩) 1 1) (1) ([y]) rfl (From.one (HX0.out.below (bT Bz)) (y) rfl (elt_vec.len _)) zo (zi (zw hB Bz)) ?_;intro H1 c1 w1 ho1 hg1;replace hB:=(bT (bT hB Bz)).trans (hg1.below (zi (zw hB Bz)) (fun g hg=>by have:=ho.base g hg;omega));clear HX0;clear hdr hdr2;replace hny:=hny.k hg1.k;replace hon:=hon.k hg1.k;clear hg1 Bz;have Bz:=zr w1;go_wp2_with fail
      have hs1:=HS1.out;go_roundg (n-(i)+(m-(j+1)))
      case measure=>omega
      case rel=>exact⟨i,j+1,k+1,_,_,_,rfl,rfl,by go_num,zo,zo,aA _,zo,OwnR.below ho1,HJ2.out,(OnT.below hon).snoc (RN.below hny) HEX.out hs1,bT (bT hB Bz)⟩
     ·have g2:¬y.at_<x.at_:=hyx;have hb:=HJO.out.both HPX.out HPY.out hpx hpy (show x.at_=y.at_ by omega);have hsz:=sz_add (aA (sz x.x.q)) (aA (sz y.x.q));obtain⟨z,HZ⟩:∃z,Hid ((x.x.q+y.x.q).num.sign=z):=⟨_,zh rfl⟩;have hz0:(z==0)=decide (x.x.q+y.x.q=0):=by rw[←HZ.out,num_sign]
      by_cases hs0:x.x.q+y.x.q=0
      ·have g3:(z != 0)=false:=by rw[bA hs0] at hz0;unfold bne;rw[hz0];rfl
       have HJ2:Hid (Joined (prs O) (prs LX) (prs LY) (i+1) (j+1)):=zh (hb.1 hs0);have HS1:Hid (0≤M+M'):=zh (wA _);clear hxy hyx hxn hyn hpx hpy hjo hb hz0 hs0;have Bz:=zr wr;obtain⟨pA0,pA1,pA2,pA3,pA4,-⟩:=(hnd.below (bT hB Bz)).ez;obtain⟨pB0,pB1,pB2,pB3,pB4,-⟩:=(hnd'.below (bT hB Bz)).ez;go_wp2_with fail
       (try simp only[vA,vBa,vC])
       refine zl (zz [0,1,2,3,4,5,6,7,8,9,10,11,12,13,14,15,16,17,18,19,20,21,22,23] .done) [] (zsa pA0 (zIa pB0)) ?_;iterate 24 (refine zUa ?_;try simp only[uW,uX,uY,uZ])
       refine zAa ?_;go_wp2_with fail
       (try simp only[vA,vBa,vC])
       refine zl (zz [0,1,2,3,4,5,6,7,8,9,10,11,12,13,14,15,16,17] .done) [] (zsa pA0 (zIa pB0)) ?_;iterate 18 (refine zUa ?_;try simp only[uW,uX,uY,uZ])
       refine zAa ?_;go_wp2_with fail
       (try simp only[vA,vBa,vC])
       refine zl (.pure 0 (.pure 1 (.pure 2 (.pure 3 (.take 4 (.pure 5 (.pure 6 (.pure 7 (.pure 8 (.take 9 (.two 10 (.only 11 (.only 12 .done)) 11 (.only 10 (.only 12 .done))))))))))))) [12] (zsa pA1 (zsa pA2 (zsa pA3 (zsa pA4 (zsa pB1 (zsa pB2 (zsa pB3 (zIa pB4)))))))) ?_;iterate 10 ((first|refine zV ?_|refine zUa ?_);try simp only[uW,uX,uY,uZ])
       refine wpPlan_two (o:=⟨some 35,_,_,_,_,_⟩) (o':=⟨some 8,_,_,_,_,_⟩) rfl rfl rfl rfl (fun K hK=>?_) (fun K hK=>?_)
       ·go_simp
        with_reducible refine(add_q (R.below hrx) (R.below hry) zo (zt hT hB Bz)).mono ?_
        rintro e w1 ⟨s1,A1,c1,l1,s1r,A1r,c1r,l1r,rfl,h1,J⟩;replace J:=zq (a:=wr) J;replace hon:=hon.below J;replace ho:=ho.below J;replace Bz:=bT Bz J;clear J;clear pA0 pA1 pA2 pA3 pA4 pB0 pB1 pB2 pB3 pB4;obtain⟨-,pA1,pA2,pA3,pA4,-⟩:=(hnd.below (bT hB Bz)).ez;obtain⟨-,pB1,pB2,pB3,pB4,-⟩:=(hnd'.below (bT hB Bz)).ez;refine hK.out _ _ ⟨pA1,pA2,pA3,pA4,pB1,pB2,pB3,pB4⟩ (fun _=>?_);try simp only[uW,uX,uY,uZ]
        clear hK K;refine zC 8 rfl rfl (fun K hK=>?_);go_simp
        refine hK.out _ _ ⟨(zAb pA1),(zAb pA2),(zAb pA3),(zAb pA4),(zAb pB1),(zAb pB2),(zAb pB3),(zAb pB4)⟩ (fun _=>?_);try simp only[uW,uX,uY,uZ]
        clear hK K;refine zAe (o:=⟨none,_,_,_,_,_⟩) rfl rfl zd (fun K hK=>?_);go_simp
        refine hK.out _ _ ?_;try simp only[Act.put,uX,uY,uZ]
        clear hK K;refine zAa ?_;obtain⟨V1,hW,x0,hN⟩:=zAc w1 #[.bool s1,.slice A1 l1 c1,.bool s1r,.slice A1r l1r c1r] 30;rw[←hW];clear hW;obtain⟨v0,hb0⟩:=ze w1.heap.size;rw[←hb0] at x0 ⊢;have ow_0:w.heap.size≤v0:=zi (zw hB Bz);have nv0_own:=OwnR.off' (b:=v0) ho zo;replace h1:=h1.below hN;replace hon:=hon.below hN;replace ho:=ho.below hN;replace hB:=bT (bT hB Bz) hN;have HX0:=zh x0;clear x0 hN Bz hb0;have Bz:=zr V1;clear pA1 pA2 pA3 pA4 pB1 pB2 pB3 pB4;obtain⟨pa0,pa1,pa2,pa3,-⟩:=(zx HX0 Bz).cz;go_wp2_with fail
        with_reducible refine(sign_q (R.below h1.r) zo z HZ).mono ?_
        rintro e w2 ⟨rfl,J⟩;replace J:=zq (a:=V1) J;replace hon:=hon.below J;replace ho:=ho.below J;replace Bz:=bT Bz J;clear J;clear pa0 pa1 pa2 pa3;go_wp2_with fail
        have hs1:=HS1.out;go_roundg (n-(i+1)+(m-(j+1)))
        case measure=>omega
        case rel=>exact⟨i+1,j+1,k,_,_,_,rfl,by go_num,by go_num,zo,zo,aA _,zo,OwnR.below ho,HJ2.out,OnT.below hon,bT (bT hB Bz)⟩
       ·go_simp
        refine hK.out _ _ ⟨(zAb pA1),(zAb pA2),(zAb pA3),(zAb pA4),(zAb pB1),(zAb pB2),(zAb pB3),(zAb pB4)⟩ (fun _=>?_);try simp only[uW,uX,uY,uZ]
        clear hK K;refine zC 35 rfl rfl (fun K hK=>?_);go_simp
        obtain⟨V1,hW,x0,hN⟩:=zAc wr #[.bool false,.slice none 0 0,.bool false,.slice none 0 0] 30;rw[←hW];clear hW;obtain⟨v0,hb0⟩:=ze wr.heap.size;rw[←hb0] at x0 ⊢;have ow_0:w.heap.size≤v0:=zi (zw hB Bz);have nv0_own:=OwnR.off' (b:=v0) ho zo;replace hon:=hon.below hN;replace ho:=ho.below hN;replace hrx:=hrx.below hN;replace hry:=hry.below hN;replace hB:=bT (bT hB Bz) hN;have HX0:=zh x0;clear x0 hN Bz hb0;have Bz:=zr V1;clear pA0 pA1 pA2 pA3 pA4 pB0 pB1 pB2 pB3 pB4;with_reducible refine(add_q (R.below hrx) (R.below hry) zo (zt hT hB Bz)).mono ?_
        rintro e w1 ⟨s1,A1,c1,l1,s1r,A1r,c1r,l1r,rfl,h1,J⟩;replace J:=zq (a:=V1) J;replace hon:=hon.below J;replace ho:=ho.below J;replace Bz:=bT Bz J;clear J;obtain⟨pa0,pa1,pa2,pa3,-⟩:=(zx HX0 Bz).cz;obtain⟨y0,fa0,fa1,fa2,fa3,-⟩:=(zx HX0 Bz).fz;obtain⟨-,pA1,pA2,pA3,pA4,-⟩:=(hnd.below (bT hB Bz)).ez;obtain⟨-,pB1,pB2,pB3,pB4,-⟩:=(hnd'.below (bT hB Bz)).ez;refine hK.out _ _ ⟨pA1,pA2,pA3,pA4,pB1,pB2,pB3,pB4⟩ (fun _=>?_);try simp only[uW,uX,uY,uZ]
        clear hK K;refine zAe (o:=⟨none,_,_,_,_,_⟩) rfl rfl zd (fun K hK=>?_);go_simp
        refine hK.out _ _ ?_;try simp only[Act.put,uX,uY,uZ]
        clear hK K;refine zAa ?_;obtain⟨V2,hW,x,kk,far,bel⟩:=store4 (.bool s1) (.slice A1 l1 c1) (.bool s1r) (.slice A1r l1r c1r) (zx HX0 Bz) nofun nofun nofun nofun;rw[←hW];clear hW;replace h1:=h1.k kk;replace hon:=hon.k kk;replace ho:=ho.far2 far nv0_own;replace hB:=bel w.heap.size w zo (bT hB Bz);replace HX0:=zh x;clear x kk far bel Bz;have Bz:=zr V2;clear pa0 pa1 pa2 pa3 fa0 fa1 fa2 fa3 y0 pA1 pA2 pA3 pA4 pB1 pB2 pB3 pB4;obtain⟨pa0,pa1,pa2,pa3,-⟩:=(zx HX0 Bz).cz;go_wp2_with fail
        with_reducible refine(sign_q (R.below h1.r) zo z HZ).mono ?_
        rintro e w2 ⟨rfl,J⟩;replace J:=zq (a:=V2) J;replace hon:=hon.below J;replace ho:=ho.below J;replace Bz:=bT Bz J;clear J;clear pa0 pa1 pa2 pa3;go_wp2_with fail
        have hs1:=HS1.out;go_roundg (n-(i+1)+(m-(j+1)))
        case measure=>omega
        case rel=>exact⟨i+1,j+1,k,_,_,_,rfl,by go_num,by go_num,zo,zo,aA _,zo,OwnR.below ho,HJ2.out,OnT.below hon,bT (bT hB Bz)⟩
      ·have g3:(z != 0)=true:=by rw[cA hs0] at hz0;unfold bne;rw[hz0];rfl
       have HJ2:Hid (∀r:Fr,r.q=x.x.q+y.x.q→Joined (prs (O++[⟨x.at_,r⟩])) (prs LX) (prs LY) (i+1) (j+1)):=zh (fun r hr=>by rw[prs_append,show prs [(⟨x.at_,r⟩:Tm)]=[(x.at_,x.x.q+y.x.q)] from by rw[←hr];rfl];exact hb.2 hs0);have HS1:Hid (sz (x.x.q+y.x.q)+1≤M+M'):=zh zo;clear hxy hyx hxn hyn hpx hpy hjo hb hz0 hs0;have Bz:=zr wr;obtain⟨pA0,pA1,pA2,pA3,pA4,-⟩:=(hnd.below (bT hB Bz)).ez;obtain⟨pB0,pB1,pB2,pB3,pB4,-⟩:=(hnd'.below (bT hB Bz)).ez;go_wp2_with fail
       (try simp only[vA,vBa,vC])
       refine zl (zz [0,1,2,3,4,5,6,7,8,9,10,11,12,13,14,15,16,17,18,19,20,21,22,23] .done) [] (zsa pA0 (zIa pB0)) ?_;iterate 24 (refine zUa ?_;try simp only[uW,uX,uY,uZ])
       refine zAa ?_;go_wp2_with fail
       (try simp only[vA,vBa,vC])
       refine zl (zz [0,1,2,3,4,5,6,7,8,9,10,11,12,13,14,15,16,17] .done) [] (zsa pA0 (zIa pB0)) ?_;iterate 18 (refine zUa ?_;try simp only[uW,uX,uY,uZ])
       refine zAa ?_;go_wp2_with fail
       (try simp only[vA,vBa,vC])
       refine zl (.pure 0 (.pure 1 (.pure 2 (.pure 3 (.take 4 (.pure 5 (.pure 6 (.pure 7 (.pure 8 (.take 9 (.two 10 (.only 11 (.only 12 .done)) 11 (.only 10 (.only 12 .done))))))))))))) [12] (zsa pA1 (zsa pA2 (zsa pA3 (zsa pA4 (zsa pB1 (zsa pB2 (zsa pB3 (zIa pB4)))))))) ?_;iterate 10 ((first|refine zV ?_|refine zUa ?_);try simp only[uW,uX,uY,uZ])
       refine wpPlan_two (o:=⟨some 35,_,_,_,_,_⟩) (o':=⟨some 8,_,_,_,_,_⟩) rfl rfl rfl rfl (fun K hK=>?_) (fun K hK=>?_)
       ·go_simp
        with_reducible refine(add_q (R.below hrx) (R.below hry) zo (zt hT hB Bz)).mono ?_
        rintro e w1 ⟨s1,A1,c1,l1,s1r,A1r,c1r,l1r,rfl,h1,J⟩;replace J:=zq (a:=wr) J;replace hon:=hon.below J;replace ho:=ho.below J;replace Bz:=bT Bz J;clear J;clear pA0 pA1 pA2 pA3 pA4 pB0 pB1 pB2 pB3 pB4;obtain⟨-,pA1,pA2,pA3,pA4,-⟩:=(hnd.below (bT hB Bz)).ez;obtain⟨-,pB1,pB2,pB3,pB4,-⟩:=(hnd'.below (bT hB Bz)).ez;refine hK.out _ _ ⟨pA1,pA2,pA3,pA4,pB1,pB2,pB3,pB4⟩ (fun _=>?_);try simp only[uW,uX,uY,uZ]
        clear hK K;refine zC 8 rfl rfl (fun K hK=>?_);go_simp
        refine hK.out _ _ ⟨(zAb pA1),(zAb pA2),(zAb pA3),(zAb pA4),(zAb pB1),(zAb pB2),(zAb pB3),(zAb pB4)⟩ (fun _=>?_);try simp only[uW,uX,uY,uZ]
        clear hK K;refine zAe (o:=⟨none,_,_,_,_,_⟩) rfl rfl zd (fun K hK=>?_);go_simp
        refine hK.out _ _ ?_;try simp only[Act.put,uX,uY,uZ]
        clear hK K;refine zAa ?_;obtain⟨V1,hW,x0,hN⟩:=zAc w1 #[.bool s1,.slice A1 l1 c1,.bool s1r,.slice A1r l1r c1r] 30;rw[←hW];clear hW;obtain⟨v0,hb0⟩:=ze w1.heap.size;rw[←hb0] at x0 ⊢;have ow_0:w.heap.size≤v0:=zi (zw hB Bz);have nv0_own:=OwnR.off' (b:=v0) ho zo;replace h1:=h1.below hN;replace hon:=hon.below hN;replace ho:=ho.below hN;replace hB:=bT (bT hB Bz) hN;have HX0:=zh x0;clear x0 hN Bz hb0;have Bz:=zr V1;clear pA1 pA2 pA3 pA4 pB1 pB2 pB3 pB4;obtain⟨pa0,pa1,pa2,pa3,-⟩:=(zx HX0 Bz).cz;go_wp2_with fail
        with_reducible refine(sign_q (R.below h1.r) zo z HZ).mono ?_
        rintro e w2 ⟨rfl,J⟩;replace J:=zq (a:=V1) J;replace h1:=h1.below J;replace hon:=hon.below J;replace ho:=ho.below J;replace Bz:=bT Bz J;clear J;clear pa0 pa1 pa2 pa3;obtain⟨pa0,pa1,pa2,pa3,-⟩:=(zx HX0 Bz).cz;have pA0:=(hnd.below (bT hB Bz)).c0 (u:=.int .i64 x.at_) rfl;go_wp2_with fail
        (try simp only[vA,vBa,vC])
        refine zl (.pure 0 (.pure 1 (.pure 2 (.pure 3 (.pure 4 (zz [5,6] (.pure 7 (.only 8 (.only 9 (.pure 10 .done)))))))))) [9] (zsa pa0 (zsa pa1 (zsa pa2 (zsa pa3 (zIa pA0))))) ?_;iterate 8 ((first|refine zV ?_|refine zUa ?_);try simp only[uW,uX,uY,uZ])
        refine zC 47 rfl rfl (fun K hK=>?_);go_simp
        refine hK.out _ _ ⟨(zAb pa0),(zAb pa1),(zAb pa2),(zAb pa3),(zAb pA0)⟩ (fun _=>?_);try simp only[uW,uX,uY,uZ]
        clear hK K;refine zAe (o:=⟨some 48,_,_,_,_,_⟩) rfl rfl zd (fun K hK=>?_);obtain⟨V2,hW,x1,hN⟩:=zAc w2 #[.int .i64 x.at_,.bool s1,.slice A1 l1 c1,.bool s1r,.slice A1r l1r c1r] 32;rw[←hW];clear hW;obtain⟨v1,hb1⟩:=ze w2.heap.size;rw[←hb1] at x1 ⊢;have o0_1:v0<v1:=zi (zx HX0 Bz).lt;have ow_1:w.heap.size≤v1:=zi (zw hB Bz);have nv1_own:=OwnR.off' (b:=v1) ho zo;replace h1:=h1.below hN;replace hon:=hon.below hN;replace ho:=ho.below hN;replace hB:=bT (bT hB Bz) hN;replace HX0:=zba HX0 Bz hN;have HX1:=zh x1;clear x1 hN Bz hb1;have Bz:=zr V2;clear pa0 pa1 pa2 pa3 pA0;have hdr:V2.drew.heap.size=V2.heap.size:=rfl;have hdr2:V2.drew.drew.heap.size=V2.heap.size:=rfl;refine Elt.wp elt_vec _ _ rfl (w.heap.size) (.slice H k hc) (k) (O) rfl ho (.slice (some ⟨v1,0,none⟩) 1 1) (1) ([⟨x.at_,⟨s1,A1,c1,l1,s1r,A1r,c1r,l1r,x.x.q+y.x.q,true⟩⟩]) rfl (From.one (HX1.out.below (bT Bz)) (⟨x.at_,⟨s1,A1,c1,l1,s1r,A1r,c1r,l1r,x.x.q+y.x.q,true⟩⟩) rfl (elt_vec.len _)) zo (zi (zw hB Bz)) ?_;intro H3 c3 w3 ho3 hg3;refine hK.out _ _ ?_;try simp only[uW,uX,uY,uZ]
        clear hK K;replace hB:=(bT (bT hB Bz)).trans (hg3.below (zi (zw hB Bz)) (fun g hg=>by have:=ho.base g hg;omega));clear HX0;clear HX1;clear hdr hdr2;replace h1:=h1.k hg3.k;replace hon:=hon.k hg3.k;clear hg3 Bz;have Bz:=zr w3;have pA0:=(hnd.below (bT hB Bz)).c0 (u:=.int .i64 x.at_) rfl;refine zV ?_;try simp only[uW,uX,uY,uZ]
        refine zAa ?_;go_wp2_with fail
        have hs1:=HS1.out;go_roundg (n-(i+1)+(m-(j+1)))
        case measure=>omega
        case rel=>exact⟨i+1,j+1,k+1,_,_,_,rfl,by go_num,by go_num,zo,zo,aA _,zo,OwnR.below ho3,HJ2.out _ rfl,(OnT.below hon).snoc (RN.below h1) rfl hs1,bT (bT hB Bz)⟩
       ·go_simp
        refine hK.out _ _ ⟨(zAb pA1),(zAb pA2),(zAb pA3),(zAb pA4),(zAb pB1),(zAb pB2),(zAb pB3),(zAb pB4)⟩ (fun _=>?_);try simp only[uW,uX,uY,uZ]
        clear hK K;refine zC 35 rfl rfl (fun K hK=>?_);go_simp
        obtain⟨V1,hW,x0,hN⟩:=zAc wr #[.bool false,.slice none 0 0,.bool false,.slice none 0 0] 30;rw[←hW];clear hW;obtain⟨v0,hb0⟩:=ze wr.heap.size;rw[←hb0] at x0 ⊢;have ow_0:w.heap.size≤v0:=zi (zw hB Bz);have nv0_own:=OwnR.off' (b:=v0) ho zo;replace hon:=hon.below hN;replace ho:=ho.below hN;replace hrx:=hrx.below hN;replace hry:=hry.below hN;replace hB:=bT (bT hB Bz) hN;have HX0:=zh x0;clear x0 hN Bz hb0;have Bz:=zr V1;clear pA0 pA1 pA2 pA3 pA4 pB0 pB1 pB2 pB3 pB4;with_reducible refine(add_q (R.below hrx) (R.below hry) zo (zt hT hB Bz)).mono ?_
        rintro e w1 ⟨s1,A1,c1,l1,s1r,A1r,c1r,l1r,rfl,h1,J⟩;replace J:=zq (a:=V1) J;replace hon:=hon.below J;replace ho:=ho.below J;replace Bz:=bT Bz J;clear J;obtain⟨pa0,pa1,pa2,pa3,-⟩:=(zx HX0 Bz).cz;obtain⟨y0,fa0,fa1,fa2,fa3,-⟩:=(zx HX0 Bz).fz;obtain⟨-,pA1,pA2,pA3,pA4,-⟩:=(hnd.below (bT hB Bz)).ez;obtain⟨-,pB1,pB2,pB3,pB4,-⟩:=(hnd'.below (bT hB Bz)).ez;refine hK.out _ _ ⟨pA1,pA2,pA3,pA4,pB1,pB2,pB3,pB4⟩ (fun _=>?_);try simp only[uW,uX,uY,uZ]
        clear hK K;refine zAe (o:=⟨none,_,_,_,_,_⟩) rfl rfl zd (fun K hK=>?_);go_simp
        refine hK.out _ _ ?_;try simp only[Act.put,uX,uY,uZ]
        clear hK K;refine zAa ?_;obtain⟨V2,hW,x,kk,far,bel⟩:=store4 (.bool s1) (.slice A1 l1 c1) (.bool s1r) (.slice A1r l1r c1r) (zx HX0 Bz) nofun nofun nofun nofun;rw[←hW];clear hW;replace h1:=h1.k kk;replace hon:=hon.k kk;replace ho:=ho.far2 far nv0_own;replace hB:=bel w.heap.size w zo (bT hB Bz);replace HX0:=zh x;clear x kk far bel Bz;have Bz:=zr V2;clear pa0 pa1 pa2 pa3 fa0 fa1 fa2 fa3 y0 pA1 pA2 pA3 pA4 pB1 pB2 pB3 pB4;obtain⟨pa0,pa1,pa2,pa3,-⟩:=(zx HX0 Bz).cz;go_wp2_with fail
        with_reducible refine(sign_q (R.below h1.r) zo z HZ).mono ?_
        rintro e w2 ⟨rfl,J⟩;replace J:=zq (a:=V2) J;replace h1:=h1.below J;replace hon:=hon.below J;replace ho:=ho.below J;replace Bz:=bT Bz J;clear J;clear pa0 pa1 pa2 pa3;obtain⟨pa0,pa1,pa2,pa3,-⟩:=(zx HX0 Bz).cz;have pA0:=(hnd.below (bT hB Bz)).c0 (u:=.int .i64 x.at_) rfl;go_wp2_with fail
        (try simp only[vA,vBa,vC])
        refine zl (.pure 0 (.pure 1 (.pure 2 (.pure 3 (.pure 4 (zz [5,6] (.pure 7 (.only 8 (.only 9 (.pure 10 .done)))))))))) [9] (zsa pa0 (zsa pa1 (zsa pa2 (zsa pa3 (zIa pA0))))) ?_;iterate 8 ((first|refine zV ?_|refine zUa ?_);try simp only[uW,uX,uY,uZ])
        refine zC 47 rfl rfl (fun K hK=>?_);go_simp
        refine hK.out _ _ ⟨(zAb pa0),(zAb pa1),(zAb pa2),(zAb pa3),(zAb pA0)⟩ (fun _=>?_);try simp only[uW,uX,uY,uZ]
        clear hK K;refine zAe (o:=⟨some 48,_,_,_,_,_⟩) rfl rfl zd (fun K hK=>?_);obtain⟨V3,hW,x1,hN⟩:=zAc w2 #[.int .i64 x.at_,.bool s1,.slice A1 l1 c1,.bool s1r,.slice A1r l1r c1r] 32;rw[←hW];clear hW;obtain⟨v1,hb1⟩:=ze w2.heap.size;rw[←hb1] at x1 ⊢;have o0_1:v0<v1:=zi (zx HX0 Bz).lt;have ow_1:w.heap.size≤v1:=zi (zw hB Bz);have nv1_own:=OwnR.off' (b:=v1) ho zo;replace h1:=h1.below hN;replace hon:=hon.below hN;replace ho:=ho.below hN;replace hB:=bT (bT hB Bz) hN;replace HX0:=zba HX0 Bz hN;have HX1:=zh x1;clear x1 hN Bz hb1;have Bz:=zr V3;clear pa0 pa1 pa2 pa3 pA0;have hdr:V3.drew.heap.size=V3.heap.size:=rfl;have hdr2:V3.drew.drew.heap.size=V3.heap.size:=rfl;refine Elt.wp elt_vec _ _ rfl (w.heap.size) (.slice H k hc) (k) (O) rfl ho (.slice (some ⟨v1,0,none⟩) 1 1) (1) ([⟨x.at_,⟨s1,A1,c1,l1,s1r,A1r,c1r,l1r,x.x.q+y.x.q,true⟩⟩]) rfl (From.one (HX1.out.below (bT Bz)) (⟨x.at_,⟨s1,A1,c1,l1,s1r,A1r,c1r,l1r,x.x.q+y.x.q,true⟩⟩) rfl (elt_vec.len _)) zo (zi (zw hB Bz)) ?_;intro H3 c3 w3 ho3 hg3;refine hK.out _ _ ?_;try simp only[uW,uX,uY,uZ]
        clear hK K;replace hB:=(bT (bT hB Bz)).trans (hg3.below (zi (zw hB Bz)) (fun g hg=>by have:=ho.base g hg;omega));clear HX0;clear HX1;clear hdr hdr2;replace h1:=h1.k hg3.k;replace hon:=hon.k hg3.k;clear hg3 Bz;have Bz:=zr w3;have pA0:=(hnd.below (bT hB Bz)).c0 (u:=.int .i64 x.at_) rfl;refine zV ?_;try simp only[uW,uX,uY,uZ]
        refine zAa ?_;go_wp2_with fail
        have hs1:=HS1.out;go_roundg (n-(i+1)+(m-(j+1)))
        case measure=>omega
        case rel=>exact⟨i+1,j+1,k+1,_,_,_,rfl,by go_num,by go_num,zo,zo,aA _,zo,OwnR.below ho3,HJ2.out _ rfl,(OnT.below hon).snoc (RN.below h1) rfl hs1,bT (bT hB Bz)⟩
   ·obtain rfl:j=m:=zo;have j1:¬(j:Int)<(j:Int):=zo;have HJ2:Hid (Joined (prs (O++[x])) (prs LX) (prs LY) (i+1) j):=zh (by rw[prs_append];exact HJO.out.left HPX.out hpx (fun q hq=>by rw[bC (by rw[prs_len,HLY.out];exact aA _)] at hq;cases hq));have HS1:Hid (sz x.x.q+1≤M+M'):=zh zo;have HEX:=zh hxn.2.1;clear hxn hpx hjo hjm;have Bz:=zr wr;obtain⟨pA0,pA1,pA2,pA3,pA4,-⟩:=(hnd.below (bT hB Bz)).ez;go_wp2_with fail
    (try simp only[vA,vBa,vC])
    refine zl (zz [0,1,2,3,4,5,6,7,8,9,10,11,12,13,14,15,16,17,18,19,20,21,22,23] .done) [] zn ?_;iterate 5 (refine zUa ?_;try simp only[uW,uX,uY,uZ])
    iterate 17 (refine zN rfl rfl ?_;try simp only[uW,uX,uY,uZ])
    iterate 2 (refine zUa ?_;try simp only[uW,uX,uY,uZ])
    refine zAa ?_;go_wp2_with (at_builtin;refine And.left (b:=True) ?_)
    refine⟨?_,trivial⟩;obtain⟨V1,hW,x0,hN⟩:=zAc wr #[.int .i64 x.at_,.bool x.x.s,.slice x.x.A x.x.l x.x.c,.bool x.x.s',.slice x.x.A' x.x.l' x.x.c'] 32;rw[←hW];clear hW;obtain⟨v0,hb0⟩:=ze wr.heap.size;rw[←hb0] at x0 ⊢;have ow_0:w.heap.size≤v0:=zi (zw hB Bz);have nv0_own:=OwnR.off' (b:=v0) ho zo;replace hnx:=hnx.below hN;replace hon:=hon.below hN;replace ho:=ho.below hN;replace hB:=bT (bT hB Bz) hN;have HX0:=zh x0;clear x0 hN Bz hb0;have Bz:=zr V1;clear pA0 pA1 pA2 pA3 pA4;have hdr:V1.drew.heap.size=V1.heap.size:=rfl;have hdr2:V1.drew.drew.heap.size=V1.heap.size:=rfl;refine Elt.app elt_vec rfl _ _ rfl (w.heap.size) (.slice H k hc) (k) (O) rfl ho (.slice (some ⟨v0,0,none⟩) 1 1) (1) ([x]) rfl (From.one (HX0.out.below (bT Bz)) (x) rfl (elt_vec.len _)) zo (zi (zw hB Bz)) ?_;intro H1 c1 w1 ho1 hg1;replace hB:=(bT (bT hB Bz)).trans (hg1.below (zi (zw hB Bz)) (fun g hg=>by have:=ho.base g hg;omega));clear HX0;clear hdr hdr2;replace hnx:=hnx.k hg1.k;replace hon:=hon.k hg1.k;clear hg1 Bz;have Bz:=zr w1;go_wp2_with fail
    have hs1:=HS1.out;go_roundg (n-(i+1)+(j-(j)))
    case measure=>omega
    case rel=>exact⟨i+1,j,k+1,_,_,_,rfl,by go_num,rfl,zo,zo,aA _,zo,OwnR.below ho1,HJ2.out,(OnT.below hon).snoc (RN.below hnx) HEX.out hs1,bT (bT hB Bz)⟩
  ·obtain rfl:i=n:=zo;have i1:¬(i:Int)<(i:Int):=zo;by_cases hjm:j<m
   ·obtain⟨by_,oy,rfl,hel'⟩:=HSY.out.at Tm.cs_len zo zo;obtain⟨y,hy⟩:∃y,LY[j]?=some y:=⟨LY[j]'(by rw[HLY.out];exact hjm),gA _⟩;have hnd':=hel' j y hy;have hyn:=HNY.out y (jA hy);have hny:=hyn.1.below hB;have hry:=hny.r;have hys:sz y.x.q+1≤M':=hyn.2.2;have hpy:=prs_get hy;have j1:(j:Int)<(m:Int):=zo;have j3:((j:Int)==(m:Int))=false:=by rw[beq_eq_false_iff_ne];omega
    have HJ2:Hid (Joined (prs (O++[y])) (prs LX) (prs LY) i (j+1)):=zh (by rw[prs_append];exact HJO.out.right HPY.out hpy (fun p hp=>by rw[bC (by rw[prs_len,HLX.out];exact aA _)] at hp;cases hp));have HS1:Hid (sz y.x.q+1≤M+M'):=zh zo;have HEX:=zh hyn.2.1;clear hel' hy hyn hpy hjo hin;have Bz:=zr wr;obtain⟨pB0,pB1,pB2,pB3,pB4,-⟩:=(hnd'.below (bT hB Bz)).ez;go_wp2_with fail
    (try simp only[vA,vBa,vC])
    refine zl (zz [0,1,2,3,4,5,6,7,8,9,10,11,12,13,14,15,16,17,18,19,20,21,22,23] .done) [] zn ?_;iterate 10 (refine zUa ?_;try simp only[uW,uX,uY,uZ])
    iterate 11 (refine zN rfl rfl ?_;try simp only[uW,uX,uY,uZ])
    iterate 3 (refine zUa ?_;try simp only[uW,uX,uY,uZ])
    refine zAa ?_;go_wp2_with fail
    (try simp only[vA,vBa,vC])
    refine zl (zz [0,1,2,3,4,5,6,7,8,9,10,11,12,13,14,15,16,17] .done) [] zn ?_;iterate 5 (refine zUa ?_;try simp only[uW,uX,uY,uZ])
    iterate 11 (refine zN rfl rfl ?_;try simp only[uW,uX,uY,uZ])
    iterate 2 (refine zUa ?_;try simp only[uW,uX,uY,uZ])
    refine zAa ?_;go_wp2_with (at_builtin;refine And.left (b:=True) ?_)
    refine⟨?_,trivial⟩;obtain⟨V1,hW,x0,hN⟩:=zAc wr #[.int .i64 y.at_,.bool y.x.s,.slice y.x.A y.x.l y.x.c,.bool y.x.s',.slice y.x.A' y.x.l' y.x.c'] 32;rw[←hW];clear hW;obtain⟨v0,hb0⟩:=ze wr.heap.size;rw[←hb0] at x0 ⊢;have ow_0:w.heap.size≤v0:=zi (zw hB Bz);have nv0_own:=OwnR.off' (b:=v0) ho zo;replace hny:=hny.below hN;replace hon:=hon.below hN;replace ho:=ho.below hN;replace hB:=bT (bT hB Bz) hN;have HX0:=zh x0;clear x0 hN Bz hb0;have Bz:=zr V1;clear pB0 pB1 pB2 pB3 pB4;have hdr:V1.drew.heap.size=V1.heap.size:=rfl;have hdr2:V1.drew.drew.heap.size=V1.heap.size:=rfl;refine Elt.app elt_vec rfl _ _ rfl (w.heap.size) (.slice H k hc) (k) (O) rfl ho (.slice (some ⟨v0,0,none⟩) 1 1) (1) ([y]) rfl (From.one (HX0.out.below (bT Bz)) (y) rfl (elt_vec.len _)) zo (zi (zw hB Bz)) ?_;intro H1 c1 w1 ho1 hg1;replace hB:=(bT (bT hB Bz)).trans (hg1.below (zi (zw hB Bz)) (fun g hg=>by have:=ho.base g hg;omega));clear HX0;clear hdr hdr2;replace hny:=hny.k hg1.k;replace hon:=hon.k hg1.k;clear hg1 Bz;have Bz:=zr w1;go_wp2_with fail
    have hs1:=HS1.out;go_roundg (i-(i)+(m-(j+1)))
    case measure=>omega
    case rel=>exact⟨i,j+1,k+1,_,_,_,rfl,rfl,by go_num,zo,zo,aA _,zo,OwnR.below ho1,HJ2.out,(OnT.below hon).snoc (RN.below hny) HEX.out hs1,bT (bT hB Bz)⟩
   ·obtain rfl:j=m:=zo;have j1:¬(j:Int)<(j:Int):=zo;have HOS:=zh ho;have HON:=zh hon;clear hjo ho hon;go_wp2_with fail
    go_ret
    exact⟨_,_,_,O,rfl,HOS.out.below (by go_grown),HON.out.below (by go_grown),(HJO.out.done (by rw[prs_len,HLX.out];exact aA _) (by rw[prs_len,HLY.out];exact aA _)).symm,bT hB⟩
theorem join_q {w:World} {n:Nat} (h:NV w X n cx P M) (h':NV w Y m cy Q M') (hP:Nrm P) (hQ:Nrm Q) (hM:M+M'≤18000000000) (hn:n≤1000000) (hm:m≤1000000) (hT:Hid (Tab w)) :
  Calls Tryz.prog 110 #[.slice X n cx,.slice Y m cy] w (TellsV w (nrm (P++Q)) (M+M')) :=
 (joinO_q h h' hP hQ hM hn hm hT).mono fun _ _ k=>k.v
theorem addV_q {w:World} {n:Nat} (h:GV w X n cx P M) (h':GV w Y m cy Q M') (hM:M+M'≤18000000000) (hn:n≤1000000) (hm:m≤1000000) (hT:Hid (Tab w)) :
  Calls Tryz.prog 69 #[.slice X n cx,.slice Y m cy] w (TellsV w (nrm (P++Q)) (M+M')):=by
 have HX:=zh h;have HY:=zh h';have HLX:=zh h.len;have HLY:=zh h'.len;clear h h';have hB:=Below.refl w.heap.size w;have Bz:=zr w;go_enter Tryz.func69,Tryz.ntmps69
 go_wp2_with fail
 with_reducible refine(normV_q (HX.out.below (bT hB (bT (b:=w) Bz))) zo hn (zt hT hB Bz)).mono ?_
 rintro e w1 ⟨A1,n1,c1,rfl,h1,q⟩;replace q:=zq (a:=w) q;replace Bz:=bT Bz q;clear q;go_wp2_with fail
 with_reducible refine(normV_q (HY.out.below (bT hB (bT (b:=w1) Bz))) zo hm (zt hT hB Bz)).mono ?_
 rintro e w2 ⟨A2,n2,c2,rfl,h2,q⟩;replace q:=zq (a:=w1) q;replace h1:=h1.below q;replace Bz:=bT Bz q;clear q;go_wp2_with fail
 with_reducible refine(join_q (NV.below h1) (NV.below h2) (nrm_nrm _) (nrm_nrm _) hM (by have:=h1.len;have:=nrm_len P;have:=HLX.out;omega) (by have:=h2.len;have:=nrm_len Q;have:=HLY.out;omega) (zt hT hB Bz)).mono ?_
 rintro e w3 ⟨A3,n3,c3,rfl,h3,q⟩;replace q:=zq (a:=w2) q;replace Bz:=bT Bz q;clear q;go_wp2_with fail
 go_ret
 have hF:=bT (c:=w3) hB Bz;exact⟨_,_,_,rfl,by rw[←nrm_app];exact NV.below h3,bT hF⟩
end Go.Proofs.YteggjbgbknkoiaaGreatDoor
