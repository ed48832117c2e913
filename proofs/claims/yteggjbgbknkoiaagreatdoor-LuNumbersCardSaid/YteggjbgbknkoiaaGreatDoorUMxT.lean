import Derived.Test.YteggjbgbknkoiaaGreatDoorUVj
import Derived.Test.YteggjbgbknkoiaaGreatDoorUSo4
set_option maxHeartbeats 8000000
set_option maxRecDepth 100000
namespace Go.Proofs.YteggjbgbknkoiaaGreatDoor
variable {M M' b c' cx l l' m mq:Nat} {L:List Tm} {x:Tm} {A A' X:Option Addr} {P Q:List (Int×Rat)} {s':Bool} {te:TypeId}
def wtot:List (Int×Rat)→Nat
 | []=>0
 | x :: L=>sz x.2+1+wtot L
theorem wtot_le:∀{L:List (Int×Rat)},(∀x∈L,sz x.2+1≤m)→wtot L≤L.length*m
 | [],_=>nA _
 | x :: L,h=>by
  have h1:=h x (pA ..);have h2:=wtot_le fun y hy=>h y (qA _ hy);show sz x.2+1+wtot L≤(L.length+1)*m
  rw[aC];omega
open Go.RowKit Tw
theorem nrm_app (P Q:List (Int×Rat)):nrm (nrm P++nrm Q)=nrm (P++Q):=nrm_ext fun a=>by rw[pget_append,pget_append,nrm_get,nrm_get]
def TellsO (w:World) (P:List (Int×Rat)) (M n:Nat) (e:Ending) (w':World):Prop :=
 ∃A' n' c' P',e=.returned (.slice A' n' c')∧GV w' A' n' c' P' (M+1)∧Rise P'∧(∀a,pget P' a=pget P a)∧n'≤n∧Below w.heap.size w w'
def OR1 (w:World) (L:List Tm) (n gk:Nat) (s:Value) (wr:World):Prop:=∃i:Nat,i≤n∧n-i=gk∧s=.int .i64 (i:Int)∧Below w.heap.size w wr∧Rise (prs (L.take i))
theorem rise_next {k:Nat} {y:Tm} (h:Rise (prs (L.take (k+1)))) (hy:L[k]?=some y) (hx:L[k+1]?=some x) (hl:y.at_<x.at_):Rise (prs (L.take (k+1+1))):=by
 rw[take_snoc hx,prs_append];refine h.snoc fun z hz=>?_;rw[take_snoc hy,prs_append] at h hz;rcases bC.1 hz with hz | hz
 ·have:=(Rise.front (x:=(y.at_,y.x.q)) h).2 z hz;simp only at this ⊢
  omega
 ·obtain rfl:=cC.1 hz;exact hl
theorem ordered_q {w:World} {n c:Nat} (h:GV w A n c P M) (hM:M≤19000000000) (hn:n≤19) (hT:Hid (Tab w)) :
  Calls Tryz.prog 64 #[.slice A n c] w (TellsO w P M n):=by
 have hg:=zh h;obtain⟨L,h1,h2,rfl,h4,h5⟩:=h;have HS:=zh h1;have HLN:=zh h1.1;clear h1 h2 h4 h5;go_enter Tryz.func64,Tryz.ntmps64
 go_wp2_with fail
 go_loopg [6] n (fun gk s wr=>OR1 w L n gk s wr)
 case atStart=>exact⟨0,nA _,rfl,rfl,Below.refl _ _,List.Pairwise.nil⟩
 case round =>
  obtain⟨i,hi,hgk,rfl,hB,hr⟩:=hrel;have HGK:=zh hgk;clear hgk;by_cases hlt:i<n
  ·obtain⟨b,off,rfl,hel⟩:=HS.out.at Tm.cs_len zo zo;obtain⟨x,hx⟩:∃x,L[i]?=some x:=⟨L[i]'(by rw[HLN.out];exact hlt),aA _⟩;have hnd:=hel i x hx;cases i with
   | zero =>
    have HR2:Hid (Rise (prs (L.take (0+1)))):=zh (by rw[take_snoc hx];exact List.pairwise_singleton _ _);have i1:(0:Int)<(n:Int):=zo;clear hx hel hr;have Bz:=zr wr;go_wp2_with fail
    (try simp only[vAa,vBa,vC])
    refine zl (zz [0,1,2,3,4,5,6,7,8,9,10,11,12,13,14,15] .done) [] zn ?_;iterate 3 (refine zUa ?_;try simp only[uW,uX,uY,uZ])
    iterate 12 (refine zN rfl rfl ?_;try simp only[uW,uX,uY,uZ])
    refine zUa ?_;try simp only[uW,uX,uY,uZ]
    refine zAa ?_;go_wp2_with fail
    go_roundg (n-(0+1))
    case measure=>have:=HGK.out;omega
    case rel=>exact⟨0+1,zo,rfl,by go_num,bT (bT hB Bz),HR2.out⟩
   | succ k =>
    obtain⟨y,hy⟩:∃y,L[k]?=some y:=⟨L[k]'(by rw[HLN.out];omega),aA _⟩;have hnd':=hel k y hy;have i1:(k:Int)+1<(n:Int):=zo;have i2:(0:Int)≤(k:Int)+1:=zo;have i3:(0:Int)≤(k:Int):=zo;have i4:(k:Int)<(n:Int):=zo;have i5:(0:Int)<(k:Int)+1:=zo;have w6:IntKind.i64.wrap ((k:Int)+1-1)=(k:Int):=by rw[IntWalk.i64_in _ zo];omega
    have w7:IntKind.i64.wrap (k:Int)=(k:Int):=IntWalk.i64_in _ zo;by_cases hl:y.at_<x.at_
    ·have HR2:=zh (rise_next hr hy hx hl);have g1:¬x.at_≤y.at_:=zo;clear hx hy hel hr hl;have Bz:=zr wr;have pA0:=(hnd.below (bT hB Bz)).c0 (u:=.int .i64 x.at_) rfl;have pB0:=(hnd'.below (bT hB Bz)).c0 (u:=.int .i64 y.at_) rfl;go_wp2_with fail
     (try simp only[vAa,vBa,vC])
     refine zl (zz [0,1,2,3,4,5,6,7,8,9,10,11,12,13,14,15] .done) [] (zsa pA0 (zIa pB0)) ?_;iterate 16 (refine zUa ?_;try simp only[uW,uX,uY,uZ])
     refine zAa ?_;go_wp2_with fail
     go_roundg (n-(k+1+1))
     case measure=>have:=HGK.out;omega
     case rel=>exact⟨k+1+1,zo,rfl,by go_num,bT (bT hB Bz),HR2.out⟩
    ·have g1:x.at_≤y.at_:=zo;clear hx hy hel hr hl;have Bz:=zr wr;have pA0:=(hnd.below (bT hB Bz)).c0 (u:=.int .i64 x.at_) rfl;have pB0:=(hnd'.below (bT hB Bz)).c0 (u:=.int .i64 y.at_) rfl;go_wp2_with fail
     (try simp only[vAa,vBa,vC])
     refine zl (zz [0,1,2,3,4,5,6,7,8,9,10,11,12,13,14,15] .done) [] (zsa pA0 (zIa pB0)) ?_;iterate 16 (refine zUa ?_;try simp only[uW,uX,uY,uZ])
     refine zAa ?_;go_wp2_with fail
     with_reducible refine(normV_q (hg.out.below (bT hB (bT (b:=wr) Bz))) hM hn (zt hT hB Bz)).mono ?_
     rintro e w1 ⟨A1,n1,c1,rfl,h1,q⟩;replace q:=zq (a:=wr) q;replace Bz:=bT Bz q;clear q;clear pA0 pB0;go_wp2_with fail
     go_ret
     have hF:=bT (c:=w1) hB Bz;have hF2:=h1.len;exact⟨A1,n1,c1,nrm (prs L),rfl,(NV.below h1).gv (nrm_nrm _).rise,(nrm_nrm _).rise,nrm_get _,by have:=nrm_len (prs L);have:=HLN.out;rw[prs_len] at *;omega,bT (bT hB Bz)⟩
  ·obtain rfl:i=n:=zo;have i1:¬(i:Int)<(i:Int):=zo;rw[eA (by rw[HLN.out];exact cA _)] at hr;have HR:=zh hr;clear hr;go_wp2_with fail
   go_ret
   exact⟨A,i,c,prs L,rfl,(hg.out.below hB).mono (Nat.le_succ _),HR.out,fun _=>rfl,cA _,hB⟩
def JN1 (w:World) (P Q:List (Int×Rat)) (n m MM gk:Nat) (s5 s6 s7:Value) (wr:World):Prop :=
 ∃(i j k:Nat) (H:Option Addr) (hc:Nat) (O:List Tm),s5=.slice H k hc∧s6=.int .i64 (i:Int)∧s7=.int .i64 (j:Int)∧i≤n∧j≤m∧n-i+(m-j)≤gk∧k≤i+j∧
  OwnR wr w.heap.size 32 5 (.slice H k hc) k (flat Tm.cs O)∧Joined (prs O) P Q i j∧OnT wr O (fun _=>MM)∧Below w.heap.size w wr
theorem add_wrap {n:Nat} (hn:n≤19) (hm:m≤19):IntKind.i64.wrap ((n:Int)+(m:Int))=((n+m:Nat):Int):=by rw[IntWalk.i64_in _ zo];omega
theorem joinO_q {w:World} {Y:Option Addr} {n cy:Nat} (h:NV w X n cx P M) (h':NV w Y m cy Q M') (hP:Nrm P) (hQ:Nrm Q) (hM:M+M'≤18000000000) (hn:n≤19) (hm:m≤19) (hT:Hid (Tab w)) :
  Calls Tryz.prog 110 #[.slice X n cx,.slice Y m cy] w (TellsVO w (nrm (P++Q)) (M+M')):=by
 obtain⟨LX,x1,x2,rfl,x4⟩:=h;obtain⟨LY,y1,y2,rfl,y4⟩:=h';have HSX:=zh x1;have HLX:=zh x1.1;have HNX:=zh x2;have HSY:=zh y1;have HLY:=zh y1.1;have HNY:=zh y2;have HPX:=zh hP;have HPY:=zh hQ;have w0:=add_wrap hn hm;clear x1 x2 x4 y1 y2 y4 hP hQ;go_enter Tryz.func110,Tryz.ntmps110
 go_wp2_with (at_make;refine And.left (b:=True) ?_)
 refine⟨?_,trivial⟩;refine Elt.make elt_vec rfl _ _ rfl .i64 .i64 _ (n+m) rfl rfl (by first | rfl | (push_cast;rfl) | omega) zo w.heap.size (cA _) ?_;intro g0 w1 ho1 hB1 hg0;have HO1:=zh ho1;have HB1:=zh hB1;clear ho1 hB1 hg0;go_wp2_with fail
 go_loopg [5,6,7] (n+m) (fun gk s5 s6 s7 wr=>JN1 w (prs LX) (prs LY) n m (M+M') gk s5 s6 s7 wr)
 case atStart=>exact⟨0,0,0,_,_,[],rfl,rfl,rfl,nA _,nA _,cA _,cA _,HO1.out.below (by go_grown),Joined.start _ _,OnT.nil _ _,bT HB1.out⟩
 case round =>
  clear HO1 HB1 w0;obtain⟨i,j,k,H,hc,O,rfl,rfl,rfl,hi,hj,hgk,hk,ho,hjo,hon,hB⟩:=hrel;have HJO:=zh hjo;have i2:(0:Int)≤(i:Int):=zo;have j2:(0:Int)≤(j:Int):=zo;by_cases hin:i<n
  ·obtain⟨bx,ox,rfl,hel⟩:=HSX.out.at Tm.cs_len zo zo;obtain⟨x,hx⟩:∃x,LX[i]?=some x:=⟨LX[i]'(by rw[HLX.out];exact hin),aA _⟩;have hnd:=hel i x hx;have hxn:=HNX.out x (dA hx);have hnx:=hxn.1.below hB;have hrx:=hnx.r;have hxs:sz x.x.q+1≤M:=hxn.2.2;have hpx:=prs_get hx;have i1:(i:Int)<(n:Int):=zo;have i3:((i:Int)==(n:Int))=false:=by rw[beq_eq_false_iff_ne];omega
   clear hel hx;by_cases hjm:j<m
   ·obtain⟨by_,oy,rfl,hel'⟩:=HSY.out.at Tm.cs_len zo zo;obtain⟨y,hy⟩:∃y,LY[j]?=some y:=⟨LY[j]'(by rw[HLY.out];exact hjm),aA _⟩;have hnd':=hel' j y hy;have hyn:=HNY.out y (dA hy);have hny:=hyn.1.below hB;have hry:=hny.r;have hys:sz y.x.q+1≤M':=hyn.2.2;have hpy:=prs_get hy;have j1:(j:Int)<(m:Int):=zo;have j3:((j:Int)==(m:Int))=false:=by rw[beq_eq_false_iff_ne];omega
    clear hel' hy;by_cases hxy:x.at_<y.at_
    ·have HJ2:Hid (Joined (prs (O++[x])) (prs LX) (prs LY) (i+1) j):=zh (by rw[prs_append];exact HJO.out.left HPX.out hpx (HPY.out.rise.behind hpy hxy));have HS1:Hid (sz x.x.q+1≤M+M'):=zh zo;have HEX:=zh hxn.2.1;have g1:x.at_<y.at_:=hxy;clear hxy hxn hyn hpx hpy hjo;have Bz:=zr wr;obtain⟨pA0,pA1,pA2,pA3,pA4,-⟩:=(hnd.below (bT hB Bz)).ez;have pB0:=(hnd'.below (bT hB Bz)).c0 (u:=.int .i64 y.at_) rfl;go_wp2_with fail
     (try simp only[vAa,vBa,vC])
     refine zl (zz [0,1,2,3,4,5,6,7,8,9,10,11,12,13,14,15,16,17,18,19,20,21,22,23] .done) [] (zsa pA0 (zIa pB0)) ?_;iterate 24 (refine zUa ?_;try simp only[uW,uX,uY,uZ])
     refine zAa ?_;go_wp2_with (at_builtin;refine And.left (b:=True) ?_)
     refine⟨?_,trivial⟩;obtain⟨V1,hW,x0,hN⟩:=zAe wr #[.int .i64 x.at_,.bool x.x.s,.slice x.x.A x.x.l x.x.c,.bool x.x.s',.slice x.x.A' x.x.l' x.x.c'] 32;rw[←hW];clear hW;obtain⟨v0,hb0⟩:=ze wr.heap.size;rw[←hb0] at x0 ⊢;have ow_0:w.heap.size≤v0:=zi (zw hB Bz);have nv0_own:=OwnR.off' (b:=v0) ho zo;replace hnx:=hnx.below hN;replace hon:=hon.below hN;replace ho:=ho.below hN;replace hB:=bT (bT hB Bz) hN;have HX0:=zh x0;clear x0 hN Bz hb0;have Bz:=zr V1;clear pA0 pA1 pA2 pA3 pA4 pB0;have hdr:V1.drew.heap.size=V1.heap.size:=rfl;have hdr2:V1.drew.drew.heap.size=V1.heap.size:=rfl;refine Elt.app elt_vec rfl _ _ rfl (w.heap.size) (.slice H k hc) (k) (O) rfl ho (.slice (some ⟨v0,0,none⟩) 1 1) (1) ([x]) rfl (From.one (HX0.out.below (bT Bz)) (x) rfl (elt_vec.len _)) zo (zi (zw hB Bz)) ?_;intro H1 c1 w1 ho1 hg1;replace hB:=(bT (bT hB Bz)).trans (hg1.below (zi (zw hB Bz)) (fun g hg=>by have:=ho.base g hg;omega));clear HX0;clear hdr hdr2;replace hnx:=hnx.k hg1.k;replace hon:=hon.k hg1.k;clear hg1 Bz;have Bz:=zr w1;go_wp2_with fail
     have hs1:=HS1.out;go_roundg (n-(i+1)+(m-(j)))
     case measure=>omega
     case rel=>exact⟨i+1,j,k+1,_,_,_,rfl,by go_num,rfl,zo,zo,cA _,zo,OwnR.below ho1,HJ2.out,(OnT.below hon).snoc (RN.below hnx) HEX.out hs1,bT (bT hB Bz)⟩
    ·have g1:¬x.at_<y.at_:=hxy;by_cases hyx:y.at_<x.at_
     ·have HJ2:Hid (Joined (prs (O++[y])) (prs LX) (prs LY) i (j+1)):=zh (by rw[prs_append];exact HJO.out.right HPY.out hpy (HPX.out.rise.behind hpx hyx));have HS1:Hid (sz y.x.q+1≤M+M'):=zh zo;have HEX:=zh hyn.2.1;have g2:y.at_<x.at_:=hyx;clear hxy hyx hxn hyn hpx hpy hjo;have Bz:=zr wr;have pA0:=(hnd.below (bT hB Bz)).c0 (u:=.int .i64 x.at_) rfl;obtain⟨pB0,pB1,pB2,pB3,pB4,-⟩:=(hnd'.below (bT hB Bz)).ez;go_wp2_with fail
      (try simp only[vAa,vBa,vC])
      refine zl (zz [0,1,2,3,4,5,6,7,8,9,10,11,12,13,14,15,16,17,18,19,20,21,22,23] .done) [] (zsa pA0 (zIa pB0)) ?_;iterate 24 (refine zUa ?_;try simp only[uW,uX,uY,uZ])
      refine zAa ?_;go_wp2_with fail
      (try simp only[vAa,vBa,vC])
      refine zl (zz [0,1,2,3,4,5,6,7,8,9,10,11,12,13,14,15,16,17] .done) [] (zsa pA0 (zIa pB0)) ?_;iterate 18 (refine zUa ?_;try simp only[uW,uX,uY,uZ])
      refine zAa ?_;go_wp2_with (at_builtin;refine And.left (b:=True) ?_)
      refine⟨?_,trivial⟩;obtain⟨V1,hW,x0,hN⟩:=zAe wr #[.int .i64 y.at_,.bool y.x.s,.slice y.x.A y.x.l y.x.c,.bool y.x.s',.slice y.x.A' y.x.l' y.x.c'] 32;rw[←hW];clear hW;obtain⟨v0,hb0⟩:=ze wr.heap.size;rw[←hb0] at x0 ⊢;have ow_0:w.heap.size≤v0:=zi (zw hB Bz);have nv0_own:=OwnR.off' (b:=v0) ho zo;replace hny:=hny.below hN;replace hon:=hon.below hN;replace ho:=ho.below hN;replace hB:=bT (bT hB Bz) hN;have HX0:=zh x0;clear x0 hN Bz hb0;have Bz:=zr V1;clear pA0 pB0 pB1 pB2 pB3 pB4;have hdr:V1.drew.heap.size=V1.heap.size:=rfl;have hdr2:V1.drew.drew.heap.size=V1.heap.size:=rfl;refine Elt.app elt_vec rfl _ _ rfl (w.heap.size) (.slice H k hc) (k) (O) rfl ho (.slice (some ⟨v0,0,none⟩) 1 1) (1) ([y]) rfl (From.one (HX0.out.below (bT Bz)) (y) rfl (elt_vec.len _)) zo (zi (zw hB Bz)) ?_;intro H1 c1 w1 ho1 hg1;replace hB:=(bT (bT hB Bz)).trans (hg1.below (zi (zw hB Bz)) (fun g hg=>by have:=ho.base g hg;omega));clear HX0;clear hdr hdr2;replace hny:=hny.k hg1.k;replace hon:=hon.k hg1.k;clear hg1 Bz;have Bz:=zr w1;go_wp2_with fail
      have hs1:=HS1.out;go_roundg (n-(i)+(m-(j+1)))
      case measure=>omega
      case rel=>exact⟨i,j+1,k+1,_,_,_,rfl,rfl,by go_num,zo,zo,cA _,zo,OwnR.below ho1,HJ2.out,(OnT.below hon).snoc (RN.below hny) HEX.out hs1,bT (bT hB Bz)⟩
     ·have g2:¬y.at_<x.at_:=hyx;have hb:=HJO.out.both HPX.out HPY.out hpx hpy (show x.at_=y.at_ by omega);have hsz:=sz_add (cA (sz x.x.q)) (cA (sz y.x.q));obtain⟨z,HZ⟩:∃z,Hid ((x.x.q+y.x.q).num.sign=z):=⟨_,zh rfl⟩;have hz0:(z==0)=decide (x.x.q+y.x.q=0):=by rw[←HZ.out,num_sign]
      by_cases hs0:x.x.q+y.x.q=0
      ·have g3:(z != 0)=false:=by rw[fC hs0] at hz0;unfold bne;rw[hz0];rfl
       have HJ2:Hid (Joined (prs O) (prs LX) (prs LY) (i+1) (j+1)):=zh (hb.1 hs0);have HS1:Hid (0≤M+M'):=zh (nA _);clear hxy hyx hxn hyn hpx hpy hjo hb hz0 hs0;have Bz:=zr wr;obtain⟨pA0,pA1,pA2,pA3,pA4,-⟩:=(hnd.below (bT hB Bz)).ez;obtain⟨pB0,pB1,pB2,pB3,pB4,-⟩:=(hnd'.below (bT hB Bz)).ez;go_wp2_with fail
       (try simp only[vAa,vBa,vC])
       refine zl (zz [0,1,2,3,4,5,6,7,8,9,10,11,12,13,14,15,16,17,18,19,20,21,22,23] .done) [] (zsa pA0 (zIa pB0)) ?_;iterate 24 (refine zUa ?_;try simp only[uW,uX,uY,uZ])
       refine zAa ?_;go_wp2_with fail
       (try simp only[vAa,vBa,vC])
       refine zl (zz [0,1,2,3,4,5,6,7,8,9,10,11,12,13,14,15,16,17] .done) [] (zsa pA0 (zIa pB0)) ?_;iterate 18 (refine zUa ?_;try simp only[uW,uX,uY,uZ])
       refine zAa ?_;go_wp2_with fail
       (try simp only[vAa,vBa,vC])
       refine zl (.pure 0 (.pure 1 (.pure 2 (.pure 3 (.take 4 (.pure 5 (.pure 6 (.pure 7 (.pure 8 (.take 9 (.two 10 (.only 11 (.only 12 .done)) 11 (.only 10 (.only 12 .done))))))))))))) [12] (zsa pA1 (zsa pA2 (zsa pA3 (zsa pA4 (zsa pB1 (zsa pB2 (zsa pB3 (zIa pB4)))))))) ?_;iterate 10 ((first|refine zV ?_|refine zUa ?_);try simp only[uW,uX,uY,uZ])
       refine wpPlan_two (o:=⟨some 35,_,_,_,_,_⟩) (o':=⟨some 8,_,_,_,_,_⟩) rfl rfl rfl rfl (fun K hK=>?_) (fun K hK=>?_)
       ·go_simp
        with_reducible refine(add_q (R.below hrx) (R.below hry) zo (zt hT hB Bz)).mono ?_
        rintro e w1 ⟨s1,A1,c1,l1,s1r,A1r,c1r,l1r,rfl,h1,J⟩;replace J:=zq (a:=wr) J;replace hon:=hon.below J;replace ho:=ho.below J;replace Bz:=bT Bz J;clear J;clear pA0 pA1 pA2 pA3 pA4 pB0 pB1 pB2 pB3 pB4;obtain⟨-,pA1,pA2,pA3,pA4,-⟩:=(hnd.below (bT hB Bz)).ez;obtain⟨-,pB1,pB2,pB3,pB4,-⟩:=(hnd'.below (bT hB Bz)).ez;refine hK.out _ _ ⟨pA1,pA2,pA3,pA4,pB1,pB2,pB3,pB4⟩ (fun _=>?_);try simp only[uW,uX,uY,uZ]
        clear hK K;refine zC 8 rfl rfl (fun K hK=>?_);go_simp
        refine hK.out _ _ ⟨(zAd pA1),(zAd pA2),(zAd pA3),(zAd pA4),(zAd pB1),(zAd pB2),(zAd pB3),(zAd pB4)⟩ (fun _=>?_);try simp only[uW,uX,uY,uZ]
        clear hK K;refine zAc (o:=⟨none,_,_,_,_,_⟩) rfl rfl zd (fun K hK=>?_);go_simp
        refine hK.out _ _ ?_;try simp only[Act.put,uX,uY,uZ]
        clear hK K;refine zAa ?_;obtain⟨V1,hW,x0,hN⟩:=zAe w1 #[.bool s1,.slice A1 l1 c1,.bool s1r,.slice A1r l1r c1r] 30;rw[←hW];clear hW;obtain⟨v0,hb0⟩:=ze w1.heap.size;rw[←hb0] at x0 ⊢;have ow_0:w.heap.size≤v0:=zi (zw hB Bz);have nv0_own:=OwnR.off' (b:=v0) ho zo;replace h1:=h1.below hN;replace hon:=hon.below hN;replace ho:=ho.below hN;replace hB:=bT (bT hB Bz) hN;have HX0:=zh x0;clear x0 hN Bz hb0;have Bz:=zr V1;clear pA1 pA2 pA3 pA4 pB1 pB2 pB3 pB4;obtain⟨pa0,pa1,pa2,pa3,-⟩:=(zxb HX0 Bz).cz;go_wp2_with fail
        with_reducible refine(sign_q (R.below h1.r) zo z HZ).mono ?_
        rintro e w2 ⟨rfl,J⟩;replace J:=zq (a:=V1) J;replace hon:=hon.below J;replace ho:=ho.below J;replace Bz:=bT Bz J;clear J;clear pa0 pa1 pa2 pa3;go_wp2_with fail
        have hs1:=HS1.out;go_roundg (n-(i+1)+(m-(j+1)))
        case measure=>omega
        case rel=>exact⟨i+1,j+1,k,_,_,_,rfl,by go_num,by go_num,zo,zo,cA _,zo,OwnR.below ho,HJ2.out,OnT.below hon,bT (bT hB Bz)⟩
       ·go_simp
        refine hK.out _ _ ⟨(zAd pA1),(zAd pA2),(zAd pA3),(zAd pA4),(zAd pB1),(zAd pB2),(zAd pB3),(zAd pB4)⟩ (fun _=>?_);try simp only[uW,uX,uY,uZ]
        clear hK K;refine zC 35 rfl rfl (fun K hK=>?_);go_simp
        obtain⟨V1,hW,x0,hN⟩:=zAe wr #[.bool false,.slice none 0 0,.bool false,.slice none 0 0] 30;rw[←hW];clear hW;obtain⟨v0,hb0⟩:=ze wr.heap.size;rw[←hb0] at x0 ⊢;have ow_0:w.heap.size≤v0:=zi (zw hB Bz);have nv0_own:=OwnR.off' (b:=v0) ho zo;replace hon:=hon.below hN;replace ho:=ho.below hN;replace hrx:=hrx.below hN;replace hry:=hry.below hN;replace hB:=bT (bT hB Bz) hN;have HX0:=zh x0;clear x0 hN Bz hb0;have Bz:=zr V1;clear pA0 pA1 pA2 pA3 pA4 pB0 pB1 pB2 pB3 pB4;with_reducible refine(add_q (R.below hrx) (R.below hry) zo (zt hT hB Bz)).mono ?_
        rintro e w1 ⟨s1,A1,c1,l1,s1r,A1r,c1r,l1r,rfl,h1,J⟩;replace J:=zq (a:=V1) J;replace hon:=hon.below J;replace ho:=ho.below J;replace Bz:=bT Bz J;clear J;obtain⟨pa0,pa1,pa2,pa3,-⟩:=(zxb HX0 Bz).cz;obtain⟨y0,fa0,fa1,fa2,fa3,-⟩:=(zxb HX0 Bz).fz;obtain⟨-,pA1,pA2,pA3,pA4,-⟩:=(hnd.below (bT hB Bz)).ez;obtain⟨-,pB1,pB2,pB3,pB4,-⟩:=(hnd'.below (bT hB Bz)).ez;refine hK.out _ _ ⟨pA1,pA2,pA3,pA4,pB1,pB2,pB3,pB4⟩ (fun _=>?_);try simp only[uW,uX,uY,uZ]
        clear hK K;refine zAc (o:=⟨none,_,_,_,_,_⟩) rfl rfl zd (fun K hK=>?_);go_simp
        refine hK.out _ _ ?_;try simp only[Act.put,uX,uY,uZ]
        clear hK K;refine zAa ?_;obtain⟨V2,hW,x,kk,far,bel⟩:=store4 (.bool s1) (.slice A1 l1 c1) (.bool s1r) (.slice A1r l1r c1r) (zxb HX0 Bz) nofun nofun nofun nofun;rw[←hW];clear hW;replace h1:=h1.k kk;replace hon:=hon.k kk;replace ho:=ho.far2 far nv0_own;replace hB:=bel w.heap.size w zo (bT hB Bz);replace HX0:=zh x;clear x kk far bel Bz;have Bz:=zr V2;clear pa0 pa1 pa2 pa3 fa0 fa1 fa2 fa3 y0 pA1 pA2 pA3 pA4 pB1 pB2 pB3 pB4;obtain⟨pa0,pa1,pa2,pa3,-⟩:=(zxb HX0 Bz).cz;go_wp2_with fail
        with_reducible refine(sign_q (R.below h1.r) zo z HZ).mono ?_
        rintro e w2 ⟨rfl,J⟩;replace J:=zq (a:=V2) J;replace hon:=hon.below J;replace ho:=ho.below J;replace Bz:=bT Bz J;clear J;clear pa0 pa1 pa2 pa3;go_wp2_with fail
        have hs1:=HS1.out;go_roundg (n-(i+1)+(m-(j+1)))
        case measure=>omega
        case rel=>exact⟨i+1,j+1,k,_,_,_,rfl,by go_num,by go_num,zo,zo,cA _,zo,OwnR.below ho,HJ2.out,OnT.below hon,bT (bT hB Bz)⟩
      ·have g3:(z != 0)=true:=by rw[jB hs0] at hz0;unfold bne;rw[hz0];rfl
       have HJ2:Hid (∀r:Fr,r.q=x.x.q+y.x.q→Joined (prs (O++[⟨x.at_,r⟩])) (prs LX) (prs LY) (i+1) (j+1)):=zh (fun r hr=>by rw[prs_append,show prs [(⟨x.at_,r⟩:Tm)]=[(x.at_,x.x.q+y.x.q)] from by rw[←hr];rfl];exact hb.2 hs0);have HS1:Hid (sz (x.x.q+y.x.q)+1≤M+M'):=zh zo;clear hxy hyx hxn hyn hpx hpy hjo hb hz0 hs0;have Bz:=zr wr;obtain⟨pA0,pA1,pA2,pA3,pA4,-⟩:=(hnd.below (bT hB Bz)).ez;obtain⟨pB0,pB1,pB2,pB3,pB4,-⟩:=(hnd'.below (bT hB Bz)).ez;go_wp2_with fail
       (try simp only[vAa,vBa,vC])
       refine zl (zz [0,1,2,3,4,5,6,7,8,9,10,11,12,13,14,15,16,17,18,19,20,21,22,23] .done) [] (zsa pA0 (zIa pB0)) ?_;iterate 24 (refine zUa ?_;try simp only[uW,uX,uY,uZ])
       refine zAa ?_;go_wp2_with fail
       (try simp only[vAa,vBa,vC])
       refine zl (zz [0,1,2,3,4,5,6,7,8,9,10,11,12,13,14,15,16,17] .done) [] (zsa pA0 (zIa pB0)) ?_;iterate 18 (refine zUa ?_;try simp only[uW,uX,uY,uZ])
       refine zAa ?_;go_wp2_with fail
       (try simp only[vAa,vBa,vC])
       refine zl (.pure 0 (.pure 1 (.pure 2 (.pure 3 (.take 4 (.pure 5 (.pure 6 (.pure 7 (.pure 8 (.take 9 (.two 10 (.only 11 (.only 12 .done)) 11 (.only 10 (.only 12 .done))))))))))))) [12] (zsa pA1 (zsa pA2 (zsa pA3 (zsa pA4 (zsa pB1 (zsa pB2 (zsa pB3 (zIa pB4)))))))) ?_;iterate 10 ((first|refine zV ?_|refine zUa ?_);try simp only[uW,uX,uY,uZ])
       refine wpPlan_two (o:=⟨some 35,_,_,_,_,_⟩) (o':=⟨some 8,_,_,_,_,_⟩) rfl rfl rfl rfl (fun K hK=>?_) (fun K hK=>?_)
       ·go_simp
        with_reducible refine(add_q (R.below hrx) (R.below hry) zo (zt hT hB Bz)).mono ?_
        rintro e w1 ⟨s1,A1,c1,l1,s1r,A1r,c1r,l1r,rfl,h1,J⟩;replace J:=zq (a:=wr) J;replace hon:=hon.below J;replace ho:=ho.below J;replace Bz:=bT Bz J;clear J;clear pA0 pA1 pA2 pA3 pA4 pB0 pB1 pB2 pB3 pB4;obtain⟨-,pA1,pA2,pA3,pA4,-⟩:=(hnd.below (bT hB Bz)).ez;obtain⟨-,pB1,pB2,pB3,pB4,-⟩:=(hnd'.below (bT hB Bz)).ez;refine hK.out _ _ ⟨pA1,pA2,pA3,pA4,pB1,pB2,pB3,pB4⟩ (fun _=>?_);try simp only[uW,uX,uY,uZ]
        clear hK K;refine zC 8 rfl rfl (fun K hK=>?_);go_simp
        refine hK.out _ _ ⟨(zAd pA1),(zAd pA2),(zAd pA3),(zAd pA4),(zAd pB1),(zAd pB2),(zAd pB3),(zAd pB4)⟩ (fun _=>?_);try simp only[uW,uX,uY,uZ]
        clear hK K;refine zAc (o:=⟨none,_,_,_,_,_⟩) rfl rfl zd (fun K hK=>?_);go_simp
        refine hK.out _ _ ?_;try simp only[Act.put,uX,uY,uZ]
        clear hK K;refine zAa ?_;obtain⟨V1,hW,x0,hN⟩:=zAe w1 #[.bool s1,.slice A1 l1 c1,.bool s1r,.slice A1r l1r c1r] 30;rw[←hW];clear hW;obtain⟨v0,hb0⟩:=ze w1.heap.size;rw[←hb0] at x0 ⊢;have ow_0:w.heap.size≤v0:=zi (zw hB Bz);have nv0_own:=OwnR.off' (b:=v0) ho zo;replace h1:=h1.below hN;replace hon:=hon.below hN;replace ho:=ho.below hN;replace hB:=bT (bT hB Bz) hN;have HX0:=zh x0;clear x0 hN Bz hb0;have Bz:=zr V1;clear pA1 pA2 pA3 pA4 pB1 pB2 pB3 pB4;obtain⟨pa0,pa1,pa2,pa3,-⟩:=(zxb HX0 Bz).cz;go_wp2_with fail
        with_reducible refine(sign_q (R.below h1.r) zo z HZ).mono ?_
        rintro e w2 ⟨rfl,J⟩;replace J:=zq (a:=V1) J;replace h1:=h1.below J;replace hon:=hon.below J;replace ho:=ho.below J;replace Bz:=bT Bz J;clear J;clear pa0 pa1 pa2 pa3;obtain⟨pa0,pa1,pa2,pa3,-⟩:=(zxb HX0 Bz).cz;have pA0:=(hnd.below (bT hB Bz)).c0 (u:=.int .i64 x.at_) rfl;go_wp2_with fail
        (try simp only[vAa,vBa,vC])
        refine zl (.pure 0 (.pure 1 (.pure 2 (.pure 3 (.pure 4 (zz [5,6] (.pure 7 (.only 8 (.only 9 (.pure 10 .done)))))))))) [9] (zsa pa0 (zsa pa1 (zsa pa2 (zsa pa3 (zIa pA0))))) ?_;iterate 8 ((first|refine zV ?_|refine zUa ?_);try simp only[uW,uX,uY,uZ])
        refine zC 47 rfl rfl (fun K hK=>?_);go_simp
        refine hK.out _ _ ⟨(zAd pa0),(zAd pa1),(zAd pa2),(zAd pa3),(zAd pA0)⟩ (fun _=>?_);try simp only[uW,uX,uY,uZ]
        clear hK K;refine zAc (o:=⟨some 48,_,_,_,_,_⟩) rfl rfl zd (fun K hK=>?_);obtain⟨V2,hW,x1,hN⟩:=zAe w2 #[.int .i64 x.at_,.bool s1,.slice A1 l1 c1,.bool s1r,.slice A1r l1r c1r] 32;rw[←hW];clear hW;obtain⟨v1,hb1⟩:=ze w2.heap.size;rw[←hb1] at x1 ⊢;have o0_1:v0<v1:=zi (zxb HX0 Bz).lt;have ow_1:w.heap.size≤v1:=zi (zw hB Bz);have nv1_own:=OwnR.off' (b:=v1) ho zo;replace h1:=h1.below hN;replace hon:=hon.below hN;replace ho:=ho.below hN;replace hB:=bT (bT hB Bz) hN;replace HX0:=zba HX0 Bz hN;have HX1:=zh x1;clear x1 hN Bz hb1;have Bz:=zr V2;clear pa0 pa1 pa2 pa3 pA0;have hdr:V2.drew.heap.size=V2.heap.size:=rfl;have hdr2:V2.drew.drew.heap.size=V2.heap.size:=rfl;refine Elt.wp elt_vec _ _ rfl (w.heap.size) (.slice H k hc) (k) (O) rfl ho (.slice (some ⟨v1,0,none⟩) 1 1) (1) ([⟨x.at_,⟨s1,A1,c1,l1,s1r,A1r,c1r,l1r,x.x.q+y.x.q,true⟩⟩]) rfl (From.one (HX1.out.below (bT Bz)) (⟨x.at_,⟨s1,A1,c1,l1,s1r,A1r,c1r,l1r,x.x.q+y.x.q,true⟩⟩) rfl (elt_vec.len _)) zo (zi (zw hB Bz)) ?_;intro H3 c3 w3 ho3 hg3;refine hK.out _ _ ?_;try simp only[uW,uX,uY,uZ]
        clear hK K;replace hB:=(bT (bT hB Bz)).trans (hg3.below (zi (zw hB Bz)) (fun g hg=>by have:=ho.base g hg;omega));clear HX0;clear HX1;clear hdr hdr2;replace h1:=h1.k hg3.k;replace hon:=hon.k hg3.k;clear hg3 Bz;have Bz:=zr w3;have pA0:=(hnd.below (bT hB Bz)).c0 (u:=.int .i64 x.at_) rfl;refine zV ?_;try simp only[uW,uX,uY,uZ]
        refine zAa ?_;go_wp2_with fail
        have hs1:=HS1.out;go_roundg (n-(i+1)+(m-(j+1)))
        case measure=>omega
        case rel=>exact⟨i+1,j+1,k+1,_,_,_,rfl,by go_num,by go_num,zo,zo,cA _,zo,OwnR.below ho3,HJ2.out _ rfl,(OnT.below hon).snoc (RN.below h1) rfl hs1,bT (bT hB Bz)⟩
       ·go_simp
        refine hK.out _ _ ⟨(zAd pA1),(zAd pA2),(zAd pA3),(zAd pA4),(zAd pB1),(zAd pB2),(zAd pB3),(zAd pB4)⟩ (fun _=>?_);try simp only[uW,uX,uY,uZ]
        clear hK K;refine zC 35 rfl rfl (fun K hK=>?_);go_simp
        obtain⟨V1,hW,x0,hN⟩:=zAe wr #[.bool false,.slice none 0 0,.bool false,.slice none 0 0] 30;rw[←hW];clear hW;obtain⟨v0,hb0⟩:=ze wr.heap.size;rw[←hb0] at x0 ⊢;have ow_0:w.heap.size≤v0:=zi (zw hB Bz);have nv0_own:=OwnR.off' (b:=v0) ho zo;replace hon:=hon.below hN;replace ho:=ho.below hN;replace hrx:=hrx.below hN;replace hry:=hry.below hN;replace hB:=bT (bT hB Bz) hN;have HX0:=zh x0;clear x0 hN Bz hb0;have Bz:=zr V1;clear pA0 pA1 pA2 pA3 pA4 pB0 pB1 pB2 pB3 pB4;with_reducible refine(add_q (R.below hrx) (R.below hry) zo (zt hT hB Bz)).mono ?_
        rintro e w1 ⟨s1,A1,c1,l1,s1r,A1r,c1r,l1r,rfl,h1,J⟩;replace J:=zq (a:=V1) J;replace hon:=hon.below J;replace ho:=ho.below J;replace Bz:=bT Bz J;clear J;obtain⟨pa0,pa1,pa2,pa3,-⟩:=(zxb HX0 Bz).cz;obtain⟨y0,fa0,fa1,fa2,fa3,-⟩:=(zxb HX0 Bz).fz;obtain⟨-,pA1,pA2,pA3,pA4,-⟩:=(hnd.below (bT hB Bz)).ez;obtain⟨-,pB1,pB2,pB3,pB4,-⟩:=(hnd'.below (bT hB Bz)).ez;refine hK.out _ _ ⟨pA1,pA2,pA3,pA4,pB1,pB2,pB3,pB4⟩ (fun _=>?_);try simp only[uW,uX,uY,uZ]
        clear hK K;refine zAc (o:=⟨none,_,_,_,_,_⟩) rfl rfl zd (fun K hK=>?_);go_simp
        refine hK.out _ _ ?_;try simp only[Act.put,uX,uY,uZ]
        clear hK K;refine zAa ?_;obtain⟨V2,hW,x,kk,far,bel⟩:=store4 (.bool s1) (.slice A1 l1 c1) (.bool s1r) (.slice A1r l1r c1r) (zxb HX0 Bz) nofun nofun nofun nofun;rw[←hW];clear hW;replace h1:=h1.k kk;replace hon:=hon.k kk;replace ho:=ho.far2 far nv0_own;replace hB:=bel w.heap.size w zo (bT hB Bz);replace HX0:=zh x;clear x kk far bel Bz;have Bz:=zr V2;clear pa0 pa1 pa2 pa3 fa0 fa1 fa2 fa3 y0 pA1 pA2 pA3 pA4 pB1 pB2 pB3 pB4;obtain⟨pa0,pa1,pa2,pa3,-⟩:=(zxb HX0 Bz).cz;go_wp2_with fail
        with_reducible refine(sign_q (R.below h1.r) zo z HZ).mono ?_
        rintro e w2 ⟨rfl,J⟩;replace J:=zq (a:=V2) J;replace h1:=h1.below J;replace hon:=hon.below J;replace ho:=ho.below J;replace Bz:=bT Bz J;clear J;clear pa0 pa1 pa2 pa3;obtain⟨pa0,pa1,pa2,pa3,-⟩:=(zxb HX0 Bz).cz;have pA0:=(hnd.below (bT hB Bz)).c0 (u:=.int .i64 x.at_) rfl;go_wp2_with fail
        (try simp only[vAa,vBa,vC])
        refine zl (.pure 0 (.pure 1 (.pure 2 (.pure 3 (.pure 4 (zz [5,6] (.pure 7 (.only 8 (.only 9 (.pure 10 .done)))))))))) [9] (zsa pa0 (zsa pa1 (zsa pa2 (zsa pa3 (zIa pA0))))) ?_;iterate 8 ((first|refine zV ?_|refine zUa ?_);try simp only[uW,uX,uY,uZ])
        refine zC 47 rfl rfl (fun K hK=>?_);go_simp
        refine hK.out _ _ ⟨(zAd pa0),(zAd pa1),(zAd pa2),(zAd pa3),(zAd pA0)⟩ (fun _=>?_);try simp only[uW,uX,uY,uZ]
        clear hK K;refine zAc (o:=⟨some 48,_,_,_,_,_⟩) rfl rfl zd (fun K hK=>?_);obtain⟨V3,hW,x1,hN⟩:=zAe w2 #[.int .i64 x.at_,.bool s1,.slice A1 l1 c1,.bool s1r,.slice A1r l1r c1r] 32;rw[←hW];clear hW;obtain⟨v1,hb1⟩:=ze w2.heap.size;rw[←hb1] at x1 ⊢;have o0_1:v0<v1:=zi (zxb HX0 Bz).lt;have ow_1:w.heap.size≤v1:=zi (zw hB Bz);have nv1_own:=OwnR.off' (b:=v1) ho zo;replace h1:=h1.below hN;replace hon:=hon.below hN;replace ho:=ho.below hN;replace hB:=bT (bT hB Bz) hN;replace HX0:=zba HX0 Bz hN;have HX1:=zh x1;clear x1 hN Bz hb1;have Bz:=zr V3;clear pa0 pa1 pa2 pa3 pA0;have hdr:V3.drew.heap.size=V3.heap.size:=rfl;have hdr2:V3.drew.drew.heap.size=V3.heap.size:=rfl;refine Elt.wp elt_vec _ _ rfl (w.heap.size) (.slice H k hc) (k) (O) rfl ho (.slice (some ⟨v1,0,none⟩) 1 1) (1) ([⟨x.at_,⟨s1,A1,c1,l1,s1r,A1r,c1r,l1r,x.x.q+y.x.q,true⟩⟩]) rfl (From.one (HX1.out.below (bT Bz)) (⟨x.at_,⟨s1,A1,c1,l1,s1r,A1r,c1r,l1r,x.x.q+y.x.q,true⟩⟩) rfl (elt_vec.len _)) zo (zi (zw hB Bz)) ?_;intro H3 c3 w3 ho3 hg3;refine hK.out _ _ ?_;try simp only[uW,uX,uY,uZ]
        clear hK K;replace hB:=(bT (bT hB Bz)).trans (hg3.below (zi (zw hB Bz)) (fun g hg=>by have:=ho.base g hg;omega));clear HX0;clear HX1;clear hdr hdr2;replace h1:=h1.k hg3.k;replace hon:=hon.k hg3.k;clear hg3 Bz;have Bz:=zr w3;have pA0:=(hnd.below (bT hB Bz)).c0 (u:=.int .i64 x.at_) rfl;refine zV ?_;try simp only[uW,uX,uY,uZ]
        refine zAa ?_;go_wp2_with fail
        have hs1:=HS1.out;go_roundg (n-(i+1)+(m-(j+1)))
        case measure=>omega
        case rel=>exact⟨i+1,j+1,k+1,_,_,_,rfl,by go_num,by go_num,zo,zo,cA _,zo,OwnR.below ho3,HJ2.out _ rfl,(OnT.below hon).snoc (RN.below h1) rfl hs1,bT (bT hB Bz)⟩
   ·obtain rfl:j=m:=zo;have j1:¬(j:Int)<(j:Int):=zo;have HJ2:Hid (Joined (prs (O++[x])) (prs LX) (prs LY) (i+1) j):=zh (by rw[prs_append];exact HJO.out.left HPX.out hpx (fun q hq=>by rw[eD (by rw[prs_len,HLY.out];exact cA _)] at hq;cases hq));have HS1:Hid (sz x.x.q+1≤M+M'):=zh zo;have HEX:=zh hxn.2.1;clear hxn hpx hjo hjm;have Bz:=zr wr;obtain⟨pA0,pA1,pA2,pA3,pA4,-⟩:=(hnd.below (bT hB Bz)).ez;go_wp2_with fail
    (try simp only[vAa,vBa,vC])
    refine zl (zz [0,1,2,3,4,5,6,7,8,9,10,11,12,13,14,15,16,17,18,19,20,21,22,23] .done) [] zn ?_;iterate 5 (refine zUa ?_;try simp only[uW,uX,uY,uZ])
    iterate 17 (refine zN rfl rfl ?_;try simp only[uW,uX,uY,uZ])
    iterate 2 (refine zUa ?_;try simp only[uW,uX,uY,uZ])
    refine zAa ?_;go_wp2_with (at_builtin;refine And.left (b:=True) ?_)
    refine⟨?_,trivial⟩;obtain⟨V1,hW,x0,hN⟩:=zAe wr #[.int .i64 x.at_,.bool x.x.s,.slice x.x.A x.x.l x.x.c,.bool x.x.s',.slice x.x.A' x.x.l' x.x.c'] 32;rw[←hW];clear hW;obtain⟨v0,hb0⟩:=ze wr.heap.size;rw[←hb0] at x0 ⊢;have ow_0:w.heap.size≤v0:=zi (zw hB Bz);have nv0_own:=OwnR.off' (b:=v0) ho zo;replace hnx:=hnx.below hN;replace hon:=hon.below hN;replace ho:=ho.below hN;replace hB:=bT (bT hB Bz) hN;have HX0:=zh x0;clear x0 hN Bz hb0;have Bz:=zr V1;clear pA0 pA1 pA2 pA3 pA4;have hdr:V1.drew.heap.size=V1.heap.size:=rfl;have hdr2:V1.drew.drew.heap.size=V1.heap.size:=rfl;refine Elt.app elt_vec rfl _ _ rfl (w.heap.size) (.slice H k hc) (k) (O) rfl ho (.slice (some ⟨v0,0,none⟩) 1 1) (1) ([x]) rfl (From.one (HX0.out.below (bT Bz)) (x) rfl (elt_vec.len _)) zo (zi (zw hB Bz)) ?_;intro H1 c1 w1 ho1 hg1;replace hB:=(bT (bT hB Bz)).trans (hg1.below (zi (zw hB Bz)) (fun g hg=>by have:=ho.base g hg;omega));clear HX0;clear hdr hdr2;replace hnx:=hnx.k hg1.k;replace hon:=hon.k hg1.k;clear hg1 Bz;have Bz:=zr w1;go_wp2_with fail
    have hs1:=HS1.out;go_roundg (n-(i+1)+(j-(j)))
    case measure=>omega
    case rel=>exact⟨i+1,j,k+1,_,_,_,rfl,by go_num,rfl,zo,zo,cA _,zo,OwnR.below ho1,HJ2.out,(OnT.below hon).snoc (RN.below hnx) HEX.out hs1,bT (bT hB Bz)⟩
  ·obtain rfl:i=n:=zo;have i1:¬(i:Int)<(i:Int):=zo;by_cases hjm:j<m
   ·obtain⟨by_,oy,rfl,hel'⟩:=HSY.out.at Tm.cs_len zo zo;obtain⟨y,hy⟩:∃y,LY[j]?=some y:=⟨LY[j]'(by rw[HLY.out];exact hjm),aA _⟩;have hnd':=hel' j y hy;have hyn:=HNY.out y (dA hy);have hny:=hyn.1.below hB;have hry:=hny.r;have hys:sz y.x.q+1≤M':=hyn.2.2;have hpy:=prs_get hy;have j1:(j:Int)<(m:Int):=zo;have j3:((j:Int)==(m:Int))=false:=by rw[beq_eq_false_iff_ne];omega
    have HJ2:Hid (Joined (prs (O++[y])) (prs LX) (prs LY) i (j+1)):=zh (by rw[prs_append];exact HJO.out.right HPY.out hpy (fun p hp=>by rw[eD (by rw[prs_len,HLX.out];exact cA _)] at hp;cases hp));have HS1:Hid (sz y.x.q+1≤M+M'):=zh zo;have HEX:=zh hyn.2.1;clear hel' hy hyn hpy hjo hin;have Bz:=zr wr;obtain⟨pB0,pB1,pB2,pB3,pB4,-⟩:=(hnd'.below (bT hB Bz)).ez;go_wp2_with fail
    (try simp only[vAa,vBa,vC])
    refine zl (zz [0,1,2,3,4,5,6,7,8,9,10,11,12,13,14,15,16,17,18,19,20,21,22,23] .done) [] zn ?_;iterate 10 (refine zUa ?_;try simp only[uW,uX,uY,uZ])
    iterate 11 (refine zN rfl rfl ?_;try simp only[uW,uX,uY,uZ])
    iterate 3 (refine zUa ?_;try simp only[uW,uX,uY,uZ])
    refine zAa ?_;go_wp2_with fail
    (try simp only[vAa,vBa,vC])
    refine zl (zz [0,1,2,3,4,5,6,7,8,9,10,11,12,13,14,15,16,17] .done) [] zn ?_;iterate 5 (refine zUa ?_;try simp only[uW,uX,uY,uZ])
    iterate 11 (refine zN rfl rfl ?_;try simp only[uW,uX,uY,uZ])
    iterate 2 (refine zUa ?_;try simp only[uW,uX,uY,uZ])
    refine zAa ?_;go_wp2_with (at_builtin;refine And.left (b:=True) ?_)
    refine⟨?_,trivial⟩;obtain⟨V1,hW,x0,hN⟩:=zAe wr #[.int .i64 y.at_,.bool y.x.s,.slice y.x.A y.x.l y.x.c,.bool y.x.s',.slice y.x.A' y.x.l' y.x.c'] 32;rw[←hW];clear hW;obtain⟨v0,hb0⟩:=ze wr.heap.size;rw[←hb0] at x0 ⊢;have ow_0:w.heap.size≤v0:=zi (zw hB Bz);have nv0_own:=OwnR.off' (b:=v0) ho zo;replace hny:=hny.below hN;replace hon:=hon.below hN;replace ho:=ho.below hN;replace hB:=bT (bT hB Bz) hN;have HX0:=zh x0;clear x0 hN Bz hb0;have Bz:=zr V1;clear pB0 pB1 pB2 pB3 pB4;have hdr:V1.drew.heap.size=V1.heap.size:=rfl;have hdr2:V1.drew.drew.heap.size=V1.heap.size:=rfl;refine Elt.app elt_vec rfl _ _ rfl (w.heap.size) (.slice H k hc) (k) (O) rfl ho (.slice (some ⟨v0,0,none⟩) 1 1) (1) ([y]) rfl (From.one (HX0.out.below (bT Bz)) (y) rfl (elt_vec.len _)) zo (zi (zw hB Bz)) ?_;intro H1 c1 w1 ho1 hg1;replace hB:=(bT (bT hB Bz)).trans (hg1.below (zi (zw hB Bz)) (fun g hg=>by have:=ho.base g hg;omega));clear HX0;clear hdr hdr2;replace hny:=hny.k hg1.k;replace hon:=hon.k hg1.k;clear hg1 Bz;have Bz:=zr w1;go_wp2_with fail
    have hs1:=HS1.out;go_roundg (i-(i)+(m-(j+1)))
    case measure=>omega
    case rel=>exact⟨i,j+1,k+1,_,_,_,rfl,rfl,by go_num,zo,zo,cA _,zo,OwnR.below ho1,HJ2.out,(OnT.below hon).snoc (RN.below hny) HEX.out hs1,bT (bT hB Bz)⟩
   ·obtain rfl:j=m:=zo;have j1:¬(j:Int)<(j:Int):=zo;have HOS:=zh ho;have HON:=zh hon;clear hjo ho hon;go_wp2_with fail
    go_ret
    exact⟨_,_,_,O,rfl,HOS.out.below (by go_grown),HON.out.below (by go_grown),(HJO.out.done (by rw[prs_len,HLX.out];exact cA _) (by rw[prs_len,HLY.out];exact cA _)).symm,bT hB⟩
def SC1 (w W:World) (cs:Array Value) (L:List Tm) (q:Rat) (n MM gk:Nat) (s5 s12:Value) (wr:World):Prop :=
 ∃(i k:Nat) (H:Option Addr) (hc:Nat) (O:List Tm),s5=.slice H k hc∧s12=.int .i64 (i:Int)∧i≤n∧n-i≤gk∧k≤i∧
  OwnR wr W.heap.size 32 5 (.slice H k hc) k (flat Tm.cs O)∧prs O=((prs (L.take i)).map fun x=>(x.1,q*x.2)).filter (fun x=>decide (x.2≠0))∧OnT wr O (fun _=>MM)∧Bx wr w.heap.size cs 30∧Below w.heap.size w wr∧Below W.heap.size W wr
theorem scale_snoc {i:Nat} {q:Rat} (h:L[i]?=some x):((prs (L.take (i+1))).map fun x=>(x.1,q*x.2)).filter (fun x=>decide (x.2≠0))=((prs (L.take i)).map fun x=>(x.1,q*x.2)).filter (fun x=>decide (x.2≠0))++if q*x.x.q=0 then [] else [(x.at_,q*x.x.q)]:=by
 rw[take_snoc h,prs_append,jF,List.filter_append];congr 1
 show([(x.at_,q*x.x.q)]:List (Int×Rat)).filter _=_
 by_cases e:q*x.x.q=0
 ·rw[gA e,List.filter_cons_of_neg (by simp[e])];rfl
 ·rw[fA e,List.filter_cons_of_pos (by simp[e])];rfl
theorem sign_zero {q:Rat} {z:Int} (h:q.num.sign=z):(z != 0)=decide (q≠0):=by
 have:=num_sign q;rw[h] at this;unfold bne
 rw[this];by_cases e:q=0<;>simp[e]
theorem scaleV_q {w:World} {s:Bool} {c:Nat} {q:Rat} {n:Nat} (ha:R w s A c l s' A' c' l' q mq) (h:GV w X n cx P M) (hM:M≤10000000000) (hmq:mq≤10000000000) (hn:n≤19) (hT:Hid (Tab w)) :
  Calls Tryz.prog 25 #[.agg #[.bool s,.slice A l c,.bool s',.slice A' l' c'],.slice X n cx] w (TellsV w (nrm (P.map fun x=>(x.1,q*x.2))) (mq+M+3)):=by
 have hx:=zh h;have hM:M≤19000000000:=zo;clear h;obtain⟨W,hW,x0,hB⟩:=zAe w #[.bool s,.slice A l c,.bool s',.slice A' l' c'] 30;replace ha:=ha.below hB;have HX0:=zh x0;clear x0;have Bz:=zr W;go_enter Tryz.func25,Tryz.ntmps25
 go_wp2_with fail
 rw[←hW];clear hW;go_wp2_with fail
 with_reducible refine(ordered_q (hx.out.below (bT hB (bT (b:=W) Bz))) hM hn (zt hT hB Bz)).mono ?_
 rintro e w1 ⟨A1,n1,c1,P1,rfl,h1,r1,e1,l1,j⟩;replace j:=zq (a:=W) j;replace ha:=ha.below j;replace Bz:=bT Bz j;clear j;go_wp2_with fail
 obtain⟨L,x1,x2,rfl,x4,x5⟩:=h1;have HS:=zh x1;have HLN:=zh x1.1;have HOK:=zh x2;have HWS:=zh x4;have HRS:=zh r1;have HGT:=zh e1;have HB1:=zh (bT hB Bz);have HA1:=zh ha;have XX0:=zh (zxb HX0 Bz);have HXB:=zh (zxb HX0 Bz).lt;clear x1 x2 x4 x5 r1 e1 hB Bz HX0 ha;go_loopg [5,12] n1 (fun gk s5 s12 wr=>SC1 w w1 #[.bool s,.slice A l c,.bool s',.slice A' l' c'] L q n1 (mq+M+3) gk s5 s12 wr)
 case atStart=>exact⟨0,0,_,_,[],rfl,rfl,nA _,cA _,cA _,OwnR.nil _ _ _ _,rfl,OnT.nil _ _,XX0.out,HB1.out,Below.refl _ _⟩
 case round =>
  clear XX0;have hWs:w.heap.size<w1.heap.size:=zi HXB.out;clear HB1;obtain⟨i,k,H,hc,O,rfl,rfl,hi,hgk,hk,ho,hp,hon,hx0,hB,hBW⟩:=hrel;have HP:=zh hp;have HX0:=zh hx0;clear hp hx0;by_cases hlt:i<n1
  ·obtain⟨b,off,rfl,hel⟩:=HS.out.at Tm.cs_len zo zo;obtain⟨x,hx'⟩:∃x,L[i]?=some x:=⟨L[i]'(by rw[HLN.out];exact hlt),aA _⟩;have hnd:=hel i x hx';have hfx:=HOK.out x (dA hx');have hrx:R wr x.x.s x.x.A x.x.c x.x.l x.x.s' x.x.A' x.x.c' x.x.l' x.x.q (dgT x):=(hfx.below hBW).r;have ha:=HA1.out.below hBW;have hdx:dgT x+2≤M+1:=kA (wsum_mem (dA hx')) (HWS.out _);have hsq:=ha.sz;have hsx:=hfx.szd;have hsz:sz (q*x.x.q)≤(mq+1)+(dgT x+1):=sz_mul zo hsx;obtain⟨z,HZ⟩:∃z,Hid ((q*x.x.q).num.sign=z):=⟨_,zh rfl⟩;have hz0:=sign_zero HZ.out;have i1:(i:Int)<(n1:Int):=zo;have i2:(0:Int)≤(i:Int):=zo;have hsn:=scale_snoc (q:=q) hx';clear hel hx' hfx;by_cases hs0:q*x.x.q=0
   ·have g3:(z != 0)=false:=by rw[hz0,jB (fun h=>h hs0)]
    have HP2:Hid (prs O=((prs (L.take (i+1))).map fun x=>(x.1,q*x.2)).filter (fun x=>decide (x.2≠0))):=zh (by rw[hsn,gA hs0,mF,HP.out]);have HS1:Hid (0≤M):=zh (nA _);clear hz0 hsn hs0;have Bz:=zr wr;obtain⟨pA0,pA1,pA2,pA3,pA4,-⟩:=(hnd.below (bT hBW Bz)).ez;go_upto_region 5 with(fail)
    obtain⟨V11,hW,x1,hN⟩:=zAe wr #[.int .i64 x.at_,.bool x.x.s,.slice x.x.A x.x.l x.x.c,.bool x.x.s',.slice x.x.A' x.x.l' x.x.c'] 32;rw[←hW];clear hW;obtain⟨v1,hb1⟩:=ze wr.heap.size;rw[←hb1] at x1 ⊢;have ow_1:w.heap.size≤v1:=zi (zw hB Bz);have nv1_own:=OwnR.off' (b:=v1) ho zo;replace ha:=ha.below hN;replace hon:=hon.below hN;replace ho:=ho.below hN;replace hrx:=hrx.below hN;replace hB:=bT (bT hB Bz) hN;replace hBW:=bT (bT hBW Bz) hN;replace HX0:=zba HX0 Bz hN;have HX1:=zh x1;clear x1 hN Bz hb1;have Bz:=zr V11;clear pA0 pA1 pA2 pA3 pA4;obtain⟨pa0,pa1,pa2,pa3,-⟩:=(zxb HX0 Bz).cz;obtain⟨-,pb1,pb2,pb3,pb4,-⟩:=(zxb HX1 Bz).cz;go_wp2_with fail
    with_reducible refine(mul_q (R.below ha) (R.below hrx) zo (zt hT hB Bz)).mono ?_
    rintro e w11 ⟨s11,A11,c11,l11,s11r,A11r,c11r,l11r,rfl,h11,j⟩;replace j:=zq (a:=V11) j;replace hon:=hon.below j;replace ho:=ho.below j;replace Bz:=bT Bz j;clear j;clear pa0 pa1 pa2 pa3 pb1 pb2 pb3 pb4;go_upto_region 6 with(fail)
    obtain⟨V12,hW,x2,hN⟩:=zAe w11 #[.bool s11,.slice A11 l11 c11,.bool s11r,.slice A11r l11r c11r] 30;rw[←hW];clear hW;obtain⟨v2,hb2⟩:=ze w11.heap.size;rw[←hb2] at x2 ⊢;have ow_2:w.heap.size≤v2:=zi (zw hB Bz);have nv2_own:=OwnR.off' (b:=v2) ho zo;replace h11:=h11.below hN;replace hon:=hon.below hN;replace ho:=ho.below hN;replace hB:=bT (bT hB Bz) hN;replace hBW:=bT (bT hBW Bz) hN;replace HX0:=zba HX0 Bz hN;replace HX1:=zba HX1 Bz hN;have HX2:=zh x2;clear x2 hN Bz hb2;have Bz:=zr V12;obtain⟨pc0,pc1,pc2,pc3,-⟩:=(zxb HX2 Bz).cz;go_wp2_with fail
    with_reducible refine(sign_q (R.below h11.r) zo z HZ).mono ?_
    rintro e w12 ⟨rfl,j⟩;replace j:=zq (a:=V12) j;replace hon:=hon.below j;replace ho:=ho.below j;replace Bz:=bT Bz j;clear j;clear pc0 pc1 pc2 pc3;go_wp2_with fail
    have hs1:=HS1.out;go_roundg (n1-(i+1))
    case measure=>omega
    case rel=>exact⟨i+1,k,_,_,_,rfl,by go_num,zo,cA _,zo,OwnR.below ho,HP2.out,OnT.below hon,HX0.out.below (bT Bz),bT (bT hB Bz),bT (bT hBW Bz)⟩
   ·have g3:(z != 0)=true:=by rw[hz0,fC hs0]
    have HP2:Hid (∀r:Fr,r.q=q*x.x.q→prs (O++[⟨x.at_,r⟩])=((prs (L.take (i+1))).map fun x=>(x.1,q*x.2)).filter (fun x=>decide (x.2≠0))):=zh (fun r hr=>by rw[hsn,fA hs0,prs_append,HP.out,show prs [(⟨x.at_,r⟩:Tm)]=[(x.at_,q*x.x.q)] from by rw[←hr];rfl]);have HS1:Hid (sz (q*x.x.q)+1≤mq+M+3):=zh zo;clear hz0 hsn hs0;have Bz:=zr wr;obtain⟨pA0,pA1,pA2,pA3,pA4,-⟩:=(hnd.below (bT hBW Bz)).ez;go_upto_region 5 with(fail)
    obtain⟨V11,hW,x1,hN⟩:=zAe wr #[.int .i64 x.at_,.bool x.x.s,.slice x.x.A x.x.l x.x.c,.bool x.x.s',.slice x.x.A' x.x.l' x.x.c'] 32;rw[←hW];clear hW;obtain⟨v1,hb1⟩:=ze wr.heap.size;rw[←hb1] at x1 ⊢;have ow_1:w.heap.size≤v1:=zi (zw hB Bz);have nv1_own:=OwnR.off' (b:=v1) ho zo;replace ha:=ha.below hN;replace hon:=hon.below hN;replace ho:=ho.below hN;replace hrx:=hrx.below hN;replace hB:=bT (bT hB Bz) hN;replace hBW:=bT (bT hBW Bz) hN;replace HX0:=zba HX0 Bz hN;have HX1:=zh x1;clear x1 hN Bz hb1;have Bz:=zr V11;clear pA0 pA1 pA2 pA3 pA4;obtain⟨pa0,pa1,pa2,pa3,-⟩:=(zxb HX0 Bz).cz;obtain⟨-,pb1,pb2,pb3,pb4,-⟩:=(zxb HX1 Bz).cz;go_wp2_with fail
    with_reducible refine(mul_q (R.below ha) (R.below hrx) zo (zt hT hB Bz)).mono ?_
    rintro e w11 ⟨s11,A11,c11,l11,s11r,A11r,c11r,l11r,rfl,h11,j⟩;replace j:=zq (a:=V11) j;replace hon:=hon.below j;replace ho:=ho.below j;replace Bz:=bT Bz j;clear j;clear pa0 pa1 pa2 pa3 pb1 pb2 pb3 pb4;go_upto_region 6 with(fail)
    obtain⟨V12,hW,x2,hN⟩:=zAe w11 #[.bool s11,.slice A11 l11 c11,.bool s11r,.slice A11r l11r c11r] 30;rw[←hW];clear hW;obtain⟨v2,hb2⟩:=ze w11.heap.size;rw[←hb2] at x2 ⊢;have ow_2:w.heap.size≤v2:=zi (zw hB Bz);have nv2_own:=OwnR.off' (b:=v2) ho zo;replace h11:=h11.below hN;replace hon:=hon.below hN;replace ho:=ho.below hN;replace hB:=bT (bT hB Bz) hN;replace hBW:=bT (bT hBW Bz) hN;replace HX0:=zba HX0 Bz hN;replace HX1:=zba HX1 Bz hN;have HX2:=zh x2;clear x2 hN Bz hb2;have Bz:=zr V12;obtain⟨pc0,pc1,pc2,pc3,-⟩:=(zxb HX2 Bz).cz;go_wp2_with fail
    with_reducible refine(sign_q (R.below h11.r) zo z HZ).mono ?_
    rintro e w12 ⟨rfl,j⟩;replace j:=zq (a:=V12) j;replace h11:=h11.below j;replace hon:=hon.below j;replace ho:=ho.below j;replace Bz:=bT Bz j;clear j;clear pc0 pc1 pc2 pc3;have pb0:=(zxb HX1 Bz).cell 0 (.int .i64 x.at_) rfl;obtain⟨pc0,pc1,pc2,pc3,-⟩:=(zxb HX2 Bz).cz;go_wp2_with (at_builtin;refine And.left (b:=True) ?_)
    refine⟨?_,trivial⟩;obtain⟨V13,hW,x3,hN⟩:=zAe w12 #[.int .i64 x.at_,.bool s11,.slice A11 l11 c11,.bool s11r,.slice A11r l11r c11r] 32;rw[←hW];clear hW;obtain⟨v3,hb3⟩:=ze w12.heap.size;rw[←hb3] at x3 ⊢;have ow_3:w.heap.size≤v3:=zi (zw hB Bz);have nv3_own:=OwnR.off' (b:=v3) ho zo;replace h11:=h11.below hN;replace hon:=hon.below hN;replace ho:=ho.below hN;replace hB:=bT (bT hB Bz) hN;replace hBW:=bT (bT hBW Bz) hN;replace HX0:=zba HX0 Bz hN;replace HX1:=zba HX1 Bz hN;replace HX2:=zba HX2 Bz hN;have HX3:=zh x3;clear x3 hN Bz hb3;have Bz:=zr V13;clear pb0 pc0 pc1 pc2 pc3;have hdr:V13.drew.heap.size=V13.heap.size:=rfl;have hdr2:V13.drew.drew.heap.size=V13.heap.size:=rfl;refine Elt.app elt_vec rfl _ _ rfl (w1.heap.size) (.slice H k hc) (k) (O) rfl ho (.slice (some ⟨v3,0,none⟩) 1 1) (1) ([⟨x.at_,⟨s11,A11,c11,l11,s11r,A11r,c11r,l11r,q*x.x.q,true⟩⟩]) rfl (From.one (HX3.out.below (bT Bz)) (⟨x.at_,⟨s11,A11,c11,l11,s11r,A11r,c11r,l11r,q*x.x.q,true⟩⟩) rfl (elt_vec.len _)) zo (zj hBW.size Bz.size) ?_;intro H13 c13 w13 ho13 hg13;replace hB:=(bT (bT hB Bz)).trans (hg13.below (zi (zw hB Bz)) (fun g hg=>by have:=ho.base g hg;omega));replace hBW:=(bT (bT hBW Bz)).trans (hg13.below (zj hBW.size Bz.size) (fun g hg=>by have:=ho.base g hg;omega));replace HX0:=zh (hg13.bx (zxb HX0 Bz) (ho.off zo));clear HX1;clear HX2;clear HX3;clear hdr hdr2;replace h11:=h11.k hg13.k;replace hon:=hon.k hg13.k;clear hg13 Bz;have Bz:=zr w13;go_wp2_with fail
    have hs1:=HS1.out;go_roundg (n1-(i+1))
    case measure=>omega
    case rel=>exact⟨i+1,k+1,_,_,_,rfl,by go_num,zo,cA _,zo,OwnR.below ho13,HP2.out _ rfl,(OnT.below hon).snoc (RN.below h11) rfl hs1,HX0.out.below (bT Bz),bT (bT hB Bz),bT (bT hBW Bz)⟩
  ·obtain rfl:i=n1:=zo;have i1:¬(i:Int)<(i:Int):=zo;have HOS:=zh (ho.sl' elt_vec (ho.eltn elt_vec zo));have HCAP:=zh ho.slice;have HON:=zh hon;clear ho hon;go_wp2_with fail
   go_ret
   refine⟨_,_,_,rfl,⟨O,HOS.out.below (by go_grown),HON.out.below (by go_grown),?_,fun hn=>?_⟩,bT hB⟩
   ·have h9:=HP.out;rw[eA (by rw[HLN.out];exact cA _),←rise_scale HRS.out] at h9;rw[h9];exact nrm_ext fun a=>by rw[pget_scale,pget_scale,HGT.out]
   ·obtain⟨_,_,e9,h9,_⟩:=HCAP.out;cases e9;exact(h9 hn).2
theorem axpyO_q {w:World} {s:Bool} {c:Nat} {q:Rat} {Y:Option Addr} {n cy:Nat} (hy0:GV w Y m cy P M') (ha:R w s A c l s' A' c' l' q mq) (h:GV w X n cx Q M) (hM:M≤8000000000) (hM':M'≤4000000000) (hmq:mq≤4000000000) (hn:n≤19) (hm:m≤19) (hT:Hid (Tab w)) :
  Calls Tryz.prog 70 #[.slice Y m cy,.agg #[.bool s,.slice A l c,.bool s',.slice A' l' c'],.slice X n cx] w (TellsVO w (nrm (P++Q.map fun x=>(x.1,q*x.2))) (M'+(mq+M+3))):=by
 have hx:=zh h;have hy:=zh hy0;have HLX:=zh h.len;have HLY:=zh hy0.len;have hM:M≤10000000000:=zo;have hmq:mq≤10000000000:=zo;clear h hy0;obtain⟨W,hW,x0,hB⟩:=zAe w #[.bool s,.slice A l c,.bool s',.slice A' l' c'] 30;replace ha:=ha.below hB;have HX0:=zh x0;clear x0;have Bz:=zr W;obtain⟨pa0,pa1,pa2,pa3,-⟩:=(zxb HX0 Bz).cz;go_enter Tryz.func70,Tryz.ntmps70
 go_wp2_with fail
 rw[←hW];clear hW;go_wp2_with fail
 (try simp only[vAa,vBa,vC])
 refine zl (zz [0,2,3] (.only 1 (.only 4 (.only 5 (.take 6 .done))))) [] (zsa pa0 (zsa pa1 (zsa pa2 (zIa pa3)))) ?_;iterate 3 (refine zUa ?_;try simp only[uW,uX,uY,uZ])
 refine zC 8 rfl rfl (fun K hK=>?_);go_simp
 with_reducible refine(normV_q (hy.out.below (bT hB (bT (b:=W) Bz))) zo hm (zt hT hB Bz)).mono ?_
 rintro e w1 ⟨A1,n1,c1,rfl,h1,z⟩;replace z:=zq (a:=W) z;replace ha:=ha.below z;replace Bz:=bT Bz z;clear z;clear pa0 pa1 pa2 pa3;obtain⟨pa0,pa1,pa2,pa3,-⟩:=(zxb HX0 Bz).cz;refine hK.out _ _ ⟨pa0,pa1,pa2,pa3⟩ (fun _=>?_);try simp only[uW,uX,uY,uZ]
 clear hK K;refine zC 11 rfl rfl (fun K hK=>?_);go_simp
 with_reducible refine(scaleV_q (R.below ha) (hx.out.below (bT hB (bT (b:=w1) Bz))) hM hmq hn (zt hT hB Bz)).mono ?_
 rintro e w2 ⟨A2,n2,c2,rfl,h2,z⟩;replace z:=zq (a:=w1) z;replace h1:=h1.below z;replace Bz:=bT Bz z;clear z;clear pa0 pa1 pa2 pa3;obtain⟨pa0,pa1,pa2,pa3,-⟩:=(zxb HX0 Bz).cz;refine hK.out _ _ ⟨pa0,pa1,pa2,pa3⟩ (fun _=>?_);try simp only[uW,uX,uY,uZ]
 clear hK K;refine zC 12 rfl rfl (fun K hK=>?_);go_simp
 have hb2:w.heap.size≤w2.heap.size:=zi (zw hB Bz);with_reducible refine(joinO_q (NV.below h1) (NV.below h2) (nrm_nrm _) (nrm_nrm _) zo (by have:=h1.len;have:=nrm_len P;have:=HLY.out;omega) (by have:=h2.len;have:=nrm_len (Q.map fun x=>(x.1,q*x.2));have:=HLX.out;rw[cB] at *;omega) (zt hT hB Bz)).mono ?_
 rintro e w3 ⟨A3,n3,c3,L3,rfl,h3,on3,ep3,z⟩;replace z:=zq (a:=w2) z;replace Bz:=bT Bz z;clear z;clear pa0 pa1 pa2 pa3;obtain⟨pa0,pa1,pa2,pa3,-⟩:=(zxb HX0 Bz).cz;refine hK.out _ _ ⟨pa0,pa1,pa2,pa3⟩ (fun _=>?_);try simp only[uW,uX,uY,uZ]
 clear hK K;refine zUa ?_;try simp only[uW,uX,uY,uZ]
 refine zAa ?_;go_wp2_with fail
 go_ret
 have hF:=bT (c:=w3) hB Bz;exact⟨_,_,_,L3,rfl,(h3.below (by go_grown)).rebase hb2,(on3.below (by go_grown)).mono fun _ _=>by omega,by rw[←nrm_app];exact ep3,bT hF⟩
def GT1 (w:World) (L:List Tm) (at_:Int) (n gk:Nat) (s:Value) (wr:World):Prop :=
 ∃(i:Nat) (sS:Bool) (sA:Option Addr) (sc sl:Nat) (sS':Bool) (sA':Option Addr) (sc' sl':Nat),i≤n∧n-i=gk∧s=.int .i64 (i:Int)∧RN wr sS sA sc sl sS' sA' sc' sl' (pget (prs (L.take i)) at_)∧Bx wr w.heap.size #[.bool false,.slice none 0 0,.bool false,.slice none 0 0] 30∧Bx wr (w.heap.size+1) #[.bool sS,.slice sA sl sc,.bool sS',.slice sA' sl' sc'] 30∧Below w.heap.size w wr
theorem get_sz {w:World} (h:OkT w L) (a:Int):sz (pget (prs L) a)≤wsum L a+1:=by
 induction L with
 | nil=>exact kA sz_zero (by simp[wsum])
 | cons x L ih =>
  have h1:=ih fun t ht=>h t (qA _ ht);have h2:=(h x pA).szd;show sz (pget ((x.at_,x.x.q) :: prs L) a)≤_
  rw[zAg];unfold wsum
  split
  ·have:=sz_add h2 h1;show sz (x.x.q+pget (prs L) a)≤_
   unfold dgT
   omega
  ·omega
theorem pget_take {i:Nat} (h:L[i]?=some x) (a:Int):pget (prs (L.take (i+1))) a=pget (prs (L.take i)) a+if x.at_=a then x.x.q else 0:=by
 rw[take_snoc h,prs_append];exact pget_snoc _ (x.at_,x.x.q) a
theorem getV_q {w:World} {n c:Nat} (at_:Int) (h:GV w A n c P M) (hM:M≤18000000000) (hn:n≤19) (hT:Hid (Tab w)) :
  Calls Tryz.prog 23 #[.slice A n c,.int .i64 at_] w (TellsR w (pget P at_)):=by
 obtain⟨L,h1,h2,rfl,h4,h5⟩:=h;have HS:=zh h1;have HLN:=zh h1.1;have HOK:=zh h2;have HWS:=zh h4;clear h1 h2 h4 h5;obtain⟨W,hW,x0,x1,hB⟩:=boxes2 w #[.bool false,.slice none 0 0,.bool false,.slice none 0 0] 30 #[.bool false,.slice none 0 0,.bool false,.slice none 0 0] 30;have HX0:=zh x0;have HX1:=zh x1;clear x0 x1;have Bz:=zr W;go_enter Tryz.func23,Tryz.ntmps23
 go_wp2_with fail
 rw[←hW];clear hW;go_wp2_with fail
 have HB1:=zh (bT hB Bz);have XX0:=zh (zxb HX0 Bz);have XX1:=zh (zxb HX1 Bz);clear hB Bz HX0 HX1;go_loopg [10] n (fun gk s wr=>GT1 w L at_ n gk s wr)
 case atStart=>exact⟨0,_,_,_,_,_,_,_,_,nA _,rfl,rfl,RN.zero _,XX0.out,XX1.out,HB1.out⟩
 case round =>
  clear HB1 XX0 XX1;obtain⟨i,sS,sA,sc,sl,sS',sA',sc',sl',hi,hgk,rfl,hs,hx0,hx1,hB⟩:=hrel;have HGK:=zh hgk;have HX0:=zh hx0;have HX1:=zh hx1;clear hgk hx0 hx1;by_cases hlt:i<n
  ·obtain⟨b,off,rfl,hel⟩:=HS.out.at Tm.cs_len zo zo;obtain⟨x,hx⟩:∃x,L[i]?=some x:=⟨L[i]'(by rw[HLN.out];exact hlt),aA _⟩;have hnd:=hel i x hx;have hfx:=HOK.out x (dA hx);have hrx:R wr x.x.s x.x.A x.x.c x.x.l x.x.s' x.x.A' x.x.c' x.x.l' x.x.q (dgT x):=(hfx.below hB).r;have hdx:dgT x+2≤M:=kA (wsum_mem (dA hx)) (HWS.out _);have hss:sz (pget (prs (L.take i)) at_)≤M+1:=kA (get_sz (fun t ht=>HOK.out t (dG ht)) at_) (zi (kA (wsum_take_le L i at_) (HWS.out at_)));have hpt:=pget_take hx at_;have i1:(i:Int)<(n:Int):=zo;have i2:(0:Int)≤(i:Int):=zo;have HS1:Hid (0≤M):=zh (nA _);clear hel hx hfx;by_cases hq:x.at_=at_
   ·have g1:(x.at_==at_)=true:=by simpa using hq
    have HSM:Hid (pget (prs (L.take i)) at_+x.x.q=pget (prs (L.take (i+1))) at_):=zh (by rw[hpt,gA hq]);clear hpt hq;have Bz:=zr wr;obtain⟨pA0,pA1,pA2,pA3,pA4,-⟩:=(hnd.below (bT hB Bz)).ez;go_upto_region 5 with(fail)
    obtain⟨V1,hW,x2,hN⟩:=zAe wr #[.int .i64 x.at_,.bool x.x.s,.slice x.x.A x.x.l x.x.c,.bool x.x.s',.slice x.x.A' x.x.l' x.x.c'] 32;rw[←hW];clear hW;obtain⟨v2,hb2⟩:=ze wr.heap.size;rw[←hb2] at x2 ⊢;have o0_2:w.heap.size<v2:=zi (zxb HX0 Bz).lt;have o1_2:(w.heap.size+1)<v2:=zi (zxb HX1 Bz).lt;have ow_2:w.heap.size≤v2:=zi (zw hB Bz);replace hrx:=hrx.below hN;replace hs:=hs.below hN;replace hB:=bT (bT hB Bz) hN;replace HX0:=zba HX0 Bz hN;replace HX1:=zba HX1 Bz hN;have HX2:=zh x2;clear x2 hN Bz hb2;have Bz:=zr V1;clear pA0 pA1 pA2 pA3 pA4;obtain⟨pb0,pb1,pb2,pb3,-⟩:=(zxb HX1 Bz).cz;obtain⟨pc0,pc1,pc2,pc3,pc4,-⟩:=(zxb HX2 Bz).cz;go_wp2_with fail
    with_reducible refine(add_q (R.below hs.r) (R.below hrx) zo (zt hT hB Bz)).mono ?_
    rintro e w1 ⟨s1,A1,c1,l1,s1r,A1r,c1r,l1r,rfl,h1,z⟩;replace z:=zq (a:=V1) z;replace Bz:=bT Bz z;clear z;clear pb0 pb1 pb2 pb3 pc0 pc1 pc2 pc3 pc4;obtain⟨pb0,pb1,pb2,pb3,-⟩:=(zxb HX1 Bz).cz;obtain⟨y1,fb0,fb1,fb2,fb3,-⟩:=(zxb HX1 Bz).fz;go_upto_region 7 with(fail)
    obtain⟨V2,hW,x,kk,far,bel⟩:=store4 (.bool s1) (.slice A1 l1 c1) (.bool s1r) (.slice A1r l1r c1r) (zxb HX1 Bz) nofun nofun nofun nofun;rw[←hW];clear hW;replace h1:=h1.k kk;replace hB:=bel w.heap.size w zo (bT hB Bz);replace HX0:=zf far HX0 Bz;replace HX2:=zf far HX2 Bz;replace HX1:=zh x;clear x kk far bel Bz;have Bz:=zr V2;clear pb0 pb1 pb2 pb3 fb0 fb1 fb2 fb3 y1;go_wp2_with fail
    have hs1:=HS1.out;go_roundg (n-(i+1))
    case measure=>have:=HGK.out;omega
    case rel=>exact⟨i+1,_,_,_,_,_,_,_,_,zo,rfl,by go_num,by rw[←HSM.out];exact RN.below h1,HX0.out.below (bT Bz),HX1.out.below (bT Bz),bT (bT hB Bz)⟩
   ·have g1:(x.at_==at_)=false:=by simpa using hq
    have HSM:Hid (pget (prs (L.take i)) at_=pget (prs (L.take (i+1))) at_):=zh (by rw[hpt,fA hq,uC]);clear hpt hq;have Bz:=zr wr;obtain⟨pA0,pA1,pA2,pA3,pA4,-⟩:=(hnd.below (bT hB Bz)).ez;go_upto_region 5 with(fail)
    obtain⟨V1,hW,x2,hN⟩:=zAe wr #[.int .i64 x.at_,.bool x.x.s,.slice x.x.A x.x.l x.x.c,.bool x.x.s',.slice x.x.A' x.x.l' x.x.c'] 32;rw[←hW];clear hW;obtain⟨v2,hb2⟩:=ze wr.heap.size;rw[←hb2] at x2 ⊢;have o0_2:w.heap.size<v2:=zi (zxb HX0 Bz).lt;have o1_2:(w.heap.size+1)<v2:=zi (zxb HX1 Bz).lt;have ow_2:w.heap.size≤v2:=zi (zw hB Bz);replace hs:=hs.below hN;replace hB:=bT (bT hB Bz) hN;replace HX0:=zba HX0 Bz hN;replace HX1:=zba HX1 Bz hN;have HX2:=zh x2;clear x2 hN Bz hb2;have Bz:=zr V1;clear pA0 pA1 pA2 pA3 pA4;have pc0:=(zxb HX2 Bz).cell 0 (.int .i64 x.at_) rfl;go_wp2_with fail
    have hs1:=HS1.out;go_roundg (n-(i+1))
    case measure=>have:=HGK.out;omega
    case rel=>exact⟨i+1,_,_,_,_,_,_,_,_,zo,rfl,by go_num,by rw[←HSM.out];exact RN.below hs,HX0.out.below (bT Bz),HX1.out.below (bT Bz),bT (bT hB Bz)⟩
  ·obtain rfl:i=n:=zo;have i1:¬(i:Int)<(i:Int):=zo;have HEND:Hid (pget (prs (L.take i)) at_=pget (prs L) at_):=zh (by rw[eA (by rw[HLN.out];exact cA _)]);have Bz:=zr wr;obtain⟨pa0,pa1,pa2,pa3,-⟩:=(zxb HX0 Bz).cz;obtain⟨y0,fa0,fa1,fa2,fa3,-⟩:=(zxb HX0 Bz).fz;obtain⟨pb0,pb1,pb2,pb3,-⟩:=(zxb HX1 Bz).cz;go_wp2_with fail
   (try simp only[Exit.inBlock,Exit.then])
   refine bodyPost_ret (by simp[results,Tryz.results23,go_sem,pa0,pa1,pa2,pa3];try rfl) rfl ?_;obtain⟨V1,hW,x,kk,far,bel⟩:=store4 (.bool sS) (.slice sA sl sc) (.bool sS') (.slice sA' sl' sc') (zxb HX0 Bz) nofun nofun nofun nofun;rw[←hW];clear hW;replace hs:=hs.k kk;replace hB:=bel w.heap.size w zo (bT hB Bz);replace HX1:=zf far HX1 Bz;replace HX0:=zh x;clear x kk far bel Bz;have Bz:=zr V1;have hF:=bT (c:=V1) hB Bz;exact⟨_,_,_,_,_,_,_,_,rfl,by rw[←HEND.out];exact RN.below hs,bT hF⟩
def sameT (p:Tm×Tm):Bool:=decide (p.1.at_=p.2.at_)&&decide (p.1.x.q=p.2.x.q)
theorem prs_zip:∀{L M:List Tm},L.length=M.length→((L.zip M).all sameT=true↔prs L=prs M):=by
 intro L;induction L with
 | nil=>intro M h;cases M with
  | nil=>simp[prs]
  | cons y M=>simp at h
 | cons x L ih =>
  intro M h;cases M with
  | nil=>simp at h
  | cons y M =>
   have h2:=ih (M:=M) (by simpa using h);rw[List.zip_cons_cons,List.all_cons,kC,h2];show _↔(x.at_,x.x.q) :: prs L=(y.at_,y.x.q) :: prs M
   unfold sameT
   simp only[kC,xD,List.cons.injEq,Prod.mk.injEq]
theorem prs_zip_all {M:List Tm} (h:L.length=M.length):decide (prs L=prs M)=(L.zip M).all sameT:=by
 have:=prs_zip h;cases e:(L.zip M).all sameT
 ·rw[e] at this;exact jB (fun h2=>by have:=this.2 h2;cases this)
 ·rw[e] at this;exact fC (this.1 rfl)
def SV1 (w:World) (Z:List (Tm×Tm)) (n gk:Nat) (s:Value) (wr:World):Prop:=∃i:Nat,i≤n∧n-i=gk∧s=.int .i64 (i:Int)∧Below w.heap.size w wr∧(Z.take i).all sameT=true
theorem OnT.len {w:World} (h:OnT w L (fun _=>M)):∀t∈L,t.x.l≤M∧t.x.l'≤M:=fun t ht=>by have h1:=h.dg t ht;have h2:=(h t ht).2.2;unfold dgT at h1;simp only at h2;omega
theorem sameVec_q {w:World} {n n' c:Nat} (h:NV w A n c P M) (h':NV w A' n' c' Q M') (hM:M≤40000000000) (hM':M'≤40000000000) (hn:n≤19) (hn':n'≤1000000) (r:Bool) (hr:Hid (decide (P=Q)=r)) :
  Calls Tryz.prog 14 #[.slice A n c,.slice A' n' c'] w fun e w'=>e=.returned (.bool r)∧Below w.heap.size w w':=by
 obtain⟨L,x1,x2,rfl,x4⟩:=h;obtain⟨K,y1,y2,rfl,y4⟩:=h';have H:=zh x1;have H':=zh y1;have HLN:=zh x1.1;have HMN:=zh y1.1;have HOX:=zh x2;have HOY:=zh y2;clear x1 x2 x4 y1 y2 y4;by_cases hnn:n=n'
 ·subst hnn;have g0:((n:Int) !=(n:Int))=false:=by simp
  have hra:Hid ((L.zip K).all sameT=r):=zh (by rw[←hr.out,prs_zip_all (HLN.out.trans HMN.out.symm)]);have HZL:Hid ((L.zip K).length=n):=zh (by rw[List.length_zip,HLN.out,HMN.out];exact Nat.min_self _);have hst:SV1 w (L.zip K) n n (.int .i64 ((0:Nat):Int)) w:=⟨0,nA _,rfl,rfl,Below.refl _ _,by simp⟩;have HST:=zh hst;clear hst hr;go_enter Tryz.func14,Tryz.ntmps14
  go_wp2_with fail
  go_loopg [5] n (fun gk s wr=>SV1 w (L.zip K) n gk s wr)
  case atStart=>exact HST.out
  case round =>
   clear HST;obtain⟨i,hi,hgk,rfl,hB,hd⟩:=hrel;have HGK:=zh hgk;have HD:=zh hd;clear hgk hd;by_cases hlt:i<n
   ·obtain⟨b,off,rfl,hel⟩:=H.out.at Tm.cs_len zo zo;obtain⟨b',off',rfl,hel'⟩:=H'.out.at Tm.cs_len zo zo;obtain⟨x,ex⟩:∃x,L[i]?=some x:=⟨L[i]'(by rw[HLN.out];exact hlt),aA _⟩;obtain⟨y,ey⟩:∃y,K[i]?=some y:=⟨K[i]'(by rw[HMN.out];exact hlt),aA _⟩;have hnd:=hel i x ex;have hnd':=hel' i y ey;have HZI:Hid ((L.zip K)[i]?=some (x,y)):=zh (by rw[List.getElem?_zip_eq_some];exact⟨ex,ey⟩);have HRX:=zh (HOX.out x (dA ex)).1;have HRY:=zh (HOY.out y (dA ey)).1;have hlx0:=HOX.out.len x (dA ex);have hly0:=HOY.out.len y (dA ey);have hlx:x.x.l≤800000000000∧x.x.l'≤800000000000:=zo;have hly:y.x.l≤800000000000∧y.x.l'≤800000000000:=zo;have hsx:sz x.x.q+1≤M:=(HOX.out x (dA ex)).2.2;have hsy:sz y.x.q+1≤M':=(HOY.out y (dA ey)).2.2;have i1:(i:Int)<(n:Int):=zo;have i2:(0:Int)≤(i:Int):=zo;clear ex hel ey hel' hlx0 hly0;by_cases hat:x.at_=y.at_
    ·have g1:(x.at_ != y.at_)=false:=by simpa using hat
     by_cases hq:x.x.q=y.x.q
     ·have HQ:Hid (decide (x.x.q=y.x.q)=true):=zh (fC hq);have HP:Hid (sameT (x,y)=true):=zh (by unfold sameT;rw[fC hat,fC hq];rfl);clear hat hq;have Bz:=zr wr;obtain⟨pA0,pA1,pA2,pA3,pA4,-⟩:=(hnd.below (bT hB Bz)).ez;obtain⟨pB0,pB1,pB2,pB3,pB4,-⟩:=(hnd'.below (bT hB Bz)).ez;go_wp2_with fail
      (try simp only[vAa,vBa,vC])
      refine zl (zz [0,1,2,3,4,5,6,7,8,9,10,11,12,13,14,15,16,17,18,19,20,21] (.only 22 (zz [23,24] .done))) [] (zsa pA0 (zsa pA1 (zsa pA2 (zsa pA3 (zsa pA4 (zsa pB0 (zsa pB1 (zsa pB2 (zsa pB3 (zIa pB4)))))))))) ?_;iterate 22 (refine zUa ?_;try simp only[uW,uX,uY,uZ])
      refine zC 39 rfl rfl (fun K hK=>?_);go_simp
      with_reducible refine(sameRat_rn (HRX.out.below (bT hB (bT (b:=wr) Bz))) (HRY.out.below (bT hB (bT (b:=wr) Bz))) hlx hly true HQ).mono ?_
      rintro e w1 ⟨rfl,z⟩;replace z:=zq (a:=wr) z;replace Bz:=bT Bz z;clear z;clear pA0 pA1 pA2 pA3 pA4 pB0 pB1 pB2 pB3 pB4;obtain⟨pA0,pA1,pA2,pA3,pA4,-⟩:=(hnd.below (bT hB Bz)).ez;obtain⟨pB0,pB1,pB2,pB3,pB4,-⟩:=(hnd'.below (bT hB Bz)).ez;refine hK.out _ _ ⟨pA0,pA1,pA2,pA3,pA4,pB0,pB1,pB2,pB3,pB4⟩ (fun _=>?_);try simp only[uW,uX,uY,uZ]
      clear hK K;iterate 2 (refine zUa ?_;try simp only[uW,uX,uY,uZ])
      refine zAa ?_;go_wp2_with fail
      go_roundg (n-(i+1))
      case measure=>have:=HGK.out;omega
      case rel=>exact⟨i+1,zo,rfl,by go_num,bT (bT hB Bz),take_all HD.out HZI.out HP.out⟩
     ·have HQ:Hid (decide (x.x.q=y.x.q)=false):=zh (jB hq);have HP:Hid (sameT (x,y)=false):=zh (by unfold sameT;rw[jB hq,Bool.and_false]);clear hat hq;have Bz:=zr wr;obtain⟨pA0,pA1,pA2,pA3,pA4,-⟩:=(hnd.below (bT hB Bz)).ez;obtain⟨pB0,pB1,pB2,pB3,pB4,-⟩:=(hnd'.below (bT hB Bz)).ez;go_wp2_with fail
      (try simp only[vAa,vBa,vC])
      refine zl (zz [0,1,2,3,4,5,6,7,8,9,10,11,12,13,14,15,16,17,18,19,20,21] (.only 22 (zz [23,24] .done))) [] (zsa pA0 (zsa pA1 (zsa pA2 (zsa pA3 (zsa pA4 (zsa pB0 (zsa pB1 (zsa pB2 (zsa pB3 (zIa pB4)))))))))) ?_;iterate 22 (refine zUa ?_;try simp only[uW,uX,uY,uZ])
      refine zC 39 rfl rfl (fun K hK=>?_);go_simp
      with_reducible refine(sameRat_rn (HRX.out.below (bT hB (bT (b:=wr) Bz))) (HRY.out.below (bT hB (bT (b:=wr) Bz))) hlx hly false HQ).mono ?_
      rintro e w1 ⟨rfl,z⟩;replace z:=zq (a:=wr) z;replace Bz:=bT Bz z;clear z;clear pA0 pA1 pA2 pA3 pA4 pB0 pB1 pB2 pB3 pB4;obtain⟨pA0,pA1,pA2,pA3,pA4,-⟩:=(hnd.below (bT hB Bz)).ez;obtain⟨pB0,pB1,pB2,pB3,pB4,-⟩:=(hnd'.below (bT hB Bz)).ez;refine hK.out _ _ ⟨pA0,pA1,pA2,pA3,pA4,pB0,pB1,pB2,pB3,pB4⟩ (fun _=>?_);try simp only[uW,uX,uY,uZ]
      clear hK K;iterate 2 (refine zUa ?_;try simp only[uW,uX,uY,uZ])
      refine zAa ?_;go_wp2_with fail
      go_ret
      have hF:=bT (c:=w1) hB Bz;obtain rfl:r=false:=by rw[←hra.out];exact all_no HZI.out HP.out
      exact⟨rfl,bT (bT hB Bz)⟩
    ·have g1:(x.at_ != y.at_)=true:=by simpa using hat
     have HP:Hid (sameT (x,y)=false):=zh (by unfold sameT;rw[jB hat,Bool.false_and]);clear hat;have Bz:=zr wr;have pA0:=(hnd.below (bT hB Bz)).c0 (u:=.int .i64 x.at_) rfl;have pB0:=(hnd'.below (bT hB Bz)).c0 (u:=.int .i64 y.at_) rfl;go_wp2_with fail
     (try simp only[vAa,vBa,vC])
     refine zl (zz [0,1,2,3,4,5,6,7,8,9,10,11,12,13,14,15,16,17,18,19,20,21] (.only 22 (zz [23,24] .done))) [] (zsa pA0 (zIa pB0)) ?_;iterate 12 (refine zUa ?_;try simp only[uW,uX,uY,uZ])
     iterate 10 (refine zN rfl rfl ?_;try simp only[uW,uX,uY,uZ])
     refine wpPlan_pass (o:=⟨some 39,_,_,_,_,_⟩) rfl rfl ⟨pA0,pB0⟩ ?_;try simp only[uW,uX,uY,uZ]
     refine zN rfl rfl ?_;try simp only[uW,uX,uY,uZ]
     refine zUa ?_;try simp only[uW,uX,uY,uZ]
     refine zAa ?_;go_wp2_with fail
     go_ret
     have hF:=bT (c:=wr) hB Bz;obtain rfl:r=false:=by rw[←hra.out];exact all_no HZI.out HP.out
     exact⟨rfl,bT (bT hB Bz)⟩
   ·obtain rfl:i=n:=zo;have i1:¬(i:Int)<(i:Int):=zo;obtain rfl:r=true:=by rw[←hra.out];exact all_yes HZL.out HD.out
    go_wp2_with fail
    go_ret
    exact⟨rfl,hB⟩
 ·have g0:((n:Int) !=(n':Int))=true:=by simp;omega
  obtain rfl:r=false:=by rw[←hr.out];exact jB (fun e=>hnn (by have e2:=congrArg List.length e;rw[prs_len,prs_len,HLN.out,HMN.out] at e2;exact e2))
  clear hr;go_enter Tryz.func14,Tryz.ntmps14
  go_wp2_with fail
  go_ret
  exact⟨rfl,Below.refl _ _⟩
def putF (P:List (Int×Rat)) (at_:Int) (q:Rat):List (Int×Rat):=(P.filter fun x=>decide (x.1≠at_))++[(at_,q)]
def offT (at_:Int) (t:Tm):Bool:=decide (t.at_≠at_)
theorem off_snoc {i:Nat} {at_:Int} (h:L[i]?=some x):(L.take (i+1)).filter (offT at_)=(L.take i).filter (offT at_)++if x.at_=at_ then [] else [x]:=by
 rw[take_snoc h,List.filter_append];congr 1
 by_cases e:x.at_=at_
 ·rw[gA e,List.filter_cons_of_neg (by simp[offT,e])];rfl
 ·rw[fA e,List.filter_cons_of_pos (by simp[offT,e])];rfl
theorem wsum_filter (L:List Tm) (p:Tm→Bool) (a:Int):wsum (L.filter p) a≤wsum L a:=by
 induction L with
 | nil=>exact cA _
 | cons x L ih =>
  rw[kG];split
  ·simp only[wsum];omega
  ·simp only[wsum];omega
def PT1 (w:World) (cs:Array Value) (L:List Tm) (at_:Int) (n gk:Nat) (s7 s16:Value) (wr:World):Prop :=
 ∃(i k:Nat) (H:Option Addr) (hc:Nat) (O:List Tm),s7=.slice H k hc∧s16=.int .i64 (i:Int)∧i≤n∧n-i≤gk∧k≤i∧OwnR wr (w.heap.size+1) 32 5 (.slice H k hc) k (flat Tm.cs O)∧O=(L.take i).filter (offT at_)∧Bx wr w.heap.size cs 30∧Below w.heap.size w wr
theorem one_wrap {n:Nat} (hn:n≤19):IntKind.i64.wrap ((n:Int)+1)=((n+1:Nat):Int):=by rw[IntWalk.i64_in _ zo];omega
theorem putO_q {w:World} {s:Bool} {c:Nat} {q:Rat} {n:Nat} (h:GV w X n cx P M) (at_:Int) (ha:R w s A c l s' A' c' l' q mq) (hM:M+mq≤18000000000) (hn:n≤18) (hT:Hid (Tab w)) :
  Calls Tryz.prog 24 #[.slice X n cx,.int .i64 at_,.agg #[.bool s,.slice A l c,.bool s',.slice A' l' c']] w (TellsVO w (nrm (putF P at_ q)) (M+mq+2)):=by
 obtain⟨L,x1,x2,rfl,x4,x5⟩:=h;obtain⟨ex,hfa⟩:=ha.fr;have HS:=zh x1;have HLN:=zh x1.1;have HOK:=zh x2;have HWS:=zh x4;have HFA:=zh hfa;have HAL:=zh ha.len;have w0:=one_wrap (n:=n) zo;clear x1 x2 x4 x5 hfa ha;obtain⟨W,hW,x0,hB⟩:=zAe w #[.bool s,.slice A l c,.bool s',.slice A' l' c'] 30;have HX0:=zh x0;have hWl:=x0.lt;clear x0;go_enter Tryz.func24,Tryz.ntmps24
 go_wp2_with (at_make;rw[←hW];refine And.left (b:=True) ?_)
 clear hW;refine⟨?_,trivial⟩;refine Elt.make elt_term rfl _ _ rfl .i64 .i64 _ (n+1) rfl rfl (by first | rfl | (push_cast;rfl) | omega) zo (w.heap.size+1) hWl ?_;intro g0 w1 ho1 hB1 hg0;have HO1:=zh ho1;have HB1:=zh (bT hB hB1);have XX0:=zh (HX0.out.below hB1);clear ho1 hB1 hg0 hB HX0 hWl;go_wp2_with fail
 go_loopg [7,16] n (fun gk s7 s16 wr=>PT1 w #[.bool s,.slice A l c,.bool s',.slice A' l' c'] L at_ n gk s7 s16 wr)
 case atStart=>exact⟨0,0,_,_,[],rfl,rfl,nA _,cA _,cA _,HO1.out.below (by go_grown),rfl,XX0.out.below (by go_grown),bT HB1.out⟩
 case round =>
  clear HO1 HB1 XX0 w0;obtain⟨i,k,H,hc,O,rfl,rfl,hi,hgk,hk,ho,hp,hx0,hB⟩:=hrel;have HP:=zh hp;have HX0:=zh hx0;clear hp hx0;by_cases hlt:i<n
  ·obtain⟨b,off,rfl,hel⟩:=HS.out.at Tm.cs_len zo zo;obtain⟨x,hx⟩:∃x,L[i]?=some x:=⟨L[i]'(by rw[HLN.out];exact hlt),aA _⟩;have hnd:=hel i x hx;have hsn:=off_snoc (at_:=at_) hx;have i1:(i:Int)<(n:Int):=zo;have i2:(0:Int)≤(i:Int):=zo;clear hel hx;by_cases hq:x.at_=at_
   ·have g1:(x.at_ != at_)=false:=by simpa using hq
    have HP2:Hid (O=(L.take (i+1)).filter (offT at_)):=zh (by rw[hsn,gA hq,mF,HP.out]);clear hsn hq;have Bz:=zr wr;obtain⟨pA0,pA1,pA2,pA3,pA4,-⟩:=(hnd.below (bT hB Bz)).ez;go_upto_region 5 with(fail)
    obtain⟨V1,hW,x1,hN⟩:=zAe wr #[.int .i64 x.at_,.bool x.x.s,.slice x.x.A x.x.l x.x.c,.bool x.x.s',.slice x.x.A' x.x.l' x.x.c'] 32;rw[←hW];clear hW;obtain⟨v1,hb1⟩:=ze wr.heap.size;rw[←hb1] at x1 ⊢;have ow_1:w.heap.size≤v1:=zi (zw hB Bz);replace ho:=ho.below hN;replace hB:=bT (bT hB Bz) hN;replace HX0:=zba HX0 Bz hN;have HX1:=zh x1;clear x1 hN Bz hb1;have Bz:=zr V1;clear pA0 pA1 pA2 pA3 pA4;have pb0:=(zxb HX1 Bz).cell 0 (.int .i64 x.at_) rfl;go_wp2_with fail
    go_roundg (n-(i+1))
    case measure=>omega
    case rel=>exact⟨i+1,k,_,_,_,rfl,by go_num,zo,cA _,zo,OwnR.below ho,HP2.out,HX0.out.below (bT Bz),bT (bT hB Bz)⟩
   ·have g1:(x.at_ != at_)=true:=by simpa using hq
    have HP2:Hid (O++[x]=(L.take (i+1)).filter (offT at_)):=zh (by rw[hsn,fA hq,HP.out]);clear hsn hq;have Bz:=zr wr;obtain⟨pA0,pA1,pA2,pA3,pA4,-⟩:=(hnd.below (bT hB Bz)).ez;go_upto_region 5 with(fail)
    obtain⟨V1,hW,x1,hN⟩:=zAe wr #[.int .i64 x.at_,.bool x.x.s,.slice x.x.A x.x.l x.x.c,.bool x.x.s',.slice x.x.A' x.x.l' x.x.c'] 32;rw[←hW];clear hW;obtain⟨v1,hb1⟩:=ze wr.heap.size;rw[←hb1] at x1 ⊢;have ow_1:w.heap.size≤v1:=zi (zw hB Bz);replace ho:=ho.below hN;replace hB:=bT (bT hB Bz) hN;replace HX0:=zba HX0 Bz hN;have HX1:=zh x1;clear x1 hN Bz hb1;have Bz:=zr V1;clear pA0 pA1 pA2 pA3 pA4;obtain⟨pb0,pb1,pb2,pb3,pb4,-⟩:=(zxb HX1 Bz).cz;go_wp2_with (at_builtin;refine And.left (b:=True) ?_)
    refine⟨?_,trivial⟩;obtain⟨V2,hW,x2,hN⟩:=zAe V1 #[.int .i64 x.at_,.bool x.x.s,.slice x.x.A x.x.l x.x.c,.bool x.x.s',.slice x.x.A' x.x.l' x.x.c'] 32;rw[←hW];clear hW;obtain⟨v2,hb2⟩:=ze V1.heap.size;rw[←hb2] at x2 ⊢;have ow_2:w.heap.size≤v2:=zi (zw hB Bz);replace ho:=ho.below hN;replace hB:=bT (bT hB Bz) hN;replace HX0:=zba HX0 Bz hN;replace HX1:=zba HX1 Bz hN;have HX2:=zh x2;clear x2 hN Bz hb2;have Bz:=zr V2;clear pb0 pb1 pb2 pb3 pb4;have hdr:V2.drew.heap.size=V2.heap.size:=rfl;have hdr2:V2.drew.drew.heap.size=V2.heap.size:=rfl;refine Elt.app elt_term rfl _ _ rfl (w.heap.size+1) (.slice H k hc) (k) (O) rfl ho (.slice (some ⟨v2,0,none⟩) 1 1) (1) ([x]) rfl (From.one (HX2.out.below (bT Bz)) (x) rfl (elt_term.len _)) zo (zj (zxb HX0 Bz).lt Bz.size) ?_;intro H1 c1 w1 ho1 hg1;replace hB:=(bT (bT hB Bz)).trans (hg1.below (zi (zw hB Bz)) (fun g hg=>by have:=ho.base g hg;omega));replace HX0:=zh (hg1.bx (zxb HX0 Bz) (ho.off zo));clear HX1;clear HX2;clear hdr hdr2;clear hg1 Bz;have Bz:=zr w1;go_wp2_with fail
    go_roundg (n-(i+1))
    case measure=>omega
    case rel=>exact⟨i+1,k+1,_,_,_,rfl,by go_num,zo,cA _,zo,OwnR.below ho1,HP2.out,HX0.out.below (bT Bz),bT (bT hB Bz)⟩
  ·obtain rfl:i=n:=zo;have i1:¬(i:Int)<(i:Int):=zo;have gvp:∀{H1:Option Addr} {c1:Nat} (w1:World),Below w.heap.size w w1→OwnR w1 (w.heap.size+1) 32 5 (.slice H1 (k+1) c1) (k+1) (flat Tm.cs (O++[⟨at_,⟨s,A,c,l,s',A',c',l',q,ex⟩⟩]))→GV w1 H1 (k+1) c1 (putF (prs L) at_ q) (M+mq+2):=fun {H1} {c1} w1 hb ho1=>by
    have hO:O=L.filter (offT at_):=by rw[HP.out,eA (by rw[HLN.out];exact cA _)]
    refine⟨_,ho1.sl' elt_term (ho1.eltn elt_term zo),fun t ht=>?_,?_,fun a=>?_,fun hn=>?_⟩
    ·rcases bC.1 ht with ht | ht
     ·rw[hO] at ht;exact(HOK.out t (List.mem_filter.1 ht).1).below hb
     ·obtain rfl:=cC.1 ht;exact HFA.out.rep.below hb
    ·have hfp:prs (L.filter (offT at_))=(prs L).filter fun x=>decide (x.1≠at_):=filter_prs L fun x=>decide (x.1≠at_);rw[prs_append,hO,hfp];rfl
    ·rw[wsum_append,hO];have h1:=kA (wsum_filter L (offT at_) a) (HWS.out a);have h2:=HAL.out;simp only[wsum,dgT]
     split<;>omega
    ·obtain⟨_,_,e9,h9,_⟩:=ho1.slice;cases e9;exact(h9 hn).2
   have Bz:=zr wr;obtain⟨pa0,pa1,pa2,pa3,-⟩:=(zxb HX0 Bz).cz;go_wp2_with (at_builtin;refine And.left (b:=True) ?_)
   refine⟨?_,trivial⟩;obtain⟨V1,hW,x1,hN⟩:=zAe wr #[.int .i64 at_,.bool s,.slice A l c,.bool s',.slice A' l' c'] 32;rw[←hW];clear hW;obtain⟨v1,hb1⟩:=ze wr.heap.size;rw[←hb1] at x1 ⊢;have ow_1:w.heap.size≤v1:=zi (zw hB Bz);replace ho:=ho.below hN;replace hB:=bT (bT hB Bz) hN;replace HX0:=zba HX0 Bz hN;have HX1:=zh x1;clear x1 hN Bz hb1;have Bz:=zr V1;clear pa0 pa1 pa2 pa3;have hdr:V1.drew.heap.size=V1.heap.size:=rfl;have hdr2:V1.drew.drew.heap.size=V1.heap.size:=rfl;refine Elt.app elt_term rfl _ _ rfl (w.heap.size+1) (.slice H k hc) (k) (O) rfl ho (.slice (some ⟨v1,0,none⟩) 1 1) (1) ([⟨at_,⟨s,A,c,l,s',A',c',l',q,ex⟩⟩]) rfl (From.one (HX1.out.below (bT Bz)) (⟨at_,⟨s,A,c,l,s',A',c',l',q,ex⟩⟩) rfl (elt_term.len _)) zo (zj (zxb HX0 Bz).lt Bz.size) ?_;intro H1 c1 w1 ho1 hg1;replace hB:=(bT (bT hB Bz)).trans (hg1.below (zi (zw hB Bz)) (fun g hg=>by have:=ho.base g hg;omega));clear HX0;clear HX1;clear hdr hdr2;clear hg1 Bz;have Bz:=zr w1;go_wp2_with fail
   with_reducible refine(normO_q (gvp w1 (bT hB Bz) ho1) zo zo (zt hT hB Bz)).mono ?_
   rintro e w2 ⟨A2,n2,c2,L2,rfl,h2,on2,ep2,z⟩;replace z:=zq (a:=w1) z;replace Bz:=bT Bz z;clear z;go_wp2_with fail
   go_ret
   have hF:=bT (c:=w2) hB Bz;exact⟨_,_,_,L2,rfl,(h2.below (by go_grown)).rebase (zi hB.size),on2.below (by go_grown),ep2,bT hF⟩
def TellsW (w:World) (P:List (Int×Rat)) (K N:Nat) (e:Ending) (w':World):Prop:=∃A n c,e=.returned (.slice A n c)∧NV w' A n c P K∧n≤N∧Below w.heap.size w w'
def TellsNum (w:World) (q:Rat) (K:Nat) (e:Ending) (w':World):Prop:=∃s A c l s' A' c' l',e=.returned (.agg #[.bool s,.slice A l c,.bool s',.slice A' l' c'])∧RN w' s A c l s' A' c' l' q∧sz q≤K∧Below w.heap.size w w'
theorem TellsV.w {w w':World} {K N:Nat} {e:Ending} (h:TellsV w P M e w') (hK:M≤K) (hN:P.length≤N):TellsW w P K N e w':=by
 obtain⟨A,n,c,rfl,h1,h2⟩:=h;exact⟨A,n,c,rfl,h1.mono hK,by have:=h1.len;omega,h2⟩
theorem TellsR.num {w w':World} {q:Rat} {K:Nat} {e:Ending} (h:TellsR w q e w') (hK:sz q≤K):TellsNum w q K e w':=by
 obtain⟨s,A,c,l,s',A',c',l',rfl,h1,h2⟩:=h;exact⟨s,A,c,l,s',A',c',l',rfl,h1,hK,h2⟩
theorem GV.size {w:World} {n c N:Nat} (h:GV w A n c P M) (hn:n≤N):P.length≤N:=by rw[h.len];exact hn
def TellsT (w:World) (at_:Int) (q:Rat) (e:Ending) (w':World):Prop:=∃s A c l s' A' c' l',e=.returned (.agg #[.int .i64 at_,.bool s,.slice A l c,.bool s',.slice A' l' c'])∧RN w' s A c l s' A' c' l' q∧Below w.heap.size w w'
theorem OnT.c {w:World} {s:Bool} {c:Nat} {q:Rat} (at_:Int) (h:RN w s A c l s' A' c' l' q) (hs:sz q≤1) (hL:OnT w L (fun _=>2)):OnT w (⟨at_,⟨s,A,c,l,s',A',c',l',q,true⟩⟩ :: L) (fun _=>2):=fun t ht=>by
 rcases sB.1 ht with rfl | ht
 ·exact⟨h,rfl,by simp only;omega⟩
 ·exact hL t ht
theorem wsum_small {w:World} (h:OnT w L (fun _=>2)) (a:Int):wsum L a≤3*L.length:=by
 induction L with
 | nil=>exact cA _
 | cons x L ih =>
  have h1:=ih fun t ht=>h t (qA _ ht);have h2:=h.dg x pA;have h3:=(h x pA).2.2;simp only[wsum,qC] at h3 ⊢
  split<;>omega
theorem sl_lit {w:World} {n:Nat} {cs:Array Value} (h:Bx w b cs te) (hcs:cs.toList=flat Tm.cs L) (hl:L.length=n):Sl Tm.cs 5 w (some ⟨b,0,none⟩) n n L:=by
 subst hl;refine⟨rfl,by rw[flat_len Tm.cs_len],_,_,rfl,(fun h=>(by cases h)),fun a ha j u hu=>?_⟩;cases ha;rw[add_off,xB];refine h.cell j u ?_;rw[←hcs] at hu;simpa using hu
theorem nv_lit {w:World} {n:Nat} {cs:Array Value} (L:List Tm) (P:List (Int×Rat)) (hp:prs L=P) (h:Bx w b cs te) (hcs:cs.toList=flat Tm.cs L) (hl:L.length=n) (hon:OnT w L (fun _=>2)):NV w (some ⟨b,0,none⟩) n n P 2:=⟨L,sl_lit h hcs hl,hon,hp,(fun h=>(by cases h))⟩
theorem gv_lit {w:World} {n:Nat} {cs:Array Value} (L:List Tm) (P:List (Int×Rat)) (hp:prs L=P) (h:Bx w b cs te) (hcs:cs.toList=flat Tm.cs L) (hl:L.length=n) (hon:OnT w L (fun _=>2)):GV w (some ⟨b,0,none⟩) n n P (3*n):=⟨L,sl_lit h hcs hl,hon.ok,hp,fun a=>by rw[←hl];exact wsum_small hon a,(fun h=>(by cases h))⟩
end Go.Proofs.YteggjbgbknkoiaaGreatDoor
