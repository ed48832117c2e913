/-
  The digits of a whole vector: a total over all places, which the one form never makes greater. By hand.
-/
import Derived.Test.YtfpbmpllildbaaaGreatDoorYVj
import Derived.Test.YtfpbmpllildbaaaGreatDoorYSo4
set_option maxHeartbeats 8000000
set_option maxRecDepth 100000
namespace Go.Proofs.YtfpbmpllildbaaaGreatDoor
def wtot:List (Int×Rat)→Nat
 | []=>0
 | x :: L=>sz x.2+1+wtot L
theorem wtot_le {m:Nat}:∀{L:List (Int×Rat)},(∀x∈L,sz x.2+1≤m)→wtot L≤L.length*m
 | [],_=>Nat.zero_le _
 | x :: L,h=>by
  have h1:=h x (List.mem_cons_self ..);have h2:=wtot_le fun y hy=>h y (List.mem_cons_of_mem _ hy);show sz x.2+1+wtot L≤(L.length+1)*m
  rw[Nat.add_mul];omega
open Go.RowKit Tw
theorem nrm_app (P Q:List (Int×Rat)):nrm (nrm P++nrm Q)=nrm (P++Q):=nrm_ext fun a=>by rw[pget_append,pget_append,nrm_get,nrm_get]
def TellsO (w:World) (P:List (Int×Rat)) (M n:Nat) (e:Ending) (w':World):Prop :=
 ∃A' n' c' P',e=.returned (.slice A' n' c')∧GV w' A' n' c' P' (M+1)∧Rise P'∧(∀a,pget P' a=pget P a)∧n'≤n∧Below w.heap.size w w'
def OR1 (w:World) (L:List Tm) (n gk:Nat) (s:Value) (wr:World):Prop:=∃i:Nat,i≤n∧n-i=gk∧s=.int .i64 (i:Int)∧Below w.heap.size w wr∧Rise (prs (L.take i))
theorem rise_next {L:List Tm} {k:Nat} {x y:Tm} (h:Rise (prs (L.take (k+1)))) (hy:L[k]?=some y) (hx:L[k+1]?=some x) (hl:y.at_<x.at_):Rise (prs (L.take (k+1+1))):=by
 rw[take_snoc hx,prs_append];refine h.snoc fun z hz=>?_;rw[take_snoc hy,prs_append] at h hz;rcases List.mem_append.1 hz with hz | hz
 ·have:=(Rise.front (x:=(y.at_,y.x.q)) h).2 z hz;simp only at this ⊢
  omega
 ·obtain rfl:=List.mem_singleton.1 hz;exact hl
theorem ordered_q {w:World} {A:Option Addr} {n c M:Nat} {P:List (Int×Rat)} (h:GV w A n c P M) (hM:M≤19000000000) (hn:n≤1000000) (hT:Hid (Tab w)) :
  Calls Tryz.prog 97 #[.slice A n c] w (TellsO w P M n):=by
 have hg:=zh h;obtain⟨L,h1,h2,rfl,h4,h5⟩:=h;have HS:=zh h1;have HLN:=zh h1.1;clear h1 h2 h4 h5;go_enter Tryz.func97,Tryz.ntmps97
 go_wp2_with fail
 go_loopg [6] n (fun gk s wr=>OR1 w L n gk s wr)
 case atStart=>exact⟨0,Nat.zero_le _,rfl,rfl,Below.refl _ _,List.Pairwise.nil⟩
 case round =>
  obtain⟨i,hi,hgk,rfl,hB,hr⟩:=hrel;have HGK:=zh hgk;clear hgk;by_cases hlt:i<n
  ·obtain⟨b,off,rfl,hel⟩:=HS.out.at Tm.cs_len zo zo;obtain⟨x,hx⟩:∃x,L[i]?=some x:=⟨L[i]'(by rw[HLN.out];exact hlt),List.getElem?_eq_getElem _⟩;have hnd:=hel i x hx;cases i with
   | zero =>
    have HR2:Hid (Rise (prs (L.take (0+1)))):=zh (by rw[take_snoc hx];exact List.pairwise_singleton _ _);have i1:(0:Int)<(n:Int):=zo;clear hx hel hr;have Bz:=zr wr;go_wp2_with fail
    (try simp only[vA,vBa,vC])
    refine zl (zza [0,1,2,3,4,5,6,7,8,9,10,11,12,13,14,15] .done) [] zn ?_;iterate 3 (refine zUa ?_;try simp only[uW,uX,uY,uZ])
    iterate 12 (refine zN rfl rfl ?_;try simp only[uW,uX,uY,uZ])
    refine zUa ?_;try simp only[uW,uX,uY,uZ]
    refine zAa ?_;go_wp2_with fail
    go_roundg (n-(0+1))
    case measure=>have:=HGK.out;omega
    case rel=>exact⟨0+1,zo,rfl,by go_num,bT (bT hB Bz),HR2.out⟩
   | succ k =>
    obtain⟨y,hy⟩:∃y,L[k]?=some y:=⟨L[k]'(by rw[HLN.out];omega),List.getElem?_eq_getElem _⟩;have hnd':=hel k y hy;have i1:(k:Int)+1<(n:Int):=zo;have i2:(0:Int)≤(k:Int)+1:=zo;have i3:(0:Int)≤(k:Int):=zo;have i4:(k:Int)<(n:Int):=zo;have i5:(0:Int)<(k:Int)+1:=zo;have w6:IntKind.i64.wrap ((k:Int)+1-1)=(k:Int):=by rw[IntWalk.i64_in _ zo];omega
    have w7:IntKind.i64.wrap (k:Int)=(k:Int):=IntWalk.i64_in _ zo;by_cases hl:y.at_<x.at_
    ·have HR2:=zh (rise_next hr hy hx hl);have g1:¬x.at_≤y.at_:=zo;clear hx hy hel hr hl;have Bz:=zr wr;have pA0:=(hnd.below (bT hB Bz)).c0 (u:=.int .i64 x.at_) rfl;have pB0:=(hnd'.below (bT hB Bz)).c0 (u:=.int .i64 y.at_) rfl;go_wp2_with fail
     (try simp only[vA,vBa,vC])
     refine zl (zza [0,1,2,3,4,5,6,7,8,9,10,11,12,13,14,15] .done) [] (zsa pA0 (zIa pB0)) ?_;iterate 16 (refine zUa ?_;try simp only[uW,uX,uY,uZ])
     refine zAa ?_;go_wp2_with fail
     go_roundg (n-(k+1+1))
     case measure=>have:=HGK.out;omega
     case rel=>exact⟨k+1+1,zo,rfl,by go_num,bT (bT hB Bz),HR2.out⟩
    ·have g1:x.at_≤y.at_:=zo;clear hx hy hel hr hl;have Bz:=zr wr;have pA0:=(hnd.below (bT hB Bz)).c0 (u:=.int .i64 x.at_) rfl;have pB0:=(hnd'.below (bT hB Bz)).c0 (u:=.int .i64 y.at_) rfl;go_wp2_with fail
     (try simp only[vA,vBa,vC])
     refine zl (zza [0,1,2,3,4,5,6,7,8,9,10,11,12,13,14,15] .done) [] (zsa pA0 (zIa pB0)) ?_;iterate 16 (refine zUa ?_;try simp only[uW,uX,uY,uZ])
     refine zAa ?_;go_wp2_with fail
     with_reducible refine(normV_q (hg.out.below (bT hB (bT (b:=wr) Bz))) hM hn (zt hT hB Bz)).mono ?_
     rintro e w1 ⟨A1,n1,c1,rfl,h1,b1⟩;replace b1:=zq (a:=wr) b1;replace Bz:=bT Bz b1;clear b1;clear pA0 pB0;go_wp2_with fail
     go_ret
     have hF:=bT (c:=w1) hB Bz;have hF2:=h1.len;exact⟨A1,n1,c1,nrm (prs L),rfl,(NV.below h1).gv (nrm_nrm _).rise,(nrm_nrm _).rise,nrm_get _,by have:=nrm_len (prs L);have:=HLN.out;rw[prs_len] at *;omega,bT (bT hB Bz)⟩
  ·obtain rfl:i=n:=zo;have i1:¬(i:Int)<(i:Int):=zo;rw[List.take_of_length_le (by rw[HLN.out];exact Nat.le_refl _)] at hr;have HR:=zh hr;clear hr;go_wp2_with fail
   go_ret
   exact⟨A,i,c,prs L,rfl,(hg.out.below hB).mono (Nat.le_succ _),HR.out,fun _=>rfl,Nat.le_refl _,hB⟩
def JN1 (w:World) (P Q:List (Int×Rat)) (n m MM gk:Nat) (s5 s6 s7:Value) (wr:World):Prop :=
 ∃(i j k:Nat) (H:Option Addr) (hc:Nat) (O:List Tm),s5=.slice H k hc∧s6=.int .i64 (i:Int)∧s7=.int .i64 (j:Int)∧i≤n∧j≤m∧n-i+(m-j)≤gk∧k≤i+j∧
  OwnR wr w.heap.size 32 5 (.slice H k hc) k (flat Tm.cs O)∧Joined (prs O) P Q i j∧OnT wr O (fun _=>MM)∧Below w.heap.size w wr
theorem add_wrap {n m:Nat} (hn:n≤1000000) (hm:m≤1000000):IntKind.i64.wrap ((n:Int)+(m:Int))=((n+m:Nat):Int):=by rw[IntWalk.i64_in _ zo];omega
theorem joinO_q {w:World} {X Y:Option Addr} {n cx m cy M M':Nat} {P Q:List (Int×Rat)} (h:NV w X n cx P M) (h':NV w Y m cy Q M') (hP:Nrm P) (hQ:Nrm Q) (hM:M+M'≤18000000000) (hn:n≤1000000) (hm:m≤1000000) (hT:Hid (Tab w)) :
  Calls Tryz.prog 143 #[.slice X n cx,.slice Y m cy] w (TellsVO w (nrm (P++Q)) (M+M')):=by
 obtain⟨LX,x1,x2,rfl,x4⟩:=h;obtain⟨LY,y1,y2,rfl,y4⟩:=h';have HSX:=zh x1;have HLX:=zh x1.1;have HNX:=zh x2;have HSY:=zh y1;have HLY:=zh y1.1;have HNY:=zh y2;have HPX:=zh hP;have HPY:=zh hQ;have w0:=add_wrap hn hm;clear x1 x2 x4 y1 y2 y4 hP hQ;go_enter Tryz.func143,Tryz.ntmps143
 go_wp2_with (at_make;refine And.left (b:=True) ?_)
 refine⟨?_,trivial⟩;refine Elt.make elt_vec rfl _ _ rfl .i64 .i64 _ (n+m) rfl rfl (by first | rfl | (push_cast;rfl) | omega) zo w.heap.size (Nat.le_refl _) ?_;intro g0 w1 ho1 hB1 hg0;have HO1:=zh ho1;have HB1:=zh hB1;clear ho1 hB1 hg0;go_wp2_with fail
 go_loopg [5,6,7] (n+m) (fun gk s5 s6 s7 wr=>JN1 w (prs LX) (prs LY) n m (M+M') gk s5 s6 s7 wr)
 case atStart=>exact⟨0,0,0,_,_,[],rfl,rfl,rfl,Nat.zero_le _,Nat.zero_le _,Nat.le_refl _,Nat.le_refl _,HO1.out.below (by go_grown),Joined.start _ _,OnT.nil _ _,bT HB1.out⟩
 case round =>
  clear HO1 HB1 w0;obtain⟨i,j,k,H,hc,O,rfl,rfl,rfl,hi,hj,hgk,hk,ho,hjo,hon,hB⟩:=hrel;have HJO:=zh hjo;have i2:(0:Int)≤(i:Int):=zo;have j2:(0:Int)≤(j:Int):=zo;by_cases hin:i<n
  ·obtain⟨bx,ox,rfl,hel⟩:=HSX.out.at Tm.cs_len zo zo;obtain⟨x,hx⟩:∃x,LX[i]?=some x:=⟨LX[i]'(by rw[HLX.out];exact hin),List.getElem?_eq_getElem _⟩;have hnd:=hel i x hx;have hxn:=HNX.out x (List.mem_of_getElem? hx);have hnx:=hxn.1.below hB;have hrx:=hnx.r;have hxs:sz x.x.q+1≤M:=hxn.2.2;have hpx:=prs_get hx;have i1:(i:Int)<(n:Int):=zo;have i3:((i:Int)==(n:Int))=false:=by rw[beq_eq_false_iff_ne];omega
   clear hel hx;by_cases hjm:j<m
   ·obtain⟨by_,oy,rfl,hel'⟩:=HSY.out.at Tm.cs_len zo zo;obtain⟨y,hy⟩:∃y,LY[j]?=some y:=⟨LY[j]'(by rw[HLY.out];exact hjm),List.getElem?_eq_getElem _⟩;have hnd':=hel' j y hy;have hyn:=HNY.out y (List.mem_of_getElem? hy);have hny:=hyn.1.below hB;have hry:=hny.r;have hys:sz y.x.q+1≤M':=hyn.2.2;have hpy:=prs_get hy;have j1:(j:Int)<(m:Int):=zo;have j3:((j:Int)==(m:Int))=false:=by rw[beq_eq_false_iff_ne];omega
    clear hel' hy;by_cases hxy:x.at_<y.at_
    ·have HJ2:Hid (Joined (prs (O++[x])) (prs LX) (prs LY) (i+1) j):=zh (by rw[prs_append];exact HJO.out.left HPX.out hpx (HPY.out.rise.behind hpy hxy));have HS1:Hid (sz x.x.q+1≤M+M'):=zh zo;have HEX:=zh hxn.2.1;have g1:x.at_<y.at_:=hxy;clear hxy hxn hyn hpx hpy hjo;have Bz:=zr wr;obtain⟨pA0,pA1,pA2,pA3,pA4,-⟩:=(hnd.below (bT hB Bz)).ez;have pB0:=(hnd'.below (bT hB Bz)).c0 (u:=.int .i64 y.at_) rfl;go_wp2_with fail
     (try simp only[vA,vBa,vC])
     refine zl (zza [0,1,2,3,4,5,6,7,8,9,10,11,12,13,14,15,16,17,18,19,20,21,22,23] .done) [] (zsa pA0 (zIa pB0)) ?_;iterate 24 (refine zUa ?_;try simp only[uW,uX,uY,uZ])
     refine zAa ?_;go_wp2_with (at_builtin;refine And.left (b:=True) ?_)
     refine⟨?_,trivial⟩;obtain⟨V1,hW,x0,hN⟩:=zAd wr #[.int .i64 x.at_,.bool x.x.s,.slice x.x.A x.x.l x.x.c,.bool x.x.s',.slice x.x.A' x.x.l' x.x.c'] 32;rw[←hW];clear hW;obtain⟨v0,hb0⟩:=ze wr.heap.size;rw[←hb0] at x0 ⊢;have ow_0:w.heap.size≤v0:=zi (zww hB Bz);have nv0_own:=OwnR.off' (b:=v0) ho zo;replace hnx:=hnx.below hN;replace hon:=hon.below hN;replace ho:=ho.below hN;replace hB:=bT (bT hB Bz) hN;have HX0:=zh x0;clear x0 hN Bz hb0;have Bz:=zr V1;clear pA0 pA1 pA2 pA3 pA4 pB0;have hdr:V1.drew.heap.size=V1.heap.size:=rfl;have hdr2:V1.drew.drew.heap.size=V1.heap.size:=rfl;refine Elt.app elt_vec rfl _ _ rfl (w.heap.size) (.slice H k hc) (k) (O) rfl ho (.slice (some ⟨v0,0,none⟩) 1 1) (1) ([x]) rfl (From.one (HX0.out.below (bT Bz)) (x) rfl (elt_vec.len _)) zo (zi (zww hB Bz)) ?_;intro H1 c1 w1 ho1 hg1;replace hB:=(bT (bT hB Bz)).trans (hg1.below (zi (zww hB Bz)) (fun g hg=>by have:=ho.base g hg;omega));clear HX0;clear hdr hdr2;replace hnx:=hnx.k hg1.k;replace hon:=hon.k hg1.k;clear hg1 Bz;have Bz:=zr w1;go_wp2_with fail
     have hs1:=HS1.out;go_roundg (n-(i+1)+(m-(j)))
     case measure=>omega
     case rel=>exact⟨i+1,j,k+1,_,_,_,rfl,by go_num,rfl,zo,zo,Nat.le_refl _,zo,OwnR.below ho1,HJ2.out,(OnT.below hon).snoc (RN.below hnx) HEX.out hs1,bT (bT hB Bz)⟩
    ·have g1:¬x.at_<y.at_:=hxy;by_cases hyx:y.at_<x.at_
     ·have HJ2:Hid (Joined (prs (O++[y])) (prs LX) (prs LY) i (j+1)):=zh (by rw[prs_append];exact HJO.out.right HPY.out hpy (HPX.out.rise.behind hpx hyx));have HS1:Hid (sz y.x.q+1≤M+M'):=zh zo;have HEX:=zh hyn.2.1;have g2:y.at_<x.at_:=hyx;clear hxy hyx hxn hyn hpx hpy hjo;have Bz:=zr wr;have pA0:=(hnd.below (bT hB Bz)).c0 (u:=.int .i64 x.at_) rfl;obtain⟨pB0,pB1,pB2,pB3,pB4,-⟩:=(hnd'.below (bT hB Bz)).ez;go_wp2_with fail
      (try simp only[vA,vBa,vC])
      refine zl (zza [0,1,2,3,4,5,6,7,8,9,10,11,12,13,14,15,16,17,18,19,20,21,22,23] .done) [] (zsa pA0 (zIa pB0)) ?_;iterate 24 (refine zUa ?_;try simp only[uW,uX,uY,uZ])
      refine zAa ?_;go_wp2_with fail
      (try simp only[vA,vBa,vC])
      refine zl (zza [0,1,2,3,4,5,6,7,8,9,10,11,12,13,14,15,16,17] .done) [] (zsa pA0 (zIa pB0)) ?_;iterate 18 (refine zUa ?_;try simp only[uW,uX,uY,uZ])
      refine zAa ?_;go_wp2_with (at_builtin;refine And.left (b:=True) ?_)
      refine⟨?_,trivial⟩;obtain⟨V1,hW,x0,hN⟩:=zAd wr #[.int .i64 y.at_,.bool y.x.s,.slice y.x.A y.x.l y.x.c,.bool y.x.s',.slice y.x.A' y.x.l' y.x.c'] 32;rw[←hW];clear hW;obtain⟨v0,hb0⟩:=ze wr.heap.size;rw[←hb0] at x0 ⊢;have ow_0:w.heap.size≤v0:=zi (zww hB Bz);have nv0_own:=OwnR.off' (b:=v0) ho zo;replace hny:=hny.below hN;replace hon:=hon.below hN;replace ho:=ho.below hN;replace hB:=bT (bT hB Bz) hN;have HX0:=zh x0;clear x0 hN Bz hb0;have Bz:=zr V1;clear pA0 pB0 pB1 pB2 pB3 pB4;have hdr:V1.drew.heap.size=V1.heap.size:=rfl;have hdr2:V1.drew.drew.heap.size=V1.heap.size:=rfl;refine Elt.app elt_vec rfl _ _ rfl (w.heap.size) (.slice H k hc) (k) (O) rfl ho (.slice (some ⟨v0,0,none⟩) 1 1) (1) ([y]) rfl (From.one (HX0.out.below (bT Bz)) (y) rfl (elt_vec.len _)) zo (zi (zww hB Bz)) ?_;intro H1 c1 w1 ho1 hg1;replace hB:=(bT (bT hB Bz)).trans (hg1.below (zi (zww hB Bz)) (fun g hg=>by have:=ho.base g hg;omega));clear HX0;clear hdr hdr2;replace hny:=hny.k hg1.k;replace hon:=hon.k hg1.k;clear hg1 Bz;have Bz:=zr w1;go_wp2_with fail
      have hs1:=HS1.out;go_roundg (n-(i)+(m-(j+1)))
      case measure=>omega
      case rel=>exact⟨i,j+1,k+1,_,_,_,rfl,rfl,by go_num,zo,zo,Nat.le_refl _,zo,OwnR.below ho1,HJ2.out,(OnT.below hon).snoc (RN.below hny) HEX.out hs1,bT (bT hB Bz)⟩
     ·have g2:¬y.at_<x.at_:=hyx;have hb:=HJO.out.both HPX.out HPY.out hpx hpy (show x.at_=y.at_ by omega);have hsz:=sz_add (Nat.le_refl (sz x.x.q)) (Nat.le_refl (sz y.x.q));obtain⟨z,HZ⟩:∃z,Hid ((x.x.q+y.x.q).num.sign=z):=⟨_,zh rfl⟩;have hz0:(z==0)=decide (x.x.q+y.x.q=0):=by rw[←HZ.out,num_sign]
      by_cases hs0:x.x.q+y.x.q=0
      ·have g3:(z != 0)=false:=by rw[decide_eq_true hs0] at hz0;unfold bne;rw[hz0];rfl
       have HJ2:Hid (Joined (prs O) (prs LX) (prs LY) (i+1) (j+1)):=zh (hb.1 hs0);have HS1:Hid (0≤M+M'):=zh (Nat.zero_le _);clear hxy hyx hxn hyn hpx hpy hjo hb hz0 hs0;have Bz:=zr wr;obtain⟨pA0,pA1,pA2,pA3,pA4,-⟩:=(hnd.below (bT hB Bz)).ez;obtain⟨pB0,pB1,pB2,pB3,pB4,-⟩:=(hnd'.below (bT hB Bz)).ez;go_wp2_with fail
       (try simp only[vA,vBa,vC])
       refine zl (zza [0,1,2,3,4,5,6,7,8,9,10,11,12,13,14,15,16,17,18,19,20,21,22,23] .done) [] (zsa pA0 (zIa pB0)) ?_;iterate 24 (refine zUa ?_;try simp only[uW,uX,uY,uZ])
       refine zAa ?_;go_wp2_with fail
       (try simp only[vA,vBa,vC])
       refine zl (zza [0,1,2,3,4,5,6,7,8,9,10,11,12,13,14,15,16,17] .done) [] (zsa pA0 (zIa pB0)) ?_;iterate 18 (refine zUa ?_;try simp only[uW,uX,uY,uZ])
       refine zAa ?_;go_wp2_with fail
       (try simp only[vA,vBa,vC])
       refine zl (.pure 0 (.pure 1 (.pure 2 (.pure 3 (.take 4 (.pure 5 (.pure 6 (.pure 7 (.pure 8 (.take 9 (.two 10 (.only 11 (.only 12 .done)) 11 (.only 10 (.only 12 .done))))))))))))) [12] (zsa pA1 (zsa pA2 (zsa pA3 (zsa pA4 (zsa pB1 (zsa pB2 (zsa pB3 (zIa pB4)))))))) ?_;iterate 4 (refine zV ?_;try simp only[uW,uX,uY,uZ])
       refine zUa ?_;try simp only[uW,uX,uY,uZ]
       iterate 4 (refine zV ?_;try simp only[uW,uX,uY,uZ])
       refine zUa ?_;try simp only[uW,uX,uY,uZ]
       refine wpPlan_two (o:=⟨some 35,_,_,_,_,_⟩) (o':=⟨some 8,_,_,_,_,_⟩) rfl rfl rfl rfl (fun K hK=>?_) (fun K hK=>?_)
       ·go_simp
        with_reducible refine(add_q (R.below hrx) (R.below hry) zo (zt hT hB Bz)).mono ?_
        rintro e w1 ⟨s1,A1,c1,l1,s1r,A1r,c1r,l1r,rfl,h1,b1⟩;replace b1:=zq (a:=wr) b1;replace hon:=hon.below b1;replace ho:=ho.below b1;replace Bz:=bT Bz b1;clear b1;clear pA0 pA1 pA2 pA3 pA4 pB0 pB1 pB2 pB3 pB4;obtain⟨-,pA1,pA2,pA3,pA4,-⟩:=(hnd.below (bT hB Bz)).ez;obtain⟨-,pB1,pB2,pB3,pB4,-⟩:=(hnd'.below (bT hB Bz)).ez;refine hK.out _ _ ⟨pA1,pA2,pA3,pA4,pB1,pB2,pB3,pB4⟩ (fun _=>?_);try simp only[uW,uX,uY,uZ]
        clear hK K;refine zC 8 rfl rfl (fun K hK=>?_);go_simp
        refine hK.out _ _ ⟨(zAc pA1),(zAc pA2),(zAc pA3),(zAc pA4),(zAc pB1),(zAc pB2),(zAc pB3),(zAc pB4)⟩ (fun _=>?_);try simp only[uW,uX,uY,uZ]
        clear hK K;refine zAb (o:=⟨none,_,_,_,_,_⟩) rfl rfl zd (fun K hK=>?_);go_simp
        refine hK.out _ _ ?_;try simp only[Act.put,uX,uY,uZ]
        clear hK K;refine zAa ?_;obtain⟨V1,hW,x0,hN⟩:=zAd w1 #[.bool s1,.slice A1 l1 c1,.bool s1r,.slice A1r l1r c1r] 30;rw[←hW];clear hW;obtain⟨v0,hb0⟩:=ze w1.heap.size;rw[←hb0] at x0 ⊢;have ow_0:w.heap.size≤v0:=zi (zww hB Bz);have nv0_own:=OwnR.off' (b:=v0) ho zo;replace h1:=h1.below hN;replace hon:=hon.below hN;replace ho:=ho.below hN;replace hB:=bT (bT hB Bz) hN;have HX0:=zh x0;clear x0 hN Bz hb0;have Bz:=zr V1;clear pA1 pA2 pA3 pA4 pB1 pB2 pB3 pB4;obtain⟨pa0,pa1,pa2,pa3,-⟩:=(zx HX0 Bz).cz;go_wp2_with fail
        with_reducible refine(sign_q (R.below h1.r) zo z HZ).mono ?_
        rintro e w2 ⟨rfl,b2⟩;replace b2:=zq (a:=V1) b2;replace hon:=hon.below b2;replace ho:=ho.below b2;replace Bz:=bT Bz b2;clear b2;clear pa0 pa1 pa2 pa3;go_wp2_with fail
        have hs1:=HS1.out;go_roundg (n-(i+1)+(m-(j+1)))
        case measure=>omega
        case rel=>exact⟨i+1,j+1,k,_,_,_,rfl,by go_num,by go_num,zo,zo,Nat.le_refl _,zo,OwnR.below ho,HJ2.out,OnT.below hon,bT (bT hB Bz)⟩
       ·go_simp
        refine hK.out _ _ ⟨(zAc pA1),(zAc pA2),(zAc pA3),(zAc pA4),(zAc pB1),(zAc pB2),(zAc pB3),(zAc pB4)⟩ (fun _=>?_);try simp only[uW,uX,uY,uZ]
        clear hK K;refine zC 35 rfl rfl (fun K hK=>?_);go_simp
        obtain⟨V1,hW,x0,hN⟩:=zAd wr #[.bool false,.slice none 0 0,.bool false,.slice none 0 0] 30;rw[←hW];clear hW;obtain⟨v0,hb0⟩:=ze wr.heap.size;rw[←hb0] at x0 ⊢;have ow_0:w.heap.size≤v0:=zi (zww hB Bz);have nv0_own:=OwnR.off' (b:=v0) ho zo;replace hon:=hon.below hN;replace ho:=ho.below hN;replace hrx:=hrx.below hN;replace hry:=hry.below hN;replace hB:=bT (bT hB Bz) hN;have HX0:=zh x0;clear x0 hN Bz hb0;have Bz:=zr V1;clear pA0 pA1 pA2 pA3 pA4 pB0 pB1 pB2 pB3 pB4;with_reducible refine(add_q (R.below hrx) (R.below hry) zo (zt hT hB Bz)).mono ?_
        rintro e w1 ⟨s1,A1,c1,l1,s1r,A1r,c1r,l1r,rfl,h1,b1⟩;replace b1:=zq (a:=V1) b1;replace hon:=hon.below b1;replace ho:=ho.below b1;replace Bz:=bT Bz b1;clear b1;obtain⟨pa0,pa1,pa2,pa3,-⟩:=(zx HX0 Bz).cz;have fa0:=(zx HX0 Bz).frozen 0;have fa1:=(zx HX0 Bz).frozen 1;have fa2:=(zx HX0 Bz).frozen 2;have fa3:=(zx HX0 Bz).frozen 3;have y0:=(zx HX0 Bz).lt;obtain⟨-,pA1,pA2,pA3,pA4,-⟩:=(hnd.below (bT hB Bz)).ez;obtain⟨-,pB1,pB2,pB3,pB4,-⟩:=(hnd'.below (bT hB Bz)).ez;refine hK.out _ _ ⟨pA1,pA2,pA3,pA4,pB1,pB2,pB3,pB4⟩ (fun _=>?_);try simp only[uW,uX,uY,uZ]
        clear hK K;refine zAb (o:=⟨none,_,_,_,_,_⟩) rfl rfl zd (fun K hK=>?_);go_simp
        refine hK.out _ _ ?_;try simp only[Act.put,uX,uY,uZ]
        clear hK K;refine zAa ?_;obtain⟨V2,hW,x,kk,far,bel⟩:=store4 (.bool s1) (.slice A1 l1 c1) (.bool s1r) (.slice A1r l1r c1r) (zx HX0 Bz) nofun nofun nofun nofun;rw[←hW];clear hW;replace h1:=h1.k kk;replace hon:=hon.k kk;replace ho:=ho.far2 far nv0_own;replace hB:=bel w.heap.size w zo (bT hB Bz);replace HX0:=zh x;clear x kk far bel Bz;have Bz:=zr V2;clear pa0 pa1 pa2 pa3 fa0 fa1 fa2 fa3 y0 pA1 pA2 pA3 pA4 pB1 pB2 pB3 pB4;obtain⟨pa0,pa1,pa2,pa3,-⟩:=(zx HX0 Bz).cz;go_wp2_with fail
        with_reducible refine(sign_q (R.below h1.r) zo z HZ).mono ?_
        rintro e w2 ⟨rfl,b2⟩;replace b2:=zq (a:=V2) b2;replace hon:=hon.below b2;replace ho:=ho.below b2;replace Bz:=bT Bz b2;clear b2;clear pa0 pa1 pa2 pa3;go_wp2_with fail
        have hs1:=HS1.out;go_roundg (n-(i+1)+(m-(j+1)))
        case measure=>omega
        case rel=>exact⟨i+1,j+1,k,_,_,_,rfl,by go_num,by go_num,zo,zo,Nat.le_refl _,zo,OwnR.below ho,HJ2.out,OnT.below hon,bT (bT hB Bz)⟩
      ·have g3:(z != 0)=true:=by rw[decide_eq_false hs0] at hz0;unfold bne;rw[hz0];rfl
       have HJ2:Hid (∀r:Fr,r.q=x.x.q+y.x.q→Joined (prs (O++[⟨x.at_,r⟩])) (prs LX) (prs LY) (i+1) (j+1)):=zh (fun r hr=>by rw[prs_append,show prs [(⟨x.at_,r⟩:Tm)]=[(x.at_,x.x.q+y.x.q)] from by rw[←hr];rfl];exact hb.2 hs0);have HS1:Hid (sz (x.x.q+y.x.q)+1≤M+M'):=zh zo;clear hxy hyx hxn hyn hpx hpy hjo hb hz0 hs0;have Bz:=zr wr;obtain⟨pA0,pA1,pA2,pA3,pA4,-⟩:=(hnd.below (bT hB Bz)).ez;obtain⟨pB0,pB1,pB2,pB3,pB4,-⟩:=(hnd'.below (bT hB Bz)).ez;go_wp2_with fail
       (try simp only[vA,vBa,vC])
       refine zl (zza [0,1,2,3,4,5,6,7,8,9,10,11,12,13,14,15,16,17,18,19,20,21,22,23] .done) [] (zsa pA0 (zIa pB0)) ?_;iterate 24 (refine zUa ?_;try simp only[uW,uX,uY,uZ])
       refine zAa ?_;go_wp2_with fail
       (try simp only[vA,vBa,vC])
       refine zl (zza [0,1,2,3,4,5,6,7,8,9,10,11,12,13,14,15,16,17] .done) [] (zsa pA0 (zIa pB0)) ?_;iterate 18 (refine zUa ?_;try simp only[uW,uX,uY,uZ])
       refine zAa ?_;go_wp2_with fail
       (try simp only[vA,vBa,vC])
       refine zl (.pure 0 (.pure 1 (.pure 2 (.pure 3 (.take 4 (.pure 5 (.pure 6 (.pure 7 (.pure 8 (.take 9 (.two 10 (.only 11 (.only 12 .done)) 11 (.only 10 (.only 12 .done))))))))))))) [12] (zsa pA1 (zsa pA2 (zsa pA3 (zsa pA4 (zsa pB1 (zsa pB2 (zsa pB3 (zIa pB4)))))))) ?_;iterate 4 (refine zV ?_;try simp only[uW,uX,uY,uZ])
       refine zUa ?_;try simp only[uW,uX,uY,uZ]
       iterate 4 (refine zV ?_;try simp only[uW,uX,uY,uZ])
       refine zUa ?_;try simp only[uW,uX,uY,uZ]
       refine wpPlan_two (o:=⟨some 35,_,_,_,_,_⟩) (o':=⟨some 8,_,_,_,_,_⟩) rfl rfl rfl rfl (fun K hK=>?_) (fun K hK=>?_)
       ·go_simp
        with_reducible refine(add_q (R.below hrx) (R.below hry) zo (zt hT hB Bz)).mono ?_
        rintro e w1 ⟨s1,A1,c1,l1,s1r,A1r,c1r,l1r,rfl,h1,b1⟩;replace b1:=zq (a:=wr) b1;replace hon:=hon.below b1;replace ho:=ho.below b1;replace Bz:=bT Bz b1;clear b1;clear pA0 pA1 pA2 pA3 pA4 pB0 pB1 pB2 pB3 pB4;obtain⟨-,pA1,pA2,pA3,pA4,-⟩:=(hnd.below (bT hB Bz)).ez;obtain⟨-,pB1,pB2,pB3,pB4,-⟩:=(hnd'.below (bT hB Bz)).ez;refine hK.out _ _ ⟨pA1,pA2,pA3,pA4,pB1,pB2,pB3,pB4⟩ (fun _=>?_);try simp only[uW,uX,uY,uZ]
        clear hK K;refine zC 8 rfl rfl (fun K hK=>?_);go_simp
        refine hK.out _ _ ⟨(zAc pA1),(zAc pA2),(zAc pA3),(zAc pA4),(zAc pB1),(zAc pB2),(zAc pB3),(zAc pB4)⟩ (fun _=>?_);try simp only[uW,uX,uY,uZ]
        clear hK K;refine zAb (o:=⟨none,_,_,_,_,_⟩) rfl rfl zd (fun K hK=>?_);go_simp
        refine hK.out _ _ ?_;try simp only[Act.put,uX,uY,uZ]
        clear hK K;refine zAa ?_;obtain⟨V1,hW,x0,hN⟩:=zAd w1 #[.bool s1,.slice A1 l1 c1,.bool s1r,.slice A1r l1r c1r] 30;rw[←hW];clear hW;obtain⟨v0,hb0⟩:=ze w1.heap.size;rw[←hb0] at x0 ⊢;have ow_0:w.heap.size≤v0:=zi (zww hB Bz);have nv0_own:=OwnR.off' (b:=v0) ho zo;replace h1:=h1.below hN;replace hon:=hon.below hN;replace ho:=ho.below hN;replace hB:=bT (bT hB Bz) hN;have HX0:=zh x0;clear x0 hN Bz hb0;have Bz:=zr V1;clear pA1 pA2 pA3 pA4 pB1 pB2 pB3 pB4;obtain⟨pa0,pa1,pa2,pa3,-⟩:=(zx HX0 Bz).cz;go_wp2_with fail
        with_reducible refine(sign_q (R.below h1.r) zo z HZ).mono ?_
        rintro e w2 ⟨rfl,b2⟩;replace b2:=zq (a:=V1) b2;replace h1:=h1.below b2;replace hon:=hon.below b2;replace ho:=ho.below b2;replace Bz:=bT Bz b2;clear b2;clear pa0 pa1 pa2 pa3;obtain⟨pa0,pa1,pa2,pa3,-⟩:=(zx HX0 Bz).cz;have pA0:=(hnd.below (bT hB Bz)).c0 (u:=.int .i64 x.at_) rfl;go_wp2_with fail
        (try simp only[vA,vBa,vC])
        refine zl (.pure 0 (.pure 1 (.pure 2 (.pure 3 (.pure 4 (zza [5,6] (.pure 7 (.only 8 (.only 9 (.pure 10 .done)))))))))) [9] (zsa pa0 (zsa pa1 (zsa pa2 (zsa pa3 (zIa pA0))))) ?_;iterate 5 (refine zV ?_;try simp only[uW,uX,uY,uZ])
        iterate 2 (refine zUa ?_;try simp only[uW,uX,uY,uZ])
        refine zV ?_;try simp only[uW,uX,uY,uZ]
        refine zC 47 rfl rfl (fun K hK=>?_);go_simp
        refine hK.out _ _ ⟨(zAc pa0),(zAc pa1),(zAc pa2),(zAc pa3),(zAc pA0)⟩ (fun _=>?_);try simp only[uW,uX,uY,uZ]
        clear hK K;refine zAb (o:=⟨some 48,_,_,_,_,_⟩) rfl rfl zd (fun K hK=>?_);obtain⟨V2,hW,x1,hN⟩:=zAd w2 #[.int .i64 x.at_,.bool s1,.slice A1 l1 c1,.bool s1r,.slice A1r l1r c1r] 32;rw[←hW];clear hW;obtain⟨v1,hb1⟩:=ze w2.heap.size;rw[←hb1] at x1 ⊢;have o0_1:v0<v1:=zi (zx HX0 Bz).lt;have ow_1:w.heap.size≤v1:=zi (zww hB Bz);have nv1_own:=OwnR.off' (b:=v1) ho zo;replace h1:=h1.below hN;replace hon:=hon.below hN;replace ho:=ho.below hN;replace hB:=bT (bT hB Bz) hN;replace HX0:=zba HX0 Bz hN;have HX1:=zh x1;clear x1 hN Bz hb1;have Bz:=zr V2;clear pa0 pa1 pa2 pa3 pA0;have hdr:V2.drew.heap.size=V2.heap.size:=rfl;have hdr2:V2.drew.drew.heap.size=V2.heap.size:=rfl;refine Elt.wp elt_vec _ _ rfl (w.heap.size) (.slice H k hc) (k) (O) rfl ho (.slice (some ⟨v1,0,none⟩) 1 1) (1) ([⟨x.at_,⟨s1,A1,c1,l1,s1r,A1r,c1r,l1r,x.x.q+y.x.q,true⟩⟩]) rfl (From.one (HX1.out.below (bT Bz)) (⟨x.at_,⟨s1,A1,c1,l1,s1r,A1r,c1r,l1r,x.x.q+y.x.q,true⟩⟩) rfl (elt_vec.len _)) zo (zi (zww hB Bz)) ?_;intro H3 c3 w3 ho3 hg3;refine hK.out _ _ ?_;try simp only[uW,uX,uY,uZ]
        clear hK K;replace hB:=(bT (bT hB Bz)).trans (hg3.below (zi (zww hB Bz)) (fun g hg=>by have:=ho.base g hg;omega));clear HX0;clear HX1;clear hdr hdr2;replace h1:=h1.k hg3.k;replace hon:=hon.k hg3.k;clear hg3 Bz;have Bz:=zr w3;have pA0:=(hnd.below (bT hB Bz)).c0 (u:=.int .i64 x.at_) rfl;refine zV ?_;try simp only[uW,uX,uY,uZ]
        refine zAa ?_;go_wp2_with fail
        have hs1:=HS1.out;go_roundg (n-(i+1)+(m-(j+1)))
        case measure=>omega
        case rel=>exact⟨i+1,j+1,k+1,_,_,_,rfl,by go_num,by go_num,zo,zo,Nat.le_refl _,zo,OwnR.below ho3,HJ2.out _ rfl,(OnT.below hon).snoc (RN.below h1) rfl hs1,bT (bT hB Bz)⟩
       ·go_simp
        refine hK.out _ _ ⟨(zAc pA1),(zAc pA2),(zAc pA3),(zAc pA4),(zAc pB1),(zAc pB2),(zAc pB3),(zAc pB4)⟩ (fun _=>?_);try simp only[uW,uX,uY,uZ]
        clear hK K;refine zC 35 rfl rfl (fun K hK=>?_);go_simp
        obtain⟨V1,hW,x0,hN⟩:=zAd wr #[.bool false,.slice none 0 0,.bool false,.slice none 0 0] 30;rw[←hW];clear hW;obtain⟨v0,hb0⟩:=ze wr.heap.size;rw[←hb0] at x0 ⊢;have ow_0:w.heap.size≤v0:=zi (zww hB Bz);have nv0_own:=OwnR.off' (b:=v0) ho zo;replace hon:=hon.below hN;replace ho:=ho.below hN;replace hrx:=hrx.below hN;replace hry:=hry.below hN;replace hB:=bT (bT hB Bz) hN;have HX0:=zh x0;clear x0 hN Bz hb0;have Bz:=zr V1;clear pA0 pA1 pA2 pA3 pA4 pB0 pB1 pB2 pB3 pB4;with_reducible refine(add_q (R.below hrx) (R.below hry) zo (zt hT hB Bz)).mono ?_
        rintro e w1 ⟨s1,A1,c1,l1,s1r,A1r,c1r,l1r,rfl,h1,b1⟩;replace b1:=zq (a:=V1) b1;replace hon:=hon.below b1;replace ho:=ho.below b1;replace Bz:=bT Bz b1;clear b1;obtain⟨pa0,pa1,pa2,pa3,-⟩:=(zx HX0 Bz).cz;have fa0:=(zx HX0 Bz).frozen 0;have fa1:=(zx HX0 Bz).frozen 1;have fa2:=(zx HX0 Bz).frozen 2;have fa3:=(zx HX0 Bz).frozen 3;have y0:=(zx HX0 Bz).lt;obtain⟨-,pA1,pA2,pA3,pA4,-⟩:=(hnd.below (bT hB Bz)).ez;obtain⟨-,pB1,pB2,pB3,pB4,-⟩:=(hnd'.below (bT hB Bz)).ez;refine hK.out _ _ ⟨pA1,pA2,pA3,pA4,pB1,pB2,pB3,pB4⟩ (fun _=>?_);try simp only[uW,uX,uY,uZ]
        clear hK K;refine zAb (o:=⟨none,_,_,_,_,_⟩) rfl rfl zd (fun K hK=>?_);go_simp
        refine hK.out _ _ ?_;try simp only[Act.put,uX,uY,uZ]
        clear hK K;refine zAa ?_;obtain⟨V2,hW,x,kk,far,bel⟩:=store4 (.bool s1) (.slice A1 l1 c1) (.bool s1r) (.slice A1r l1r c1r) (zx HX0 Bz) nofun nofun nofun nofun;rw[←hW];clear hW;replace h1:=h1.k kk;replace hon:=hon.k kk;replace ho:=ho.far2 far nv0_own;replace hB:=bel w.heap.size w zo (bT hB Bz);replace HX0:=zh x;clear x kk far bel Bz;have Bz:=zr V2;clear pa0 pa1 pa2 pa3 fa0 fa1 fa2 fa3 y0 pA1 pA2 pA3 pA4 pB1 pB2 pB3 pB4;obtain⟨pa0,pa1,pa2,pa3,-⟩:=(zx HX0 Bz).cz;go_wp2_with fail
        with_reducible refine(sign_q (R.below h1.r) zo z HZ).mono ?_
        rintro e w2 ⟨rfl,b2⟩;replace b2:=zq (a:=V2) b2;replace h1:=h1.below b2;replace hon:=hon.below b2;replace ho:=ho.below b2;replace Bz:=bT Bz b2;clear b2;clear pa0 pa1 pa2 pa3;obtain⟨pa0,pa1,pa2,pa3,-⟩:=(zx HX0 Bz).cz;have pA0:=(hnd.below (bT hB Bz)).c0 (u:=.int .i64 x.at_) rfl;go_wp2_with fail
        (try simp only[vA,vBa,vC])
        refine zl (.pure 0 (.pure 1 (.pure 2 (.pure 3 (.pure 4 (zza [5,6] (.pure 7 (.only 8 (.only 9 (.pure 10 .done)))))))))) [9] (zsa pa0 (zsa pa1 (zsa pa2 (zsa pa3 (zIa pA0))))) ?_;iterate 5 (refine zV ?_;try simp only[uW,uX,uY,uZ])
        iterate 2 (refine zUa ?_;try simp only[uW,uX,uY,uZ])
        refine zV ?_;try simp only[uW,uX,uY,uZ]
        refine zC 47 rfl rfl (fun K hK=>?_);go_simp
        refine hK.out _ _ ⟨(zAc pa0),(zAc pa1),(zAc pa2),(zAc pa3),(zAc pA0)⟩ (fun _=>?_);try simp only[uW,uX,uY,uZ]
        clear hK K;refine zAb (o:=⟨some 48,_,_,_,_,_⟩) rfl rfl zd (fun K hK=>?_);obtain⟨V3,hW,x1,hN⟩:=zAd w2 #[.int .i64 x.at_,.bool s1,.slice A1 l1 c1,.bool s1r,.slice A1r l1r c1r] 32;rw[←hW];clear hW;obtain⟨v1,hb1⟩:=ze w2.heap.size;rw[←hb1] at x1 ⊢;have o0_1:v0<v1:=zi (zx HX0 Bz).lt;have ow_1:w.heap.size≤v1:=zi (zww hB Bz);have nv1_own:=OwnR.off' (b:=v1) ho zo;replace h1:=h1.below hN;replace hon:=hon.below hN;replace ho:=ho.below hN;replace hB:=bT (bT hB Bz) hN;replace HX0:=zba HX0 Bz hN;have HX1:=zh x1;clear x1 hN Bz hb1;have Bz:=zr V3;clear pa0 pa1 pa2 pa3 pA0;have hdr:V3.drew.heap.size=V3.heap.size:=rfl;have hdr2:V3.drew.drew.heap.size=V3.heap.size:=rfl;refine Elt.wp elt_vec _ _ rfl (w.heap.size) (.slice H k hc) (k) (O) rfl ho (.slice (some ⟨v1,0,none⟩) 1 1) (1) ([⟨x.at_,⟨s1,A1,c1,l1,s1r,A1r,c1r,l1r,x.x.q+y.x.q,true⟩⟩]) rfl (From.one (HX1.out.below (bT Bz)) (⟨x.at_,⟨s1,A1,c1,l1,s1r,A1r,c1r,l1r,x.x.q+y.x.q,true⟩⟩) rfl (elt_vec.len _)) zo (zi (zww hB Bz)) ?_;intro H3 c3 w3 ho3 hg3;refine hK.out _ _ ?_;try simp only[uW,uX,uY,uZ]
        clear hK K;replace hB:=(bT (bT hB Bz)).trans (hg3.below (zi (zww hB Bz)) (fun g hg=>by have:=ho.base g hg;omega));clear HX0;clear HX1;clear hdr hdr2;replace h1:=h1.k hg3.k;replace hon:=hon.k hg3.k;clear hg3 Bz;have Bz:=zr w3;have pA0:=(hnd.below (bT hB Bz)).c0 (u:=.int .i64 x.at_) rfl;refine zV ?_;try simp only[uW,uX,uY,uZ]
        refine zAa ?_;go_wp2_with fail
        have hs1:=HS1.out;go_roundg (n-(i+1)+(m-(j+1)))
        case measure=>omega
        case rel=>exact⟨i+1,j+1,k+1,_,_,_,rfl,by go_num,by go_num,zo,zo,Nat.le_refl _,zo,OwnR.below ho3,HJ2.out _ rfl,(OnT.below hon).snoc (RN.below h1) rfl hs1,bT (bT hB Bz)⟩
   ·obtain rfl:j=m:=zo;have j1:¬(j:Int)<(j:Int):=zo;have HJ2:Hid (Joined (prs (O++[x])) (prs LX) (prs LY) (i+1) j):=zh (by rw[prs_append];exact HJO.out.left HPX.out hpx (fun q hq=>by rw[List.drop_eq_nil_of_le (by rw[prs_len,HLY.out];exact Nat.le_refl _)] at hq;cases hq));have HS1:Hid (sz x.x.q+1≤M+M'):=zh zo;have HEX:=zh hxn.2.1;clear hxn hpx hjo hjm;have Bz:=zr wr;obtain⟨pA0,pA1,pA2,pA3,pA4,-⟩:=(hnd.below (bT hB Bz)).ez;go_wp2_with fail
    (try simp only[vA,vBa,vC])
    refine zl (zza [0,1,2,3,4,5,6,7,8,9,10,11,12,13,14,15,16,17,18,19,20,21,22,23] .done) [] zn ?_;iterate 5 (refine zUa ?_;try simp only[uW,uX,uY,uZ])
    iterate 17 (refine zN rfl rfl ?_;try simp only[uW,uX,uY,uZ])
    iterate 2 (refine zUa ?_;try simp only[uW,uX,uY,uZ])
    refine zAa ?_;go_wp2_with (at_builtin;refine And.left (b:=True) ?_)
    refine⟨?_,trivial⟩;obtain⟨V1,hW,x0,hN⟩:=zAd wr #[.int .i64 x.at_,.bool x.x.s,.slice x.x.A x.x.l x.x.c,.bool x.x.s',.slice x.x.A' x.x.l' x.x.c'] 32;rw[←hW];clear hW;obtain⟨v0,hb0⟩:=ze wr.heap.size;rw[←hb0] at x0 ⊢;have ow_0:w.heap.size≤v0:=zi (zww hB Bz);have nv0_own:=OwnR.off' (b:=v0) ho zo;replace hnx:=hnx.below hN;replace hon:=hon.below hN;replace ho:=ho.below hN;replace hB:=bT (bT hB Bz) hN;have HX0:=zh x0;clear x0 hN Bz hb0;have Bz:=zr V1;clear pA0 pA1 pA2 pA3 pA4;have hdr:V1.drew.heap.size=V1.heap.size:=rfl;have hdr2:V1.drew.drew.heap.size=V1.heap.size:=rfl;refine Elt.app elt_vec rfl _ _ rfl (w.heap.size) (.slice H k hc) (k) (O) rfl ho (.slice (some ⟨v0,0,none⟩) 1 1) (1) ([x]) rfl (From.one (HX0.out.below (bT Bz)) (x) rfl (elt_vec.len _)) zo (zi (zww hB Bz)) ?_;intro H1 c1 w1 ho1 hg1;replace hB:=(bT (bT hB Bz)).trans (hg1.below (zi (zww hB Bz)) (fun g hg=>by have:=ho.base g hg;omega));clear HX0;clear hdr hdr2;replace hnx:=hnx.k hg1.k;replace hon:=hon.k hg1.k;clear hg1 Bz;have Bz:=zr w1;go_wp2_with fail
    have hs1:=HS1.out;go_roundg (n-(i+1)+(j-(j)))
    case measure=>omega
    case rel=>exact⟨i+1,j,k+1,_,_,_,rfl,by go_num,rfl,zo,zo,Nat.le_refl _,zo,OwnR.below ho1,HJ2.out,(OnT.below hon).snoc (RN.below hnx) HEX.out hs1,bT (bT hB Bz)⟩
  ·obtain rfl:i=n:=zo;have i1:¬(i:Int)<(i:Int):=zo;by_cases hjm:j<m
   ·obtain⟨by_,oy,rfl,hel'⟩:=HSY.out.at Tm.cs_len zo zo;obtain⟨y,hy⟩:∃y,LY[j]?=some y:=⟨LY[j]'(by rw[HLY.out];exact hjm),List.getElem?_eq_getElem _⟩;have hnd':=hel' j y hy;have hyn:=HNY.out y (List.mem_of_getElem? hy);have hny:=hyn.1.below hB;have hry:=hny.r;have hys:sz y.x.q+1≤M':=hyn.2.2;have hpy:=prs_get hy;have j1:(j:Int)<(m:Int):=zo;have j3:((j:Int)==(m:Int))=false:=by rw[beq_eq_false_iff_ne];omega
    have HJ2:Hid (Joined (prs (O++[y])) (prs LX) (prs LY) i (j+1)):=zh (by rw[prs_append];exact HJO.out.right HPY.out hpy (fun p hp=>by rw[List.drop_eq_nil_of_le (by rw[prs_len,HLX.out];exact Nat.le_refl _)] at hp;cases hp));have HS1:Hid (sz y.x.q+1≤M+M'):=zh zo;have HEX:=zh hyn.2.1;clear hel' hy hyn hpy hjo hin;have Bz:=zr wr;obtain⟨pB0,pB1,pB2,pB3,pB4,-⟩:=(hnd'.below (bT hB Bz)).ez;go_wp2_with fail
    (try simp only[vA,vBa,vC])
    refine zl (zza [0,1,2,3,4,5,6,7,8,9,10,11,12,13,14,15,16,17,18,19,20,21,22,23] .done) [] zn ?_;iterate 10 (refine zUa ?_;try simp only[uW,uX,uY,uZ])
    iterate 11 (refine zN rfl rfl ?_;try simp only[uW,uX,uY,uZ])
    iterate 3 (refine zUa ?_;try simp only[uW,uX,uY,uZ])
    refine zAa ?_;go_wp2_with fail
    (try simp only[vA,vBa,vC])
    refine zl (zza [0,1,2,3,4,5,6,7,8,9,10,11,12,13,14,15,16,17] .done) [] zn ?_;iterate 5 (refine zUa ?_;try simp only[uW,uX,uY,uZ])
    iterate 11 (refine zN rfl rfl ?_;try simp only[uW,uX,uY,uZ])
    iterate 2 (refine zUa ?_;try simp only[uW,uX,uY,uZ])
    refine zAa ?_;go_wp2_with (at_builtin;refine And.left (b:=True) ?_)
    refine⟨?_,trivial⟩;obtain⟨V1,hW,x0,hN⟩:=zAd wr #[.int .i64 y.at_,.bool y.x.s,.slice y.x.A y.x.l y.x.c,.bool y.x.s',.slice y.x.A' y.x.l' y.x.c'] 32;rw[←hW];clear hW;obtain⟨v0,hb0⟩:=ze wr.heap.size;rw[←hb0] at x0 ⊢;have ow_0:w.heap.size≤v0:=zi (zww hB Bz);have nv0_own:=OwnR.off' (b:=v0) ho zo;replace hny:=hny.below hN;replace hon:=hon.below hN;replace ho:=ho.below hN;replace hB:=bT (bT hB Bz) hN;have HX0:=zh x0;clear x0 hN Bz hb0;have Bz:=zr V1;clear pB0 pB1 pB2 pB3 pB4;have hdr:V1.drew.heap.size=V1.heap.size:=rfl;have hdr2:V1.drew.drew.heap.size=V1.heap.size:=rfl;refine Elt.app elt_vec rfl _ _ rfl (w.heap.size) (.slice H k hc) (k) (O) rfl ho (.slice (some ⟨v0,0,none⟩) 1 1) (1) ([y]) rfl (From.one (HX0.out.below (bT Bz)) (y) rfl (elt_vec.len _)) zo (zi (zww hB Bz)) ?_;intro H1 c1 w1 ho1 hg1;replace hB:=(bT (bT hB Bz)).trans (hg1.below (zi (zww hB Bz)) (fun g hg=>by have:=ho.base g hg;omega));clear HX0;clear hdr hdr2;replace hny:=hny.k hg1.k;replace hon:=hon.k hg1.k;clear hg1 Bz;have Bz:=zr w1;go_wp2_with fail
    have hs1:=HS1.out;go_roundg (i-(i)+(m-(j+1)))
    case measure=>omega
    case rel=>exact⟨i,j+1,k+1,_,_,_,rfl,rfl,by go_num,zo,zo,Nat.le_refl _,zo,OwnR.below ho1,HJ2.out,(OnT.below hon).snoc (RN.below hny) HEX.out hs1,bT (bT hB Bz)⟩
   ·obtain rfl:j=m:=zo;have j1:¬(j:Int)<(j:Int):=zo;have HOS:=zh ho;have HON:=zh hon;clear hjo ho hon;go_wp2_with fail
    go_ret
    exact⟨_,_,_,O,rfl,HOS.out.below (by go_grown),HON.out.below (by go_grown),(HJO.out.done (by rw[prs_len,HLX.out];exact Nat.le_refl _) (by rw[prs_len,HLY.out];exact Nat.le_refl _)).symm,bT hB⟩
open Go.RowKit Tw
def SC1 (w W:World) (cs:Array Value) (L:List Tm) (q:Rat) (n MM gk:Nat) (s5 s12:Value) (wr:World):Prop :=
 ∃(i k:Nat) (H:Option Addr) (hc:Nat) (O:List Tm),s5=.slice H k hc∧s12=.int .i64 (i:Int)∧i≤n∧n-i≤gk∧k≤i∧
  OwnR wr W.heap.size 32 5 (.slice H k hc) k (flat Tm.cs O)∧prs O=((prs (L.take i)).map fun x=>(x.1,q*x.2)).filter (fun x=>decide (x.2≠0))∧OnT wr O (fun _=>MM)∧Bx wr w.heap.size cs 30∧Below w.heap.size w wr∧Below W.heap.size W wr
theorem scale_snoc {L:List Tm} {i:Nat} {x:Tm} {q:Rat} (h:L[i]?=some x):((prs (L.take (i+1))).map fun x=>(x.1,q*x.2)).filter (fun x=>decide (x.2≠0))=((prs (L.take i)).map fun x=>(x.1,q*x.2)).filter (fun x=>decide (x.2≠0))++if q*x.x.q=0 then [] else [(x.at_,q*x.x.q)]:=by
 rw[take_snoc h,prs_append,List.map_append,List.filter_append];congr 1
 show([(x.at_,q*x.x.q)]:List (Int×Rat)).filter _=_
 by_cases e:q*x.x.q=0
 ·rw[if_pos e,List.filter_cons_of_neg (by simp[e])];rfl
 ·rw[if_neg e,List.filter_cons_of_pos (by simp[e])];rfl
theorem sign_zero {q:Rat} {z:Int} (h:q.num.sign=z):(z != 0)=decide (q≠0):=by
 have:=num_sign q;rw[h] at this;unfold bne
 rw[this];by_cases e:q=0<;>simp[e]
theorem scaleV_q {w:World} {s s':Bool} {A A':Option Addr} {l c l' c':Nat} {q:Rat} {mq:Nat} {X:Option Addr} {n cx M:Nat} {P:List (Int×Rat)} (ha:R w s A c l s' A' c' l' q mq) (h:GV w X n cx P M) (hM:M≤10000000000) (hmq:mq≤10000000000) (hn:n≤1000000) (hT:Hid (Tab w)) :
  Calls Tryz.prog 52 #[.agg #[.bool s,.slice A l c,.bool s',.slice A' l' c'],.slice X n cx] w (TellsV w (nrm (P.map fun x=>(x.1,q*x.2))) (mq+M+3)):=by
 have hx:=zh h;have hM:M≤19000000000:=zo;clear h;obtain⟨W,hW,x0,hB⟩:=zAd w #[.bool s,.slice A l c,.bool s',.slice A' l' c'] 30;replace ha:=ha.below hB;have HX0:=zh x0;clear x0;have Bz:=zr W;go_enter Tryz.func52,Tryz.ntmps52
 go_wp2_with fail
 rw[←hW];clear hW;go_wp2_with fail
 with_reducible refine(ordered_q (hx.out.below (bT hB (bT (b:=W) Bz))) hM hn (zt hT hB Bz)).mono ?_
 rintro e w1 ⟨A1,n1,c1,P1,rfl,h1,r1,e1,l1,b1⟩;replace b1:=zq (a:=W) b1;replace ha:=ha.below b1;replace Bz:=bT Bz b1;clear b1;go_wp2_with fail
 obtain⟨L,x1,x2,rfl,x4,x5⟩:=h1;have HS:=zh x1;have HLN:=zh x1.1;have HOK:=zh x2;have HWS:=zh x4;have HRS:=zh r1;have HGT:=zh e1;have HB1:=zh (bT hB Bz);have HA1:=zh ha;have XX0:=zh (zx HX0 Bz);have HXB:=zh (zx HX0 Bz).lt;clear x1 x2 x4 x5 r1 e1 hB Bz HX0 ha;go_loopg [5,12] n1 (fun gk s5 s12 wr=>SC1 w w1 #[.bool s,.slice A l c,.bool s',.slice A' l' c'] L q n1 (mq+M+3) gk s5 s12 wr)
 case atStart=>exact⟨0,0,_,_,[],rfl,rfl,Nat.zero_le _,Nat.le_refl _,Nat.le_refl _,OwnR.nil _ _ _ _,rfl,OnT.nil _ _,XX0.out,HB1.out,Below.refl _ _⟩
 case round =>
  clear XX0;have hWs:w.heap.size<w1.heap.size:=zi HXB.out;clear HB1;obtain⟨i,k,H,hc,O,rfl,rfl,hi,hgk,hk,ho,hp,hon,hx0,hB,hBW⟩:=hrel;have HP:=zh hp;have HX0:=zh hx0;clear hp hx0;by_cases hlt:i<n1
  ·obtain⟨b,off,rfl,hel⟩:=HS.out.at Tm.cs_len zo zo;obtain⟨x,hx'⟩:∃x,L[i]?=some x:=⟨L[i]'(by rw[HLN.out];exact hlt),List.getElem?_eq_getElem _⟩;have hnd:=hel i x hx';have hfx:=HOK.out x (List.mem_of_getElem? hx');have hrx:R wr x.x.s x.x.A x.x.c x.x.l x.x.s' x.x.A' x.x.c' x.x.l' x.x.q (dgT x):=(hfx.below hBW).r;have ha:=HA1.out.below hBW;have hdx:dgT x+2≤M+1:=Nat.le_trans (wsum_mem (List.mem_of_getElem? hx')) (HWS.out _);have hsq:=ha.sz;have hsx:=hfx.szd;have hsz:sz (q*x.x.q)≤(mq+1)+(dgT x+1):=sz_mul zo hsx;obtain⟨z,HZ⟩:∃z,Hid ((q*x.x.q).num.sign=z):=⟨_,zh rfl⟩;have hz0:=sign_zero HZ.out;have i1:(i:Int)<(n1:Int):=zo;have i2:(0:Int)≤(i:Int):=zo;have hsn:=scale_snoc (q:=q) hx';clear hel hx' hfx;by_cases hs0:q*x.x.q=0
   ·have g3:(z != 0)=false:=by rw[hz0,decide_eq_false (fun h=>h hs0)]
    have HP2:Hid (prs O=((prs (L.take (i+1))).map fun x=>(x.1,q*x.2)).filter (fun x=>decide (x.2≠0))):=zh (by rw[hsn,if_pos hs0,List.append_nil,HP.out]);have HS1:Hid (0≤M):=zh (Nat.zero_le _);clear hz0 hsn hs0;have Bz:=zr wr;obtain⟨pA0,pA1,pA2,pA3,pA4,-⟩:=(hnd.below (bT hBW Bz)).ez;go_upto_region 5 with(fail)
    obtain⟨V11,hW,x1,hN⟩:=zAd wr #[.int .i64 x.at_,.bool x.x.s,.slice x.x.A x.x.l x.x.c,.bool x.x.s',.slice x.x.A' x.x.l' x.x.c'] 32;rw[←hW];clear hW;obtain⟨v1,hb1⟩:=ze wr.heap.size;rw[←hb1] at x1 ⊢;have o0_1:w.heap.size<v1:=zi (zx HX0 Bz).lt;have ow_1:w.heap.size≤v1:=zi (zww hB Bz);have nv1_own:=OwnR.off' (b:=v1) ho zo;replace ha:=ha.below hN;replace hon:=hon.below hN;replace ho:=ho.below hN;replace hrx:=hrx.below hN;replace hB:=bT (bT hB Bz) hN;replace hBW:=bT (bT hBW Bz) hN;replace HX0:=zba HX0 Bz hN;have HX1:=zh x1;clear x1 hN Bz hb1;have Bz:=zr V11;clear pA0 pA1 pA2 pA3 pA4;obtain⟨pa0,pa1,pa2,pa3,-⟩:=(zx HX0 Bz).cz;obtain⟨-,pb1,pb2,pb3,pb4,-⟩:=(zx HX1 Bz).cz;go_wp2_with fail
    with_reducible refine(mul_q (R.below ha) (R.below hrx) zo (zt hT hB Bz)).mono ?_
    rintro e w11 ⟨s11,A11,c11,l11,s11r,A11r,c11r,l11r,rfl,h11,b11⟩;replace b11:=zq (a:=V11) b11;replace hon:=hon.below b11;replace ho:=ho.below b11;replace Bz:=bT Bz b11;clear b11;clear pa0 pa1 pa2 pa3 pb1 pb2 pb3 pb4;go_upto_region 6 with(fail)
    obtain⟨V12,hW,x2,hN⟩:=zAd w11 #[.bool s11,.slice A11 l11 c11,.bool s11r,.slice A11r l11r c11r] 30;rw[←hW];clear hW;obtain⟨v2,hb2⟩:=ze w11.heap.size;rw[←hb2] at x2 ⊢;have o0_2:w.heap.size<v2:=zi (zx HX0 Bz).lt;have o1_2:v1<v2:=zi (zx HX1 Bz).lt;have ow_2:w.heap.size≤v2:=zi (zww hB Bz);have nv2_own:=OwnR.off' (b:=v2) ho zo;replace h11:=h11.below hN;replace hon:=hon.below hN;replace ho:=ho.below hN;replace hB:=bT (bT hB Bz) hN;replace hBW:=bT (bT hBW Bz) hN;replace HX0:=zba HX0 Bz hN;replace HX1:=zba HX1 Bz hN;have HX2:=zh x2;clear x2 hN Bz hb2;have Bz:=zr V12;obtain⟨pc0,pc1,pc2,pc3,-⟩:=(zx HX2 Bz).cz;go_wp2_with fail
    with_reducible refine(sign_q (R.below h11.r) zo z HZ).mono ?_
    rintro e w12 ⟨rfl,b12⟩;replace b12:=zq (a:=V12) b12;replace hon:=hon.below b12;replace ho:=ho.below b12;replace Bz:=bT Bz b12;clear b12;clear pc0 pc1 pc2 pc3;go_wp2_with fail
    have hs1:=HS1.out;go_roundg (n1-(i+1))
    case measure=>omega
    case rel=>exact⟨i+1,k,_,_,_,rfl,by go_num,zo,Nat.le_refl _,zo,OwnR.below ho,HP2.out,OnT.below hon,HX0.out.below (bT Bz),bT (bT hB Bz),bT (bT hBW Bz)⟩
   ·have g3:(z != 0)=true:=by rw[hz0,decide_eq_true hs0]
    have HP2:Hid (∀r:Fr,r.q=q*x.x.q→prs (O++[⟨x.at_,r⟩])=((prs (L.take (i+1))).map fun x=>(x.1,q*x.2)).filter (fun x=>decide (x.2≠0))):=zh (fun r hr=>by rw[hsn,if_neg hs0,prs_append,HP.out,show prs [(⟨x.at_,r⟩:Tm)]=[(x.at_,q*x.x.q)] from by rw[←hr];rfl]);have HS1:Hid (sz (q*x.x.q)+1≤mq+M+3):=zh zo;clear hz0 hsn hs0;have Bz:=zr wr;obtain⟨pA0,pA1,pA2,pA3,pA4,-⟩:=(hnd.below (bT hBW Bz)).ez;go_upto_region 5 with(fail)
    obtain⟨V11,hW,x1,hN⟩:=zAd wr #[.int .i64 x.at_,.bool x.x.s,.slice x.x.A x.x.l x.x.c,.bool x.x.s',.slice x.x.A' x.x.l' x.x.c'] 32;rw[←hW];clear hW;obtain⟨v1,hb1⟩:=ze wr.heap.size;rw[←hb1] at x1 ⊢;have o0_1:w.heap.size<v1:=zi (zx HX0 Bz).lt;have ow_1:w.heap.size≤v1:=zi (zww hB Bz);have nv1_own:=OwnR.off' (b:=v1) ho zo;replace ha:=ha.below hN;replace hon:=hon.below hN;replace ho:=ho.below hN;replace hrx:=hrx.below hN;replace hB:=bT (bT hB Bz) hN;replace hBW:=bT (bT hBW Bz) hN;replace HX0:=zba HX0 Bz hN;have HX1:=zh x1;clear x1 hN Bz hb1;have Bz:=zr V11;clear pA0 pA1 pA2 pA3 pA4;obtain⟨pa0,pa1,pa2,pa3,-⟩:=(zx HX0 Bz).cz;obtain⟨-,pb1,pb2,pb3,pb4,-⟩:=(zx HX1 Bz).cz;go_wp2_with fail
    with_reducible refine(mul_q (R.below ha) (R.below hrx) zo (zt hT hB Bz)).mono ?_
    rintro e w11 ⟨s11,A11,c11,l11,s11r,A11r,c11r,l11r,rfl,h11,b11⟩;replace b11:=zq (a:=V11) b11;replace hon:=hon.below b11;replace ho:=ho.below b11;replace Bz:=bT Bz b11;clear b11;clear pa0 pa1 pa2 pa3 pb1 pb2 pb3 pb4;go_upto_region 6 with(fail)
    obtain⟨V12,hW,x2,hN⟩:=zAd w11 #[.bool s11,.slice A11 l11 c11,.bool s11r,.slice A11r l11r c11r] 30;rw[←hW];clear hW;obtain⟨v2,hb2⟩:=ze w11.heap.size;rw[←hb2] at x2 ⊢;have o0_2:w.heap.size<v2:=zi (zx HX0 Bz).lt;have o1_2:v1<v2:=zi (zx HX1 Bz).lt;have ow_2:w.heap.size≤v2:=zi (zww hB Bz);have nv2_own:=OwnR.off' (b:=v2) ho zo;replace h11:=h11.below hN;replace hon:=hon.below hN;replace ho:=ho.below hN;replace hB:=bT (bT hB Bz) hN;replace hBW:=bT (bT hBW Bz) hN;replace HX0:=zba HX0 Bz hN;replace HX1:=zba HX1 Bz hN;have HX2:=zh x2;clear x2 hN Bz hb2;have Bz:=zr V12;obtain⟨pc0,pc1,pc2,pc3,-⟩:=(zx HX2 Bz).cz;go_wp2_with fail
    with_reducible refine(sign_q (R.below h11.r) zo z HZ).mono ?_
    rintro e w12 ⟨rfl,b12⟩;replace b12:=zq (a:=V12) b12;replace h11:=h11.below b12;replace hon:=hon.below b12;replace ho:=ho.below b12;replace Bz:=bT Bz b12;clear b12;clear pc0 pc1 pc2 pc3;have pb0:=(zx HX1 Bz).cell 0 (.int .i64 x.at_) rfl;obtain⟨pc0,pc1,pc2,pc3,-⟩:=(zx HX2 Bz).cz;go_wp2_with (at_builtin;refine And.left (b:=True) ?_)
    refine⟨?_,trivial⟩;obtain⟨V13,hW,x3,hN⟩:=zAd w12 #[.int .i64 x.at_,.bool s11,.slice A11 l11 c11,.bool s11r,.slice A11r l11r c11r] 32;rw[←hW];clear hW;obtain⟨v3,hb3⟩:=ze w12.heap.size;rw[←hb3] at x3 ⊢;have o0_3:w.heap.size<v3:=zi (zx HX0 Bz).lt;have o1_3:v1<v3:=zi (zx HX1 Bz).lt;have o2_3:v2<v3:=zi (zx HX2 Bz).lt;have ow_3:w.heap.size≤v3:=zi (zww hB Bz);have nv3_own:=OwnR.off' (b:=v3) ho zo;replace h11:=h11.below hN;replace hon:=hon.below hN;replace ho:=ho.below hN;replace hB:=bT (bT hB Bz) hN;replace hBW:=bT (bT hBW Bz) hN;replace HX0:=zba HX0 Bz hN;replace HX1:=zba HX1 Bz hN;replace HX2:=zba HX2 Bz hN;have HX3:=zh x3;clear x3 hN Bz hb3;have Bz:=zr V13;clear pb0 pc0 pc1 pc2 pc3;have hdr:V13.drew.heap.size=V13.heap.size:=rfl;have hdr2:V13.drew.drew.heap.size=V13.heap.size:=rfl;refine Elt.app elt_vec rfl _ _ rfl (w1.heap.size) (.slice H k hc) (k) (O) rfl ho (.slice (some ⟨v3,0,none⟩) 1 1) (1) ([⟨x.at_,⟨s11,A11,c11,l11,s11r,A11r,c11r,l11r,q*x.x.q,true⟩⟩]) rfl (From.one (HX3.out.below (bT Bz)) (⟨x.at_,⟨s11,A11,c11,l11,s11r,A11r,c11r,l11r,q*x.x.q,true⟩⟩) rfl (elt_vec.len _)) zo (zj hBW.size Bz.size) ?_;intro H13 c13 w13 ho13 hg13;replace hB:=(bT (bT hB Bz)).trans (hg13.below (zi (zww hB Bz)) (fun g hg=>by have:=ho.base g hg;omega));replace hBW:=(bT (bT hBW Bz)).trans (hg13.below (zj hBW.size Bz.size) (fun g hg=>by have:=ho.base g hg;omega));replace HX0:=zh (hg13.bx (zx HX0 Bz) (ho.off zo));clear HX1;clear HX2;clear HX3;clear hdr hdr2;replace h11:=h11.k hg13.k;replace hon:=hon.k hg13.k;clear hg13 Bz;have Bz:=zr w13;go_wp2_with fail
    have hs1:=HS1.out;go_roundg (n1-(i+1))
    case measure=>omega
    case rel=>exact⟨i+1,k+1,_,_,_,rfl,by go_num,zo,Nat.le_refl _,zo,OwnR.below ho13,HP2.out _ rfl,(OnT.below hon).snoc (RN.below h11) rfl hs1,HX0.out.below (bT Bz),bT (bT hB Bz),bT (bT hBW Bz)⟩
  ·obtain rfl:i=n1:=zo;have i1:¬(i:Int)<(i:Int):=zo;have HOS:=zh (ho.sl' elt_vec (ho.eltn elt_vec zo));have HCAP:=zh ho.slice;have HON:=zh hon;clear ho hon;go_wp2_with fail
   go_ret
   refine⟨_,_,_,rfl,⟨O,HOS.out.below (by go_grown),HON.out.below (by go_grown),?_,fun hn=>?_⟩,bT hB⟩
   ·have h9:=HP.out;rw[List.take_of_length_le (by rw[HLN.out];exact Nat.le_refl _),←rise_scale HRS.out] at h9;rw[h9];exact nrm_ext fun a=>by rw[pget_scale,pget_scale,HGT.out]
   ·obtain⟨_,_,e9,h9,_⟩:=HCAP.out;cases e9;exact(h9 hn).2
theorem axpyO_q {w:World} {s s':Bool} {A A':Option Addr} {l c l' c':Nat} {q:Rat} {mq:Nat} {X Y:Option Addr} {n cx m cy M M':Nat} {P Q:List (Int×Rat)} (hy0:GV w Y m cy P M') (ha:R w s A c l s' A' c' l' q mq) (h:GV w X n cx Q M) (hM:M≤8000000000) (hM':M'≤4000000000) (hmq:mq≤4000000000) (hn:n≤1000000) (hm:m≤1000000) (hT:Hid (Tab w)) :
  Calls Tryz.prog 102 #[.slice Y m cy,.agg #[.bool s,.slice A l c,.bool s',.slice A' l' c'],.slice X n cx] w (TellsVO w (nrm (P++Q.map fun x=>(x.1,q*x.2))) (M'+(mq+M+3))):=by
 have hx:=zh h;have hy:=zh hy0;have HLX:=zh h.len;have HLY:=zh hy0.len;have hM:M≤10000000000:=zo;have hmq:mq≤10000000000:=zo;clear h hy0;obtain⟨W,hW,x0,hB⟩:=zAd w #[.bool s,.slice A l c,.bool s',.slice A' l' c'] 30;replace ha:=ha.below hB;have HX0:=zh x0;clear x0;have Bz:=zr W;obtain⟨pa0,pa1,pa2,pa3,-⟩:=(zx HX0 Bz).cz;go_enter Tryz.func102,Tryz.ntmps102
 go_wp2_with fail
 rw[←hW];clear hW;go_wp2_with fail
 (try simp only[vA,vBa,vC])
 refine zl (zza [0,2,3] (.only 1 (.only 4 (.only 5 (.take 6 .done))))) [] (zsa pa0 (zsa pa1 (zsa pa2 (zIa pa3)))) ?_;iterate 3 (refine zUa ?_;try simp only[uW,uX,uY,uZ])
 refine zC 8 rfl rfl (fun K hK=>?_);go_simp
 with_reducible refine(normV_q (hy.out.below (bT hB (bT (b:=W) Bz))) zo hm (zt hT hB Bz)).mono ?_
 rintro e w1 ⟨A1,n1,c1,rfl,h1,b1⟩;replace b1:=zq (a:=W) b1;replace ha:=ha.below b1;replace Bz:=bT Bz b1;clear b1;clear pa0 pa1 pa2 pa3;obtain⟨pa0,pa1,pa2,pa3,-⟩:=(zx HX0 Bz).cz;refine hK.out _ _ ⟨pa0,pa1,pa2,pa3⟩ (fun _=>?_);try simp only[uW,uX,uY,uZ]
 clear hK K;refine zC 11 rfl rfl (fun K hK=>?_);go_simp
 with_reducible refine(scaleV_q (R.below ha) (hx.out.below (bT hB (bT (b:=w1) Bz))) hM hmq hn (zt hT hB Bz)).mono ?_
 rintro e w2 ⟨A2,n2,c2,rfl,h2,b2⟩;replace b2:=zq (a:=w1) b2;replace h1:=h1.below b2;replace Bz:=bT Bz b2;clear b2;clear pa0 pa1 pa2 pa3;obtain⟨pa0,pa1,pa2,pa3,-⟩:=(zx HX0 Bz).cz;refine hK.out _ _ ⟨pa0,pa1,pa2,pa3⟩ (fun _=>?_);try simp only[uW,uX,uY,uZ]
 clear hK K;refine zC 12 rfl rfl (fun K hK=>?_);go_simp
 have hb2:w.heap.size≤w2.heap.size:=zi (zww hB Bz);with_reducible refine(joinO_q (NV.below h1) (NV.below h2) (nrm_nrm _) (nrm_nrm _) zo (by have:=h1.len;have:=nrm_len P;have:=HLY.out;omega) (by have:=h2.len;have:=nrm_len (Q.map fun x=>(x.1,q*x.2));have:=HLX.out;rw[List.length_map] at *;omega) (zt hT hB Bz)).mono ?_
 rintro e w3 ⟨A3,n3,c3,L3,rfl,h3,on3,ep3,b3⟩;replace b3:=zq (a:=w2) b3;replace Bz:=bT Bz b3;clear b3;clear pa0 pa1 pa2 pa3;obtain⟨pa0,pa1,pa2,pa3,-⟩:=(zx HX0 Bz).cz;refine hK.out _ _ ⟨pa0,pa1,pa2,pa3⟩ (fun _=>?_);try simp only[uW,uX,uY,uZ]
 clear hK K;refine zUa ?_;try simp only[uW,uX,uY,uZ]
 refine zAa ?_;go_wp2_with fail
 go_ret
 have hF:=bT (c:=w3) hB Bz;exact⟨_,_,_,L3,rfl,(h3.below (by go_grown)).rebase hb2,(on3.below (by go_grown)).mono fun _ _=>by omega,by rw[←nrm_app];exact ep3,bT hF⟩
def GT1 (w:World) (L:List Tm) (at_:Int) (n gk:Nat) (s:Value) (wr:World):Prop :=
 ∃(i:Nat) (sS:Bool) (sA:Option Addr) (sc sl:Nat) (sS':Bool) (sA':Option Addr) (sc' sl':Nat),i≤n∧n-i=gk∧s=.int .i64 (i:Int)∧RN wr sS sA sc sl sS' sA' sc' sl' (pget (prs (L.take i)) at_)∧Bx wr w.heap.size #[.bool false,.slice none 0 0,.bool false,.slice none 0 0] 30∧Bx wr (w.heap.size+1) #[.bool sS,.slice sA sl sc,.bool sS',.slice sA' sl' sc'] 30∧Below w.heap.size w wr
theorem get_sz {L:List Tm} {w:World} (h:OkT w L) (a:Int):sz (pget (prs L) a)≤wsum L a+1:=by
 induction L with
 | nil=>exact Nat.le_trans sz_zero (by simp[wsum])
 | cons x L ih =>
  have h1:=ih fun t ht=>h t (List.mem_cons_of_mem _ ht);have h2:=(h x List.mem_cons_self).szd;show sz (pget ((x.at_,x.x.q) :: prs L) a)≤_
  rw[zAe];unfold wsum
  split
  ·have:=sz_add h2 h1;show sz (x.x.q+pget (prs L) a)≤_
   unfold dgT
   omega
  ·omega
theorem pget_take {L:List Tm} {i:Nat} {x:Tm} (h:L[i]?=some x) (a:Int):pget (prs (L.take (i+1))) a=pget (prs (L.take i)) a+if x.at_=a then x.x.q else 0:=by
 rw[take_snoc h,prs_append];exact pget_snoc _ (x.at_,x.x.q) a
theorem getV_q {w:World} {A:Option Addr} {n c M:Nat} {P:List (Int×Rat)} (at_:Int) (h:GV w A n c P M) (hM:M≤18000000000) (hn:n≤1000000) (hT:Hid (Tab w)) :
  Calls Tryz.prog 50 #[.slice A n c,.int .i64 at_] w (TellsR w (pget P at_)):=by
 obtain⟨L,h1,h2,rfl,h4,h5⟩:=h;have HS:=zh h1;have HLN:=zh h1.1;have HOK:=zh h2;have HWS:=zh h4;clear h1 h2 h4 h5;obtain⟨W,hW,x0,x1,hB⟩:=boxes2 w #[.bool false,.slice none 0 0,.bool false,.slice none 0 0] 30 #[.bool false,.slice none 0 0,.bool false,.slice none 0 0] 30;have HX0:=zh x0;have HX1:=zh x1;clear x0 x1;have Bz:=zr W;go_enter Tryz.func50,Tryz.ntmps50
 go_wp2_with fail
 rw[←hW];clear hW;go_wp2_with fail
 have HB1:=zh (bT hB Bz);have XX0:=zh (zx HX0 Bz);have XX1:=zh (zx HX1 Bz);clear hB Bz HX0 HX1;go_loopg [10] n (fun gk s wr=>GT1 w L at_ n gk s wr)
 case atStart=>exact⟨0,_,_,_,_,_,_,_,_,Nat.zero_le _,rfl,rfl,RN.zero _,XX0.out,XX1.out,HB1.out⟩
 case round =>
  clear HB1 XX0 XX1;obtain⟨i,sS,sA,sc,sl,sS',sA',sc',sl',hi,hgk,rfl,hs,hx0,hx1,hB⟩:=hrel;have HGK:=zh hgk;have HX0:=zh hx0;have HX1:=zh hx1;clear hgk hx0 hx1;by_cases hlt:i<n
  ·obtain⟨b,off,rfl,hel⟩:=HS.out.at Tm.cs_len zo zo;obtain⟨x,hx⟩:∃x,L[i]?=some x:=⟨L[i]'(by rw[HLN.out];exact hlt),List.getElem?_eq_getElem _⟩;have hnd:=hel i x hx;have hfx:=HOK.out x (List.mem_of_getElem? hx);have hrx:R wr x.x.s x.x.A x.x.c x.x.l x.x.s' x.x.A' x.x.c' x.x.l' x.x.q (dgT x):=(hfx.below hB).r;have hdx:dgT x+2≤M:=Nat.le_trans (wsum_mem (List.mem_of_getElem? hx)) (HWS.out _);have hss:sz (pget (prs (L.take i)) at_)≤M+1:=Nat.le_trans (get_sz (fun t ht=>HOK.out t (List.mem_of_mem_take ht)) at_) (zi (Nat.le_trans (wsum_take_le L i at_) (HWS.out at_)));have hpt:=pget_take hx at_;have i1:(i:Int)<(n:Int):=zo;have i2:(0:Int)≤(i:Int):=zo;have HS1:Hid (0≤M):=zh (Nat.zero_le _);clear hel hx hfx;by_cases hq:x.at_=at_
   ·have g1:(x.at_==at_)=true:=by simpa using hq
    have HSM:Hid (pget (prs (L.take i)) at_+x.x.q=pget (prs (L.take (i+1))) at_):=zh (by rw[hpt,if_pos hq]);clear hpt hq;have Bz:=zr wr;obtain⟨pA0,pA1,pA2,pA3,pA4,-⟩:=(hnd.below (bT hB Bz)).ez;go_upto_region 5 with(fail)
    obtain⟨V1,hW,x2,hN⟩:=zAd wr #[.int .i64 x.at_,.bool x.x.s,.slice x.x.A x.x.l x.x.c,.bool x.x.s',.slice x.x.A' x.x.l' x.x.c'] 32;rw[←hW];clear hW;obtain⟨v2,hb2⟩:=ze wr.heap.size;rw[←hb2] at x2 ⊢;have o0_2:w.heap.size<v2:=zi (zx HX0 Bz).lt;have o1_2:(w.heap.size+1)<v2:=zi (zx HX1 Bz).lt;have ow_2:w.heap.size≤v2:=zi (zww hB Bz);replace hrx:=hrx.below hN;replace hs:=hs.below hN;replace hB:=bT (bT hB Bz) hN;replace HX0:=zba HX0 Bz hN;replace HX1:=zba HX1 Bz hN;have HX2:=zh x2;clear x2 hN Bz hb2;have Bz:=zr V1;clear pA0 pA1 pA2 pA3 pA4;obtain⟨pb0,pb1,pb2,pb3,-⟩:=(zx HX1 Bz).cz;obtain⟨pc0,pc1,pc2,pc3,pc4,-⟩:=(zx HX2 Bz).cz;go_wp2_with fail
    with_reducible refine(add_q (R.below hs.r) (R.below hrx) zo (zt hT hB Bz)).mono ?_
    rintro e w1 ⟨s1,A1,c1,l1,s1r,A1r,c1r,l1r,rfl,h1,b1⟩;replace b1:=zq (a:=V1) b1;replace Bz:=bT Bz b1;clear b1;clear pb0 pb1 pb2 pb3 pc0 pc1 pc2 pc3 pc4;obtain⟨pb0,pb1,pb2,pb3,-⟩:=(zx HX1 Bz).cz;have fb0:=(zx HX1 Bz).frozen 0;have fb1:=(zx HX1 Bz).frozen 1;have fb2:=(zx HX1 Bz).frozen 2;have fb3:=(zx HX1 Bz).frozen 3;have y1:=(zx HX1 Bz).lt;go_upto_region 7 with(fail)
    obtain⟨V2,hW,x,kk,far,bel⟩:=store4 (.bool s1) (.slice A1 l1 c1) (.bool s1r) (.slice A1r l1r c1r) (zx HX1 Bz) nofun nofun nofun nofun;rw[←hW];clear hW;replace h1:=h1.k kk;replace hB:=bel w.heap.size w zo (bT hB Bz);replace HX0:=zf far HX0 Bz;replace HX2:=zf far HX2 Bz;replace HX1:=zh x;clear x kk far bel Bz;have Bz:=zr V2;clear pb0 pb1 pb2 pb3 fb0 fb1 fb2 fb3 y1;go_wp2_with fail
    have hs1:=HS1.out;go_roundg (n-(i+1))
    case measure=>have:=HGK.out;omega
    case rel=>exact⟨i+1,_,_,_,_,_,_,_,_,zo,rfl,by go_num,by rw[←HSM.out];exact RN.below h1,HX0.out.below (bT Bz),HX1.out.below (bT Bz),bT (bT hB Bz)⟩
   ·have g1:(x.at_==at_)=false:=by simpa using hq
    have HSM:Hid (pget (prs (L.take i)) at_=pget (prs (L.take (i+1))) at_):=zh (by rw[hpt,if_neg hq,Rat.add_zero]);clear hpt hq;have Bz:=zr wr;obtain⟨pA0,pA1,pA2,pA3,pA4,-⟩:=(hnd.below (bT hB Bz)).ez;go_upto_region 5 with(fail)
    obtain⟨V1,hW,x2,hN⟩:=zAd wr #[.int .i64 x.at_,.bool x.x.s,.slice x.x.A x.x.l x.x.c,.bool x.x.s',.slice x.x.A' x.x.l' x.x.c'] 32;rw[←hW];clear hW;obtain⟨v2,hb2⟩:=ze wr.heap.size;rw[←hb2] at x2 ⊢;have o0_2:w.heap.size<v2:=zi (zx HX0 Bz).lt;have o1_2:(w.heap.size+1)<v2:=zi (zx HX1 Bz).lt;have ow_2:w.heap.size≤v2:=zi (zww hB Bz);replace hs:=hs.below hN;replace hB:=bT (bT hB Bz) hN;replace HX0:=zba HX0 Bz hN;replace HX1:=zba HX1 Bz hN;have HX2:=zh x2;clear x2 hN Bz hb2;have Bz:=zr V1;clear pA0 pA1 pA2 pA3 pA4;have pc0:=(zx HX2 Bz).cell 0 (.int .i64 x.at_) rfl;go_wp2_with fail
    have hs1:=HS1.out;go_roundg (n-(i+1))
    case measure=>have:=HGK.out;omega
    case rel=>exact⟨i+1,_,_,_,_,_,_,_,_,zo,rfl,by go_num,by rw[←HSM.out];exact RN.below hs,HX0.out.below (bT Bz),HX1.out.below (bT Bz),bT (bT hB Bz)⟩
  ·obtain rfl:i=n:=zo;have i1:¬(i:Int)<(i:Int):=zo;have HEND:Hid (pget (prs (L.take i)) at_=pget (prs L) at_):=zh (by rw[List.take_of_length_le (by rw[HLN.out];exact Nat.le_refl _)]);have Bz:=zr wr;obtain⟨pa0,pa1,pa2,pa3,-⟩:=(zx HX0 Bz).cz;have fa0:=(zx HX0 Bz).frozen 0;have fa1:=(zx HX0 Bz).frozen 1;have fa2:=(zx HX0 Bz).frozen 2;have fa3:=(zx HX0 Bz).frozen 3;have y0:=(zx HX0 Bz).lt;obtain⟨pb0,pb1,pb2,pb3,-⟩:=(zx HX1 Bz).cz;go_wp2_with fail
   (try simp only[Exit.inBlock,Exit.then])
   refine bodyPost_ret (by simp[results,Tryz.results50,go_sem,pa0,pa1,pa2,pa3];try rfl) rfl ?_;obtain⟨V1,hW,x,kk,far,bel⟩:=store4 (.bool sS) (.slice sA sl sc) (.bool sS') (.slice sA' sl' sc') (zx HX0 Bz) nofun nofun nofun nofun;rw[←hW];clear hW;replace hs:=hs.k kk;replace hB:=bel w.heap.size w zo (bT hB Bz);replace HX1:=zf far HX1 Bz;replace HX0:=zh x;clear x kk far bel Bz;have Bz:=zr V1;have hF:=bT (c:=V1) hB Bz;exact⟨_,_,_,_,_,_,_,_,rfl,by rw[←HEND.out];exact RN.below hs,bT hF⟩
end Go.Proofs.YtfpbmpllildbaaaGreatDoor
