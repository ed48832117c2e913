import Derived.Test.YtfpbmpllildbaaaGreatDoorYVj
import Derived.Test.YtfpbmpllildbaaaGreatDoorYSo4
set_option maxHeartbeats 8000000
set_option maxRecDepth 100000
namespace Go.Proofs.YtfpbmpllildbaaaGreatDoor
variable {M M' cx cy m:Nat} {L:List Tm} {x:Tm} {A X Y:Option Addr} {P Q:List (Int×Rat)} {q:Rat}
def wtot:List (Int×Rat)→Nat
 | []=>0
 | x :: L=>sz x.2+1+wtot L
theorem len_wtot:∀L:List (Int×Rat),L.length≤wtot L
 | []=>cA _
 | x :: L=>by
  have:=len_wtot L;show L.length+1≤sz x.2+1+wtot L
  omega
theorem wtot_pins (a:Int) (q:Rat) (L:List (Int×Rat)):wtot (pins a q L)≤sz q+1+wtot L:=by
 induction L with
 | nil =>
  unfold pins
  split
  ·exact zA _
  ·exact cA _
 | cons x L ih =>
  unfold pins
  split
  ·split
   ·omega
   ·exact cA _
  ·split
   ·split
    ·show wtot L≤sz q+1+(sz x.2+1+wtot L)
     omega
    ·show sz (q+x.2)+1+wtot L≤sz q+1+(sz x.2+1+wtot L)
     have:=sz_add (cA (sz q)) (cA (sz x.2));omega
   ·show sz x.2+1+wtot (pins a q L)≤sz q+1+(sz x.2+1+wtot L)
    omega
theorem wtot_nrm:∀L:List (Int×Rat),wtot (nrm L)≤wtot L
 | []=>cA _
 | x :: L=>by
  have h1:=wtot_pins x.1 x.2 (nrm L);have h2:=wtot_nrm L;show wtot (pins x.1 x.2 (nrm L))≤sz x.2+1+wtot L
  omega
theorem wtot_le:∀{L:List (Int×Rat)},(∀x∈L,sz x.2+1≤m)→wtot L≤L.length*m
 | [],_=>zA _
 | x :: L,h=>by
  have h1:=h x (tA ..);have h2:=wtot_le fun y hy=>h y (uA _ hy);show sz x.2+1+wtot L≤(L.length+1)*m
  rw[aC];omega
def timesP (C:List (List (Int×Rat))) (X:List (Int×Rat)):List (Int×Rat) :=
 X.flatMap fun t=>if 0≤t.1∧t.1<(C.length:Int) then(C.getD t.1.toNat []).map fun c=>(c.1,c.2*t.2) else []
theorem timesP_len {C:List (List (Int×Rat))} {k:Nat} (hC:∀c∈C,c.length≤k):∀X:List (Int×Rat),(timesP C X).length≤X.length*k
 | []=>zA _
 | t :: X=>by
  have ih:=timesP_len hC X;have e:timesP C (t :: X)=(if 0≤t.1∧t.1<(C.length:Int) then(C.getD t.1.toNat []).map fun c=>(c.1,c.2*t.2) else [])++timesP C X:=List.flatMap_cons;have hk:(if 0≤t.1∧t.1<(C.length:Int) then(C.getD t.1.toNat []).map fun c=>(c.1,c.2*t.2) else []).length≤k:=by
   split
   case isTrue h =>
    have hi:t.1.toNat<C.length:=zo;rw[nB,dA,aA hi];exact hC _ (zF hi)
   case isFalse=>exact zA _
  rw[e,gC,wC,aC];omega
theorem timesP_cons (C:List (List (Int×Rat))) (t:Int×Rat) (X:List (Int×Rat)):timesP C (t :: X)=(if 0≤t.1∧t.1<(C.length:Int) then(C.getD t.1.toNat []).map fun c=>(c.1,c.2*t.2) else [])++timesP C X:=List.flatMap_cons
theorem timesP_snoc (C:List (List (Int×Rat))) {X:List (Int×Rat)} {i:Nat} {t:Int×Rat} (h:X[i]?=some t) :
  timesP C (X.take (i+1))=timesP C (X.take i)++(if 0≤t.1∧t.1<(C.length:Int) then(C.getD t.1.toNat []).map fun c=>(c.1,c.2*t.2) else []):=by
 have e:X.take (i+1)=X.take i++[t]:=by rw[jG,h];rfl
 rw[e];unfold timesP
 rw[List.flatMap_append];congr 1
 exact wE _
open Go.RowKit Tw
theorem nrm_app (P Q:List (Int×Rat)):nrm (nrm P++nrm Q)=nrm (P++Q):=nrm_ext fun a=>by rw[pget_append,pget_append,nrm_get,nrm_get]
def TellsO (w:World) (P:List (Int×Rat)) (M n:Nat) (e:Ending) (w':World):Prop :=
 ∃A' n' c' P',e=.returned (.slice A' n' c')∧GV w' A' n' c' P' (M+1)∧Rise P'∧(∀a,pget P' a=pget P a)∧n'≤n∧Below w.heap.size w w'
def OR1 (w:World) (L:List Tm) (n gk:Nat) (s:Value) (wr:World):Prop:=∃i:Nat,i≤n∧n-i=gk∧s=.int .i64 (i:Int)∧Below w.heap.size w wr∧Rise (prs (L.take i))
theorem rise_next {k:Nat} {y:Tm} (h:Rise (prs (L.take (k+1)))) (hy:L[k]?=some y) (hx:L[k+1]?=some x) (hl:y.at_<x.at_):Rise (prs (L.take (k+1+1))):=by
 rw[take_snoc hx,zAi];refine h.snoc fun z hz=>?_;rw[take_snoc hy,zAi] at h hz;rcases sC.1 hz with hz | hz
 ·have:=(Rise.front (x:=(y.at_,y.x.q)) h).2 z hz;simp only at this ⊢
  omega
 ·obtain rfl:=qC.1 hz;exact hl
theorem ordered_q {w:World} {n c:Nat} (h:GV w A n c P M) (hM:M≤19000000000) (hn:n≤1000000) (hT:Hid (Tab w)) :
  Calls Tryz.prog 97 #[.slice A n c] w (TellsO w P M n):=by
 have hg:=zh h;obtain⟨L,h1,h2,rfl,h4,h5⟩:=h;have HS:=zh h1;have HLN:=zh h1.1;clear h1 h2 h4 h5;go_enter Tryz.func97,Tryz.ntmps97
 go_wp2_with fail
 go_loopg [6] n (fun gk s wr=>OR1 w L n gk s wr)
 case atStart=>exact⟨0,zA _,rfl,rfl,Below.refl _ _,List.Pairwise.nil⟩
 case round =>
  obtain⟨i,hi,hgk,rfl,hB,hr⟩:=hrel;have HGK:=zh hgk;clear hgk;by_cases hlt:i<n
  ·obtain⟨b,off,rfl,hel⟩:=HS.out.at Tm.cs_len zo zo;obtain⟨x,hx⟩:∃x,L[i]?=some x:=⟨L[i]'(by rw[HLN.out];exact hlt),aA _⟩;have hnd:=hel i x hx;cases i with
   | zero =>
    have HR2:Hid (Rise (prs (L.take (0+1)))):=zh (by rw[take_snoc hx];exact List.pairwise_singleton _ _);have i1:(0:Int)<(n:Int):=zo;clear hx hel hr;have Bz:=zr wr;go_wp2_with fail
    (try simp only[vA,vBa,vC])
    refine zl (zza [0,1,2,3,4,5,6,7,8,9,10,11,12,13,14,15] .done) [] zn ?_;iterate 3 (refine zUa ?_;try simp only[uW,uX,uY,uZ])
    iterate 12 (refine zN rfl rfl ?_;try simp only[uW,uX,uY,uZ])
    refine zUa ?_;try simp only[uW,uX,uY,uZ]
    refine zAa ?_;go_wp2_with fail
    go_roundg (n-(0+1))
    case measure=>have:=HGK.out;omega
    case rel=>exact⟨0+1,zo,rfl,by go_num,bT (bT hB Bz),HR2.out⟩
   | succ k =>
    obtain⟨y,hy⟩:∃y,L[k]?=some y:=⟨L[k]'(by rw[HLN.out];omega),aA _⟩;have hnd':=hel k y hy;have i1:(k:Int)+1<(n:Int):=zo;have i2:(0:Int)≤(k:Int)+1:=zo;have i3:(0:Int)≤(k:Int):=zo;have i4:(k:Int)<(n:Int):=zo;have i5:(0:Int)<(k:Int)+1:=zo;have w6:IntKind.i64.wrap ((k:Int)+1-1)=(k:Int):=by rw[IntWalk.i64_in _ zo];omega
    have w7:IntKind.i64.wrap (k:Int)=(k:Int):=IntWalk.i64_in _ zo;by_cases hl:y.at_<x.at_
    ·have HR2:=zh (rise_next hr hy hx hl);have g1:¬x.at_≤y.at_:=zo;clear hx hy hel hr hl;have Bz:=zr wr;have pA0:=(hnd.below (bT hB Bz)).c0 (u:=.int .i64 x.at_) rfl;have pB0:=(hnd'.below (bT hB Bz)).c0 (u:=.int .i64 y.at_) rfl;go_wp2_with fail
     (try simp only[vA,vBa,vC])
     refine zl (zza [0,1,2,3,4,5,6,7,8,9,10,11,12,13,14,15] .done) [] (zsa pA0 (zIa pB0)) ?_;iterate 16 (refine zUa ?_;try simp only[uW,uX,uY,uZ])
     refine zAa ?_;go_wp2_with fail
     go_roundg (n-(k+1+1))
     case measure=>have:=HGK.out;omega
     case rel=>exact⟨k+1+1,zo,rfl,by go_num,bT (bT hB Bz),HR2.out⟩
    ·have g1:x.at_≤y.at_:=zo;clear hx hy hel hr hl;have Bz:=zr wr;have pA0:=(hnd.below (bT hB Bz)).c0 (u:=.int .i64 x.at_) rfl;have pB0:=(hnd'.below (bT hB Bz)).c0 (u:=.int .i64 y.at_) rfl;go_wp2_with fail
     (try simp only[vA,vBa,vC])
     refine zl (zza [0,1,2,3,4,5,6,7,8,9,10,11,12,13,14,15] .done) [] (zsa pA0 (zIa pB0)) ?_;iterate 16 (refine zUa ?_;try simp only[uW,uX,uY,uZ])
     refine zAa ?_;go_wp2_with fail
     with_reducible refine(normV_q (hg.out.below (bT hB (bT (b:=wr) Bz))) hM hn (zt hT hB Bz)).mono ?_
     rintro e w1 ⟨A1,n1,c1,rfl,h1,q⟩;replace q:=zq (a:=wr) q;replace Bz:=bT Bz q;clear q;clear pA0 pB0;go_wp2_with fail
     go_ret
     have hF:=bT (c:=w1) hB Bz;have hF2:=h1.len;exact⟨A1,n1,c1,nrm (prs L),rfl,(NV.below h1).gv (nrm_nrm _).rise,(nrm_nrm _).rise,nrm_get _,by have:=nrm_len (prs L);have:=HLN.out;rw[zAh] at *;omega,bT (bT hB Bz)⟩
  ·obtain rfl:i=n:=zo;have i1:¬(i:Int)<(i:Int):=zo;rw[qA (by rw[HLN.out];exact cA _)] at hr;have HR:=zh hr;clear hr;go_wp2_with fail
   go_ret
   exact⟨A,i,c,prs L,rfl,(hg.out.below hB).mono (Nat.le_succ _),HR.out,fun _=>rfl,cA _,hB⟩
def JN1 (w:World) (P Q:List (Int×Rat)) (n m MM gk:Nat) (s5 s6 s7:Value) (wr:World):Prop :=
 ∃(i j k:Nat) (H:Option Addr) (hc:Nat) (O:List Tm),s5=.slice H k hc∧s6=.int .i64 (i:Int)∧s7=.int .i64 (j:Int)∧i≤n∧j≤m∧n-i+(m-j)≤gk∧k≤i+j∧
  OwnR wr w.heap.size 32 5 (.slice H k hc) k (flat Tm.cs O)∧Joined (prs O) P Q i j∧OnT wr O (fun _=>MM)∧Below w.heap.size w wr
theorem add_wrap {n:Nat} (hn:n≤1000000) (hm:m≤1000000):IntKind.i64.wrap ((n:Int)+(m:Int))=((n+m:Nat):Int):=by rw[IntWalk.i64_in _ zo];omega
theorem joinO_q {w:World} {n:Nat} (h:NV w X n cx P M) (h':NV w Y m cy Q M') (hP:Nrm P) (hQ:Nrm Q) (hM:M+M'≤18000000000) (hn:n≤1000000) (hm:m≤1000000) (hT:Hid (Tab w)) :
  Calls Tryz.prog 143 #[.slice X n cx,.slice Y m cy] w (TellsVO w (nrm (P++Q)) (M+M')):=by
 obtain⟨LX,x1,x2,rfl,x4⟩:=h;obtain⟨LY,y1,y2,rfl,y4⟩:=h';have HSX:=zh x1;have HLX:=zh x1.1;have HNX:=zh x2;have HSY:=zh y1;have HLY:=zh y1.1;have HNY:=zh y2;have HPX:=zh hP;have HPY:=zh hQ;have w0:=add_wrap hn hm;clear x1 x2 x4 y1 y2 y4 hP hQ;go_enter Tryz.func143,Tryz.ntmps143
 go_wp2_with (at_make;refine And.left (b:=True) ?_)
 refine⟨?_,trivial⟩;refine Elt.make elt_vec rfl _ _ rfl .i64 .i64 _ (n+m) rfl rfl (by first | rfl | (push_cast;rfl) | omega) zo w.heap.size (cA _) ?_;intro g0 w1 ho1 hB1 hg0;have HO1:=zh ho1;have HB1:=zh hB1;clear ho1 hB1 hg0;go_wp2_with fail
 go_loopg [5,6,7] (n+m) (fun gk s5 s6 s7 wr=>JN1 w (prs LX) (prs LY) n m (M+M') gk s5 s6 s7 wr)
 case atStart=>exact⟨0,0,0,_,_,[],rfl,rfl,rfl,zA _,zA _,cA _,cA _,HO1.out.below (by go_grown),Joined.start _ _,OnT.nil _ _,bT HB1.out⟩
 case round =>
  clear HO1 HB1 w0;obtain⟨i,j,k,H,hc,O,rfl,rfl,rfl,hi,hj,hgk,hk,ho,hjo,hon,hB⟩:=hrel;have HJO:=zh hjo;have i2:(0:Int)≤(i:Int):=zo;have j2:(0:Int)≤(j:Int):=zo;by_cases hin:i<n
  ·obtain⟨bx,ox,rfl,hel⟩:=HSX.out.at Tm.cs_len zo zo;obtain⟨x,hx⟩:∃x,LX[i]?=some x:=⟨LX[i]'(by rw[HLX.out];exact hin),aA _⟩;have hnd:=hel i x hx;have hxn:=HNX.out x (eA hx);have hnx:=hxn.1.below hB;have hrx:=hnx.r;have hxs:sz x.x.q+1≤M:=hxn.2.2;have hpx:=prs_get hx;have i1:(i:Int)<(n:Int):=zo;have i3:((i:Int)==(n:Int))=false:=by rw[beq_eq_false_iff_ne];omega
   clear hel hx;by_cases hjm:j<m
   ·obtain⟨by_,oy,rfl,hel'⟩:=HSY.out.at Tm.cs_len zo zo;obtain⟨y,hy⟩:∃y,LY[j]?=some y:=⟨LY[j]'(by rw[HLY.out];exact hjm),aA _⟩;have hnd':=hel' j y hy;have hyn:=HNY.out y (eA hy);have hny:=hyn.1.below hB;have hry:=hny.r;have hys:sz y.x.q+1≤M':=hyn.2.2;have hpy:=prs_get hy;have j1:(j:Int)<(m:Int):=zo;have j3:((j:Int)==(m:Int))=false:=by rw[beq_eq_false_iff_ne];omega
    clear hel' hy;by_cases hxy:x.at_<y.at_
    ·have HJ2:Hid (Joined (prs (O++[x])) (prs LX) (prs LY) (i+1) j):=zh (by rw[zAi];exact HJO.out.left HPX.out hpx (HPY.out.rise.behind hpy hxy));have HS1:Hid (sz x.x.q+1≤M+M'):=zh zo;have HEX:=zh hxn.2.1;have g1:x.at_<y.at_:=hxy;clear hxy hxn hyn hpx hpy hjo;have Bz:=zr wr;obtain⟨pA0,pA1,pA2,pA3,pA4,-⟩:=(hnd.below (bT hB Bz)).ez;have pB0:=(hnd'.below (bT hB Bz)).c0 (u:=.int .i64 y.at_) rfl;go_wp2_with fail
     (try simp only[vA,vBa,vC])
     refine zl (zza [0,1,2,3,4,5,6,7,8,9,10,11,12,13,14,15,16,17,18,19,20,21,22,23] .done) [] (zsa pA0 (zIa pB0)) ?_;iterate 24 (refine zUa ?_;try simp only[uW,uX,uY,uZ])
     refine zAa ?_;go_wp2_with (at_builtin;refine And.left (b:=True) ?_)
     refine⟨?_,trivial⟩;obtain⟨V1,hW,x0,hN⟩:=zAd wr #[.int .i64 x.at_,.bool x.x.s,.slice x.x.A x.x.l x.x.c,.bool x.x.s',.slice x.x.A' x.x.l' x.x.c'] 32;rw[←hW];clear hW;obtain⟨v0,hb0⟩:=ze wr.heap.size;rw[←hb0] at x0 ⊢;have ow_0:w.heap.size≤v0:=zi (zww hB Bz);have nv0_own:=OwnR.off' (b:=v0) ho zo;replace hnx:=hnx.below hN;replace hon:=hon.below hN;replace ho:=ho.below hN;replace hB:=bT (bT hB Bz) hN;have HX0:=zh x0;clear x0 hN Bz hb0;have Bz:=zr V1;clear pA0 pA1 pA2 pA3 pA4 pB0;have hdr:V1.drew.heap.size=V1.heap.size:=rfl;have hdr2:V1.drew.drew.heap.size=V1.heap.size:=rfl;refine Elt.app elt_vec rfl _ _ rfl (w.heap.size) (.slice H k hc) (k) (O) rfl ho (.slice (some ⟨v0,0,none⟩) 1 1) (1) ([x]) rfl (From.one (HX0.out.below (bT Bz)) (x) rfl (elt_vec.len _)) zo (zi (zww hB Bz)) ?_;intro H1 c1 w1 ho1 hg1;replace hB:=(bT (bT hB Bz)).trans (hg1.below (zi (zww hB Bz)) (fun g hg=>by have:=ho.base g hg;omega));clear HX0;clear hdr hdr2;replace hnx:=hnx.k hg1.k;replace hon:=hon.k hg1.k;clear hg1 Bz;have Bz:=zr w1;go_wp2_with fail
     have hs1:=HS1.out;go_roundg (n-(i+1)+(m-(j)))
     case measure=>omega
     case rel=>exact⟨i+1,j,k+1,_,_,_,rfl,by go_num,rfl,zo,zo,cA _,zo,OwnR.below ho1,HJ2.out,(OnT.below hon).snoc (RN.below hnx) HEX.out hs1,bT (bT hB Bz)⟩
    ·have g1:¬x.at_<y.at_:=hxy;by_cases hyx:y.at_<x.at_
     ·have HJ2:Hid (Joined (prs (O++[y])) (prs LX) (prs LY) i (j+1)):=zh (by rw[zAi];exact HJO.out.right HPY.out hpy (HPX.out.rise.behind hpx hyx));have HS1:Hid (sz y.x.q+1≤M+M'):=zh zo;have HEX:=zh hyn.2.1;have g2:y.at_<x.at_:=hyx;clear hxy hyx hxn hyn hpx hpy hjo;have Bz:=zr wr;have pA0:=(hnd.below (bT hB Bz)).c0 (u:=.int .i64 x.at_) rfl;obtain⟨pB0,pB1,pB2,pB3,pB4,-⟩:=(hnd'.below (bT hB Bz)).ez;go_wp2_with fail
      (try simp only[vA,vBa,vC])
      refine zl (zza [0,1,2,3,4,5,6,7,8,9,10,11,12,13,14,15,16,17,18,19,20,21,22,23] .done) [] (zsa pA0 (zIa pB0)) ?_;iterate 24 (refine zUa ?_;try simp only[uW,uX,uY,uZ])
      refine zAa ?_;go_wp2_with fail
      (try simp only[vA,vBa,vC])
      refine zl (zza [0,1,2,3,4,5,6,7,8,9,10,11,12,13,14,15,16,17] .done) [] (zsa pA0 (zIa pB0)) ?_;iterate 18 (refine zUa ?_;try simp only[uW,uX,uY,uZ])
      refine zAa ?_;go_wp2_with (at_builtin;refine And.left (b:=True) ?_)
      refine⟨?_,trivial⟩;obtain⟨V1,hW,x0,hN⟩:=zAd wr #[.int .i64 y.at_,.bool y.x.s,.slice y.x.A y.x.l y.x.c,.bool y.x.s',.slice y.x.A' y.x.l' y.x.c'] 32;rw[←hW];clear hW;obtain⟨v0,hb0⟩:=ze wr.heap.size;rw[←hb0] at x0 ⊢;have ow_0:w.heap.size≤v0:=zi (zww hB Bz);have nv0_own:=OwnR.off' (b:=v0) ho zo;replace hny:=hny.below hN;replace hon:=hon.below hN;replace ho:=ho.below hN;replace hB:=bT (bT hB Bz) hN;have HX0:=zh x0;clear x0 hN Bz hb0;have Bz:=zr V1;clear pA0 pB0 pB1 pB2 pB3 pB4;have hdr:V1.drew.heap.size=V1.heap.size:=rfl;have hdr2:V1.drew.drew.heap.size=V1.heap.size:=rfl;refine Elt.app elt_vec rfl _ _ rfl (w.heap.size) (.slice H k hc) (k) (O) rfl ho (.slice (some ⟨v0,0,none⟩) 1 1) (1) ([y]) rfl (From.one (HX0.out.below (bT Bz)) (y) rfl (elt_vec.len _)) zo (zi (zww hB Bz)) ?_;intro H1 c1 w1 ho1 hg1;replace hB:=(bT (bT hB Bz)).trans (hg1.below (zi (zww hB Bz)) (fun g hg=>by have:=ho.base g hg;omega));clear HX0;clear hdr hdr2;replace hny:=hny.k hg1.k;replace hon:=hon.k hg1.k;clear hg1 Bz;have Bz:=zr w1;go_wp2_with fail
      have hs1:=HS1.out;go_roundg (n-(i)+(m-(j+1)))
      case measure=>omega
      case rel=>exact⟨i,j+1,k+1,_,_,_,rfl,rfl,by go_num,zo,zo,cA _,zo,OwnR.below ho1,HJ2.out,(OnT.below hon).snoc (RN.below hny) HEX.out hs1,bT (bT hB Bz)⟩
     ·have g2:¬y.at_<x.at_:=hyx;have hb:=HJO.out.both HPX.out HPY.out hpx hpy (show x.at_=y.at_ by omega);have hsz:=sz_add (cA (sz x.x.q)) (cA (sz y.x.q));obtain⟨z,HZ⟩:∃z,Hid ((x.x.q+y.x.q).num.sign=z):=⟨_,zh rfl⟩;have hz0:(z==0)=decide (x.x.q+y.x.q=0):=by rw[←HZ.out,num_sign]
      by_cases hs0:x.x.q+y.x.q=0
      ·have g3:(z != 0)=false:=by rw[fA hs0] at hz0;unfold bne;rw[hz0];rfl
       have HJ2:Hid (Joined (prs O) (prs LX) (prs LY) (i+1) (j+1)):=zh (hb.1 hs0);have HS1:Hid (0≤M+M'):=zh (zA _);clear hxy hyx hxn hyn hpx hpy hjo hb hz0 hs0;have Bz:=zr wr;obtain⟨pA0,pA1,pA2,pA3,pA4,-⟩:=(hnd.below (bT hB Bz)).ez;obtain⟨pB0,pB1,pB2,pB3,pB4,-⟩:=(hnd'.below (bT hB Bz)).ez;go_wp2_with fail
       (try simp only[vA,vBa,vC])
       refine zl (zza [0,1,2,3,4,5,6,7,8,9,10,11,12,13,14,15,16,17,18,19,20,21,22,23] .done) [] (zsa pA0 (zIa pB0)) ?_;iterate 24 (refine zUa ?_;try simp only[uW,uX,uY,uZ])
       refine zAa ?_;go_wp2_with fail
       (try simp only[vA,vBa,vC])
       refine zl (zza [0,1,2,3,4,5,6,7,8,9,10,11,12,13,14,15,16,17] .done) [] (zsa pA0 (zIa pB0)) ?_;iterate 18 (refine zUa ?_;try simp only[uW,uX,uY,uZ])
       refine zAa ?_;go_wp2_with fail
       (try simp only[vA,vBa,vC])
       refine zl (.pure 0 (.pure 1 (.pure 2 (.pure 3 (.take 4 (.pure 5 (.pure 6 (.pure 7 (.pure 8 (.take 9 (.two 10 (.only 11 (.only 12 .done)) 11 (.only 10 (.only 12 .done))))))))))))) [12] (zsa pA1 (zsa pA2 (zsa pA3 (zsa pA4 (zsa pB1 (zsa pB2 (zsa pB3 (zIa pB4)))))))) ?_;iterate 10 ((first|refine zV ?_|refine zUa ?_);try simp only[uW,uX,uY,uZ])
       refine wpPlan_two (o:=⟨some 35,_,_,_,_,_⟩) (o':=⟨some 8,_,_,_,_,_⟩) rfl rfl rfl rfl (fun K hK=>?_) (fun K hK=>?_)
       ·go_simp
        with_reducible refine(add_q (R.below hrx) (R.below hry) zo (zt hT hB Bz)).mono ?_
        rintro e w1 ⟨s1,A1,c1,l1,s1r,A1r,c1r,l1r,rfl,h1,J⟩;replace J:=zq (a:=wr) J;replace hon:=hon.below J;replace ho:=ho.below J;replace Bz:=bT Bz J;clear J;clear pA0 pA1 pA2 pA3 pA4 pB0 pB1 pB2 pB3 pB4;obtain⟨-,pA1,pA2,pA3,pA4,-⟩:=(hnd.below (bT hB Bz)).ez;obtain⟨-,pB1,pB2,pB3,pB4,-⟩:=(hnd'.below (bT hB Bz)).ez;refine hK.out _ _ ⟨pA1,pA2,pA3,pA4,pB1,pB2,pB3,pB4⟩ (fun _=>?_);try simp only[uW,uX,uY,uZ]
        clear hK K;refine zC 8 rfl rfl (fun K hK=>?_);go_simp
        refine hK.out _ _ ⟨(zAc pA1),(zAc pA2),(zAc pA3),(zAc pA4),(zAc pB1),(zAc pB2),(zAc pB3),(zAc pB4)⟩ (fun _=>?_);try simp only[uW,uX,uY,uZ]
        clear hK K;refine zAb (o:=⟨none,_,_,_,_,_⟩) rfl rfl zd (fun K hK=>?_);go_simp
        refine hK.out _ _ ?_;try simp only[Act.put,uX,uY,uZ]
        clear hK K;refine zAa ?_;obtain⟨V1,hW,x0,hN⟩:=zAd w1 #[.bool s1,.slice A1 l1 c1,.bool s1r,.slice A1r l1r c1r] 30;rw[←hW];clear hW;obtain⟨v0,hb0⟩:=ze w1.heap.size;rw[←hb0] at x0 ⊢;have ow_0:w.heap.size≤v0:=zi (zww hB Bz);have nv0_own:=OwnR.off' (b:=v0) ho zo;replace h1:=h1.below hN;replace hon:=hon.below hN;replace ho:=ho.below hN;replace hB:=bT (bT hB Bz) hN;have HX0:=zh x0;clear x0 hN Bz hb0;have Bz:=zr V1;clear pA1 pA2 pA3 pA4 pB1 pB2 pB3 pB4;obtain⟨pa0,pa1,pa2,pa3,-⟩:=(zx HX0 Bz).cz;go_wp2_with fail
        with_reducible refine(sign_q (R.below h1.r) zo z HZ).mono ?_
        rintro e w2 ⟨rfl,J⟩;replace J:=zq (a:=V1) J;replace hon:=hon.below J;replace ho:=ho.below J;replace Bz:=bT Bz J;clear J;clear pa0 pa1 pa2 pa3;go_wp2_with fail
        have hs1:=HS1.out;go_roundg (n-(i+1)+(m-(j+1)))
        case measure=>omega
        case rel=>exact⟨i+1,j+1,k,_,_,_,rfl,by go_num,by go_num,zo,zo,cA _,zo,OwnR.below ho,HJ2.out,OnT.below hon,bT (bT hB Bz)⟩
       ·go_simp
        refine hK.out _ _ ⟨(zAc pA1),(zAc pA2),(zAc pA3),(zAc pA4),(zAc pB1),(zAc pB2),(zAc pB3),(zAc pB4)⟩ (fun _=>?_);try simp only[uW,uX,uY,uZ]
        clear hK K;refine zC 35 rfl rfl (fun K hK=>?_);go_simp
        obtain⟨V1,hW,x0,hN⟩:=zAd wr #[.bool false,.slice none 0 0,.bool false,.slice none 0 0] 30;rw[←hW];clear hW;obtain⟨v0,hb0⟩:=ze wr.heap.size;rw[←hb0] at x0 ⊢;have ow_0:w.heap.size≤v0:=zi (zww hB Bz);have nv0_own:=OwnR.off' (b:=v0) ho zo;replace hon:=hon.below hN;replace ho:=ho.below hN;replace hrx:=hrx.below hN;replace hry:=hry.below hN;replace hB:=bT (bT hB Bz) hN;have HX0:=zh x0;clear x0 hN Bz hb0;have Bz:=zr V1;clear pA0 pA1 pA2 pA3 pA4 pB0 pB1 pB2 pB3 pB4;with_reducible refine(add_q (R.below hrx) (R.below hry) zo (zt hT hB Bz)).mono ?_
        rintro e w1 ⟨s1,A1,c1,l1,s1r,A1r,c1r,l1r,rfl,h1,J⟩;replace J:=zq (a:=V1) J;replace hon:=hon.below J;replace ho:=ho.below J;replace Bz:=bT Bz J;clear J;obtain⟨pa0,pa1,pa2,pa3,-⟩:=(zx HX0 Bz).cz;obtain⟨y0,fa0,fa1,fa2,fa3,-⟩:=(zx HX0 Bz).fz;obtain⟨-,pA1,pA2,pA3,pA4,-⟩:=(hnd.below (bT hB Bz)).ez;obtain⟨-,pB1,pB2,pB3,pB4,-⟩:=(hnd'.below (bT hB Bz)).ez;refine hK.out _ _ ⟨pA1,pA2,pA3,pA4,pB1,pB2,pB3,pB4⟩ (fun _=>?_);try simp only[uW,uX,uY,uZ]
        clear hK K;refine zAb (o:=⟨none,_,_,_,_,_⟩) rfl rfl zd (fun K hK=>?_);go_simp
        refine hK.out _ _ ?_;try simp only[Act.put,uX,uY,uZ]
        clear hK K;refine zAa ?_;obtain⟨V2,hW,x,kk,far,bel⟩:=store4 (.bool s1) (.slice A1 l1 c1) (.bool s1r) (.slice A1r l1r c1r) (zx HX0 Bz) nofun nofun nofun nofun;rw[←hW];clear hW;replace h1:=h1.k kk;replace hon:=hon.k kk;replace ho:=ho.far2 far nv0_own;replace hB:=bel w.heap.size w zo (bT hB Bz);replace HX0:=zh x;clear x kk far bel Bz;have Bz:=zr V2;clear pa0 pa1 pa2 pa3 fa0 fa1 fa2 fa3 y0 pA1 pA2 pA3 pA4 pB1 pB2 pB3 pB4;obtain⟨pa0,pa1,pa2,pa3,-⟩:=(zx HX0 Bz).cz;go_wp2_with fail
        with_reducible refine(sign_q (R.below h1.r) zo z HZ).mono ?_
        rintro e w2 ⟨rfl,J⟩;replace J:=zq (a:=V2) J;replace hon:=hon.below J;replace ho:=ho.below J;replace Bz:=bT Bz J;clear J;clear pa0 pa1 pa2 pa3;go_wp2_with fail
        have hs1:=HS1.out;go_roundg (n-(i+1)+(m-(j+1)))
        case measure=>omega
        case rel=>exact⟨i+1,j+1,k,_,_,_,rfl,by go_num,by go_num,zo,zo,cA _,zo,OwnR.below ho,HJ2.out,OnT.below hon,bT (bT hB Bz)⟩
      ·have g3:(z != 0)=true:=by rw[jA hs0] at hz0;unfold bne;rw[hz0];rfl
       have HJ2:Hid (∀r:Fr,r.q=x.x.q+y.x.q→Joined (prs (O++[⟨x.at_,r⟩])) (prs LX) (prs LY) (i+1) (j+1)):=zh (fun r hr=>by rw[zAi,show prs [(⟨x.at_,r⟩:Tm)]=[(x.at_,x.x.q+y.x.q)] from by rw[←hr];rfl];exact hb.2 hs0);have HS1:Hid (sz (x.x.q+y.x.q)+1≤M+M'):=zh zo;clear hxy hyx hxn hyn hpx hpy hjo hb hz0 hs0;have Bz:=zr wr;obtain⟨pA0,pA1,pA2,pA3,pA4,-⟩:=(hnd.below (bT hB Bz)).ez;obtain⟨pB0,pB1,pB2,pB3,pB4,-⟩:=(hnd'.below (bT hB Bz)).ez;go_wp2_with fail
       (try simp only[vA,vBa,vC])
       refine zl (zza [0,1,2,3,4,5,6,7,8,9,10,11,12,13,14,15,16,17,18,19,20,21,22,23] .done) [] (zsa pA0 (zIa pB0)) ?_;iterate 24 (refine zUa ?_;try simp only[uW,uX,uY,uZ])
       refine zAa ?_;go_wp2_with fail
       (try simp only[vA,vBa,vC])
       refine zl (zza [0,1,2,3,4,5,6,7,8,9,10,11,12,13,14,15,16,17] .done) [] (zsa pA0 (zIa pB0)) ?_;iterate 18 (refine zUa ?_;try simp only[uW,uX,uY,uZ])
       refine zAa ?_;go_wp2_with fail
       (try simp only[vA,vBa,vC])
       refine zl (.pure 0 (.pure 1 (.pure 2 (.pure 3 (.take 4 (.pure 5 (.pure 6 (.pure 7 (.pure 8 (.take 9 (.two 10 (.only 11 (.only 12 .done)) 11 (.only 10 (.only 12 .done))))))))))))) [12] (zsa pA1 (zsa pA2 (zsa pA3 (zsa pA4 (zsa pB1 (zsa pB2 (zsa pB3 (zIa pB4)))))))) ?_;iterate 10 ((first|refine zV ?_|refine zUa ?_);try simp only[uW,uX,uY,uZ])
       refine wpPlan_two (o:=⟨some 35,_,_,_,_,_⟩) (o':=⟨some 8,_,_,_,_,_⟩) rfl rfl rfl rfl (fun K hK=>?_) (fun K hK=>?_)
       ·go_simp
        with_reducible refine(add_q (R.below hrx) (R.below hry) zo (zt hT hB Bz)).mono ?_
        rintro e w1 ⟨s1,A1,c1,l1,s1r,A1r,c1r,l1r,rfl,h1,J⟩;replace J:=zq (a:=wr) J;replace hon:=hon.below J;replace ho:=ho.below J;replace Bz:=bT Bz J;clear J;clear pA0 pA1 pA2 pA3 pA4 pB0 pB1 pB2 pB3 pB4;obtain⟨-,pA1,pA2,pA3,pA4,-⟩:=(hnd.below (bT hB Bz)).ez;obtain⟨-,pB1,pB2,pB3,pB4,-⟩:=(hnd'.below (bT hB Bz)).ez;refine hK.out _ _ ⟨pA1,pA2,pA3,pA4,pB1,pB2,pB3,pB4⟩ (fun _=>?_);try simp only[uW,uX,uY,uZ]
        clear hK K;refine zC 8 rfl rfl (fun K hK=>?_);go_simp
        refine hK.out _ _ ⟨(zAc pA1),(zAc pA2),(zAc pA3),(zAc pA4),(zAc pB1),(zAc pB2),(zAc pB3),(zAc pB4)⟩ (fun _=>?_);try simp only[uW,uX,uY,uZ]
        clear hK K;refine zAb (o:=⟨none,_,_,_,_,_⟩) rfl rfl zd (fun K hK=>?_);go_simp
        refine hK.out _ _ ?_;try simp only[Act.put,uX,uY,uZ]
        clear hK K;refine zAa ?_;obtain⟨V1,hW,x0,hN⟩:=zAd w1 #[.bool s1,.slice A1 l1 c1,.bool s1r,.slice A1r l1r c1r] 30;rw[←hW];clear hW;obtain⟨v0,hb0⟩:=ze w1.heap.size;rw[←hb0] at x0 ⊢;have ow_0:w.heap.size≤v0:=zi (zww hB Bz);have nv0_own:=OwnR.off' (b:=v0) ho zo;replace h1:=h1.below hN;replace hon:=hon.below hN;replace ho:=ho.below hN;replace hB:=bT (bT hB Bz) hN;have HX0:=zh x0;clear x0 hN Bz hb0;have Bz:=zr V1;clear pA1 pA2 pA3 pA4 pB1 pB2 pB3 pB4;obtain⟨pa0,pa1,pa2,pa3,-⟩:=(zx HX0 Bz).cz;go_wp2_with fail
        with_reducible refine(sign_q (R.below h1.r) zo z HZ).mono ?_
        rintro e w2 ⟨rfl,J⟩;replace J:=zq (a:=V1) J;replace h1:=h1.below J;replace hon:=hon.below J;replace ho:=ho.below J;replace Bz:=bT Bz J;clear J;clear pa0 pa1 pa2 pa3;obtain⟨pa0,pa1,pa2,pa3,-⟩:=(zx HX0 Bz).cz;have pA0:=(hnd.below (bT hB Bz)).c0 (u:=.int .i64 x.at_) rfl;go_wp2_with fail
        (try simp only[vA,vBa,vC])
        refine zl (.pure 0 (.pure 1 (.pure 2 (.pure 3 (.pure 4 (zza [5,6] (.pure 7 (.only 8 (.only 9 (.pure 10 .done)))))))))) [9] (zsa pa0 (zsa pa1 (zsa pa2 (zsa pa3 (zIa pA0))))) ?_;iterate 8 ((first|refine zV ?_|refine zUa ?_);try simp only[uW,uX,uY,uZ])
        refine zC 47 rfl rfl (fun K hK=>?_);go_simp
        refine hK.out _ _ ⟨(zAc pa0),(zAc pa1),(zAc pa2),(zAc pa3),(zAc pA0)⟩ (fun _=>?_);try simp only[uW,uX,uY,uZ]
        clear hK K;refine zAb (o:=⟨some 48,_,_,_,_,_⟩) rfl rfl zd (fun K hK=>?_);obtain⟨V2,hW,x1,hN⟩:=zAd w2 #[.int .i64 x.at_,.bool s1,.slice A1 l1 c1,.bool s1r,.slice A1r l1r c1r] 32;rw[←hW];clear hW;obtain⟨v1,hb1⟩:=ze w2.heap.size;rw[←hb1] at x1 ⊢;have o0_1:v0<v1:=zi (zx HX0 Bz).lt;have ow_1:w.heap.size≤v1:=zi (zww hB Bz);have nv1_own:=OwnR.off' (b:=v1) ho zo;replace h1:=h1.below hN;replace hon:=hon.below hN;replace ho:=ho.below hN;replace hB:=bT (bT hB Bz) hN;replace HX0:=zba HX0 Bz hN;have HX1:=zh x1;clear x1 hN Bz hb1;have Bz:=zr V2;clear pa0 pa1 pa2 pa3 pA0;have hdr:V2.drew.heap.size=V2.heap.size:=rfl;have hdr2:V2.drew.drew.heap.size=V2.heap.size:=rfl;refine Elt.wp elt_vec _ _ rfl (w.heap.size) (.slice H k hc) (k) (O) rfl ho (.slice (some ⟨v1,0,none⟩) 1 1) (1) ([⟨x.at_,⟨s1,A1,c1,l1,s1r,A1r,c1r,l1r,x.x.q+y.x.q,true⟩⟩]) rfl (From.one (HX1.out.below (bT Bz)) (⟨x.at_,⟨s1,A1,c1,l1,s1r,A1r,c1r,l1r,x.x.q+y.x.q,true⟩⟩) rfl (elt_vec.len _)) zo (zi (zww hB Bz)) ?_;intro H3 c3 w3 ho3 hg3;refine hK.out _ _ ?_;try simp only[uW,uX,uY,uZ]
        clear hK K;replace hB:=(bT (bT hB Bz)).trans (hg3.below (zi (zww hB Bz)) (fun g hg=>by have:=ho.base g hg;omega));clear HX0;clear HX1;clear hdr hdr2;replace h1:=h1.k hg3.k;replace hon:=hon.k hg3.k;clear hg3 Bz;have Bz:=zr w3;have pA0:=(hnd.below (bT hB Bz)).c0 (u:=.int .i64 x.at_) rfl;refine zV ?_;try simp only[uW,uX,uY,uZ]
        refine zAa ?_;go_wp2_with fail
        have hs1:=HS1.out;go_roundg (n-(i+1)+(m-(j+1)))
        case measure=>omega
        case rel=>exact⟨i+1,j+1,k+1,_,_,_,rfl,by go_num,by go_num,zo,zo,cA _,zo,OwnR.below ho3,HJ2.out _ rfl,(OnT.below hon).snoc (RN.below h1) rfl hs1,bT (bT hB Bz)⟩
       ·go_simp
        refine hK.out _ _ ⟨(zAc pA1),(zAc pA2),(zAc pA3),(zAc pA4),(zAc pB1),(zAc pB2),(zAc pB3),(zAc pB4)⟩ (fun _=>?_);try simp only[uW,uX,uY,uZ]
        clear hK K;refine zC 35 rfl rfl (fun K hK=>?_);go_simp
        obtain⟨V1,hW,x0,hN⟩:=zAd wr #[.bool false,.slice none 0 0,.bool false,.slice none 0 0] 30;rw[←hW];clear hW;obtain⟨v0,hb0⟩:=ze wr.heap.size;rw[←hb0] at x0 ⊢;have ow_0:w.heap.size≤v0:=zi (zww hB Bz);have nv0_own:=OwnR.off' (b:=v0) ho zo;replace hon:=hon.below hN;replace ho:=ho.below hN;replace hrx:=hrx.below hN;replace hry:=hry.below hN;replace hB:=bT (bT hB Bz) hN;have HX0:=zh x0;clear x0 hN Bz hb0;have Bz:=zr V1;clear pA0 pA1 pA2 pA3 pA4 pB0 pB1 pB2 pB3 pB4;with_reducible refine(add_q (R.below hrx) (R.below hry) zo (zt hT hB Bz)).mono ?_
        rintro e w1 ⟨s1,A1,c1,l1,s1r,A1r,c1r,l1r,rfl,h1,J⟩;replace J:=zq (a:=V1) J;replace hon:=hon.below J;replace ho:=ho.below J;replace Bz:=bT Bz J;clear J;obtain⟨pa0,pa1,pa2,pa3,-⟩:=(zx HX0 Bz).cz;obtain⟨y0,fa0,fa1,fa2,fa3,-⟩:=(zx HX0 Bz).fz;obtain⟨-,pA1,pA2,pA3,pA4,-⟩:=(hnd.below (bT hB Bz)).ez;obtain⟨-,pB1,pB2,pB3,pB4,-⟩:=(hnd'.below (bT hB Bz)).ez;refine hK.out _ _ ⟨pA1,pA2,pA3,pA4,pB1,pB2,pB3,pB4⟩ (fun _=>?_);try simp only[uW,uX,uY,uZ]
        clear hK K;refine zAb (o:=⟨none,_,_,_,_,_⟩) rfl rfl zd (fun K hK=>?_);go_simp
        refine hK.out _ _ ?_;try simp only[Act.put,uX,uY,uZ]
        clear hK K;refine zAa ?_;obtain⟨V2,hW,x,kk,far,bel⟩:=store4 (.bool s1) (.slice A1 l1 c1) (.bool s1r) (.slice A1r l1r c1r) (zx HX0 Bz) nofun nofun nofun nofun;rw[←hW];clear hW;replace h1:=h1.k kk;replace hon:=hon.k kk;replace ho:=ho.far2 far nv0_own;replace hB:=bel w.heap.size w zo (bT hB Bz);replace HX0:=zh x;clear x kk far bel Bz;have Bz:=zr V2;clear pa0 pa1 pa2 pa3 fa0 fa1 fa2 fa3 y0 pA1 pA2 pA3 pA4 pB1 pB2 pB3 pB4;obtain⟨pa0,pa1,pa2,pa3,-⟩:=(zx HX0 Bz).cz;go_wp2_with fail
        with_reducible refine(sign_q (R.below h1.r) zo z HZ).mono ?_
        rintro e w2 ⟨rfl,J⟩;replace J:=zq (a:=V2) J;replace h1:=h1.below J;replace hon:=hon.below J;replace ho:=ho.below J;replace Bz:=bT Bz J;clear J;clear pa0 pa1 pa2 pa3;obtain⟨pa0,pa1,pa2,pa3,-⟩:=(zx HX0 Bz).cz;have pA0:=(hnd.below (bT hB Bz)).c0 (u:=.int .i64 x.at_) rfl;go_wp2_with fail
        (try simp only[vA,vBa,vC])
        refine zl (.pure 0 (.pure 1 (.pure 2 (.pure 3 (.pure 4 (zza [5,6] (.pure 7 (.only 8 (.only 9 (.pure 10 .done)))))))))) [9] (zsa pa0 (zsa pa1 (zsa pa2 (zsa pa3 (zIa pA0))))) ?_;iterate 8 ((first|refine zV ?_|refine zUa ?_);try simp only[uW,uX,uY,uZ])
        refine zC 47 rfl rfl (fun K hK=>?_);go_simp
        refine hK.out _ _ ⟨(zAc pa0),(zAc pa1),(zAc pa2),(zAc pa3),(zAc pA0)⟩ (fun _=>?_);try simp only[uW,uX,uY,uZ]
        clear hK K;refine zAb (o:=⟨some 48,_,_,_,_,_⟩) rfl rfl zd (fun K hK=>?_);obtain⟨V3,hW,x1,hN⟩:=zAd w2 #[.int .i64 x.at_,.bool s1,.slice A1 l1 c1,.bool s1r,.slice A1r l1r c1r] 32;rw[←hW];clear hW;obtain⟨v1,hb1⟩:=ze w2.heap.size;rw[←hb1] at x1 ⊢;have o0_1:v0<v1:=zi (zx HX0 Bz).lt;have ow_1:w.heap.size≤v1:=zi (zww hB Bz);have nv1_own:=OwnR.off' (b:=v1) ho zo;replace h1:=h1.below hN;replace hon:=hon.below hN;replace ho:=ho.below hN;replace hB:=bT (bT hB Bz) hN;replace HX0:=zba HX0 Bz hN;have HX1:=zh x1;clear x1 hN Bz hb1;have Bz:=zr V3;clear pa0 pa1 pa2 pa3 pA0;have hdr:V3.drew.heap.size=V3.heap.size:=rfl;have hdr2:V3.drew.drew.heap.size=V3.heap.size:=rfl;refine Elt.wp elt_vec _ _ rfl (w.heap.size) (.slice H k hc) (k) (O) rfl ho (.slice (some ⟨v1,0,none⟩) 1 1) (1) ([⟨x.at_,⟨s1,A1,c1,l1,s1r,A1r,c1r,l1r,x.x.q+y.x.q,true⟩⟩]) rfl (From.one (HX1.out.below (bT Bz)) (⟨x.at_,⟨s1,A1,c1,l1,s1r,A1r,c1r,l1r,x.x.q+y.x.q,true⟩⟩) rfl (elt_vec.len _)) zo (zi (zww hB Bz)) ?_;intro H3 c3 w3 ho3 hg3;refine hK.out _ _ ?_;try simp only[uW,uX,uY,uZ]
        clear hK K;replace hB:=(bT (bT hB Bz)).trans (hg3.below (zi (zww hB Bz)) (fun g hg=>by have:=ho.base g hg;omega));clear HX0;clear HX1;clear hdr hdr2;replace h1:=h1.k hg3.k;replace hon:=hon.k hg3.k;clear hg3 Bz;have Bz:=zr w3;have pA0:=(hnd.below (bT hB Bz)).c0 (u:=.int .i64 x.at_) rfl;refine zV ?_;try simp only[uW,uX,uY,uZ]
        refine zAa ?_;go_wp2_with fail
        have hs1:=HS1.out;go_roundg (n-(i+1)+(m-(j+1)))
        case measure=>omega
        case rel=>exact⟨i+1,j+1,k+1,_,_,_,rfl,by go_num,by go_num,zo,zo,cA _,zo,OwnR.below ho3,HJ2.out _ rfl,(OnT.below hon).snoc (RN.below h1) rfl hs1,bT (bT hB Bz)⟩
   ·obtain rfl:j=m:=zo;have j1:¬(j:Int)<(j:Int):=zo;have HJ2:Hid (Joined (prs (O++[x])) (prs LX) (prs LY) (i+1) j):=zh (by rw[zAi];exact HJO.out.left HPX.out hpx (fun q hq=>by rw[mD (by rw[zAh,HLY.out];exact cA _)] at hq;cases hq));have HS1:Hid (sz x.x.q+1≤M+M'):=zh zo;have HEX:=zh hxn.2.1;clear hxn hpx hjo hjm;have Bz:=zr wr;obtain⟨pA0,pA1,pA2,pA3,pA4,-⟩:=(hnd.below (bT hB Bz)).ez;go_wp2_with fail
    (try simp only[vA,vBa,vC])
    refine zl (zza [0,1,2,3,4,5,6,7,8,9,10,11,12,13,14,15,16,17,18,19,20,21,22,23] .done) [] zn ?_;iterate 5 (refine zUa ?_;try simp only[uW,uX,uY,uZ])
    iterate 17 (refine zN rfl rfl ?_;try simp only[uW,uX,uY,uZ])
    iterate 2 (refine zUa ?_;try simp only[uW,uX,uY,uZ])
    refine zAa ?_;go_wp2_with (at_builtin;refine And.left (b:=True) ?_)
    refine⟨?_,trivial⟩;obtain⟨V1,hW,x0,hN⟩:=zAd wr #[.int .i64 x.at_,.bool x.x.s,.slice x.x.A x.x.l x.x.c,.bool x.x.s',.slice x.x.A' x.x.l' x.x.c'] 32;rw[←hW];clear hW;obtain⟨v0,hb0⟩:=ze wr.heap.size;rw[←hb0] at x0 ⊢;have ow_0:w.heap.size≤v0:=zi (zww hB Bz);have nv0_own:=OwnR.off' (b:=v0) ho zo;replace hnx:=hnx.below hN;replace hon:=hon.below hN;replace ho:=ho.below hN;replace hB:=bT (bT hB Bz) hN;have HX0:=zh x0;clear x0 hN Bz hb0;have Bz:=zr V1;clear pA0 pA1 pA2 pA3 pA4;have hdr:V1.drew.heap.size=V1.heap.size:=rfl;have hdr2:V1.drew.drew.heap.size=V1.heap.size:=rfl;refine Elt.app elt_vec rfl _ _ rfl (w.heap.size) (.slice H k hc) (k) (O) rfl ho (.slice (some ⟨v0,0,none⟩) 1 1) (1) ([x]) rfl (From.one (HX0.out.below (bT Bz)) (x) rfl (elt_vec.len _)) zo (zi (zww hB Bz)) ?_;intro H1 c1 w1 ho1 hg1;replace hB:=(bT (bT hB Bz)).trans (hg1.below (zi (zww hB Bz)) (fun g hg=>by have:=ho.base g hg;omega));clear HX0;clear hdr hdr2;replace hnx:=hnx.k hg1.k;replace hon:=hon.k hg1.k;clear hg1 Bz;have Bz:=zr w1;go_wp2_with fail
    have hs1:=HS1.out;go_roundg (n-(i+1)+(j-(j)))
    case measure=>omega
    case rel=>exact⟨i+1,j,k+1,_,_,_,rfl,by go_num,rfl,zo,zo,cA _,zo,OwnR.below ho1,HJ2.out,(OnT.below hon).snoc (RN.below hnx) HEX.out hs1,bT (bT hB Bz)⟩
  ·obtain rfl:i=n:=zo;have i1:¬(i:Int)<(i:Int):=zo;by_cases hjm:j<m
   ·obtain⟨by_,oy,rfl,hel'⟩:=HSY.out.at Tm.cs_len zo zo;obtain⟨y,hy⟩:∃y,LY[j]?=some y:=⟨LY[j]'(by rw[HLY.out];exact hjm),aA _⟩;have hnd':=hel' j y hy;have hyn:=HNY.out y (eA hy);have hny:=hyn.1.below hB;have hry:=hny.r;have hys:sz y.x.q+1≤M':=hyn.2.2;have hpy:=prs_get hy;have j1:(j:Int)<(m:Int):=zo;have j3:((j:Int)==(m:Int))=false:=by rw[beq_eq_false_iff_ne];omega
    have HJ2:Hid (Joined (prs (O++[y])) (prs LX) (prs LY) i (j+1)):=zh (by rw[zAi];exact HJO.out.right HPY.out hpy (fun p hp=>by rw[mD (by rw[zAh,HLX.out];exact cA _)] at hp;cases hp));have HS1:Hid (sz y.x.q+1≤M+M'):=zh zo;have HEX:=zh hyn.2.1;clear hel' hy hyn hpy hjo hin;have Bz:=zr wr;obtain⟨pB0,pB1,pB2,pB3,pB4,-⟩:=(hnd'.below (bT hB Bz)).ez;go_wp2_with fail
    (try simp only[vA,vBa,vC])
    refine zl (zza [0,1,2,3,4,5,6,7,8,9,10,11,12,13,14,15,16,17,18,19,20,21,22,23] .done) [] zn ?_;iterate 10 (refine zUa ?_;try simp only[uW,uX,uY,uZ])
    iterate 11 (refine zN rfl rfl ?_;try simp only[uW,uX,uY,uZ])
    iterate 3 (refine zUa ?_;try simp only[uW,uX,uY,uZ])
    refine zAa ?_;go_wp2_with fail
    (try simp only[vA,vBa,vC])
    refine zl (zza [0,1,2,3,4,5,6,7,8,9,10,11,12,13,14,15,16,17] .done) [] zn ?_;iterate 5 (refine zUa ?_;try simp only[uW,uX,uY,uZ])
    iterate 11 (refine zN rfl rfl ?_;try simp only[uW,uX,uY,uZ])
    iterate 2 (refine zUa ?_;try simp only[uW,uX,uY,uZ])
    refine zAa ?_;go_wp2_with (at_builtin;refine And.left (b:=True) ?_)
    refine⟨?_,trivial⟩;obtain⟨V1,hW,x0,hN⟩:=zAd wr #[.int .i64 y.at_,.bool y.x.s,.slice y.x.A y.x.l y.x.c,.bool y.x.s',.slice y.x.A' y.x.l' y.x.c'] 32;rw[←hW];clear hW;obtain⟨v0,hb0⟩:=ze wr.heap.size;rw[←hb0] at x0 ⊢;have ow_0:w.heap.size≤v0:=zi (zww hB Bz);have nv0_own:=OwnR.off' (b:=v0) ho zo;replace hny:=hny.below hN;replace hon:=hon.below hN;replace ho:=ho.below hN;replace hB:=bT (bT hB Bz) hN;have HX0:=zh x0;clear x0 hN Bz hb0;have Bz:=zr V1;clear pB0 pB1 pB2 pB3 pB4;have hdr:V1.drew.heap.size=V1.heap.size:=rfl;have hdr2:V1.drew.drew.heap.size=V1.heap.size:=rfl;refine Elt.app elt_vec rfl _ _ rfl (w.heap.size) (.slice H k hc) (k) (O) rfl ho (.slice (some ⟨v0,0,none⟩) 1 1) (1) ([y]) rfl (From.one (HX0.out.below (bT Bz)) (y) rfl (elt_vec.len _)) zo (zi (zww hB Bz)) ?_;intro H1 c1 w1 ho1 hg1;replace hB:=(bT (bT hB Bz)).trans (hg1.below (zi (zww hB Bz)) (fun g hg=>by have:=ho.base g hg;omega));clear HX0;clear hdr hdr2;replace hny:=hny.k hg1.k;replace hon:=hon.k hg1.k;clear hg1 Bz;have Bz:=zr w1;go_wp2_with fail
    have hs1:=HS1.out;go_roundg (i-(i)+(m-(j+1)))
    case measure=>omega
    case rel=>exact⟨i,j+1,k+1,_,_,_,rfl,rfl,by go_num,zo,zo,cA _,zo,OwnR.below ho1,HJ2.out,(OnT.below hon).snoc (RN.below hny) HEX.out hs1,bT (bT hB Bz)⟩
   ·obtain rfl:j=m:=zo;have j1:¬(j:Int)<(j:Int):=zo;have HOS:=zh ho;have HON:=zh hon;clear hjo ho hon;go_wp2_with fail
    go_ret
    exact⟨_,_,_,O,rfl,HOS.out.below (by go_grown),HON.out.below (by go_grown),(HJO.out.done (by rw[zAh,HLX.out];exact cA _) (by rw[zAh,HLY.out];exact cA _)).symm,bT hB⟩
def SC1 (w W:World) (cs:Array Value) (L:List Tm) (q:Rat) (n MM gk:Nat) (s5 s12:Value) (wr:World):Prop :=
 ∃(i k:Nat) (H:Option Addr) (hc:Nat) (O:List Tm),s5=.slice H k hc∧s12=.int .i64 (i:Int)∧i≤n∧n-i≤gk∧k≤i∧
  OwnR wr W.heap.size 32 5 (.slice H k hc) k (flat Tm.cs O)∧prs O=((prs (L.take i)).map fun x=>(x.1,q*x.2)).filter (fun x=>decide (x.2≠0))∧OnT wr O (fun _=>MM)∧Bx wr w.heap.size cs 30∧Below w.heap.size w wr∧Below W.heap.size W wr
theorem scale_snoc {i:Nat} (h:L[i]?=some x):((prs (L.take (i+1))).map fun x=>(x.1,q*x.2)).filter (fun x=>decide (x.2≠0))=((prs (L.take i)).map fun x=>(x.1,q*x.2)).filter (fun x=>decide (x.2≠0))++if q*x.x.q=0 then [] else [(x.at_,q*x.x.q)]:=by
 rw[take_snoc h,zAi,fF,List.filter_append];congr 1
 show([(x.at_,q*x.x.q)]:List (Int×Rat)).filter _=_
 by_cases e:q*x.x.q=0
 ·rw[bB e,List.filter_cons_of_neg (by simp[e])];rfl
 ·rw[yA e,List.filter_cons_of_pos (by simp[e])];rfl
theorem sign_zero {z:Int} (h:q.num.sign=z):(z != 0)=decide (q≠0):=by
 have:=num_sign q;rw[h] at this;unfold bne
 rw[this];by_cases e:q=0<;>simp[e]
theorem scaleV_q {w:World} {s s':Bool} {A':Option Addr} {l c l' c':Nat} {mq:Nat} {n:Nat} (ha:R w s A c l s' A' c' l' q mq) (h:GV w X n cx P M) (hM:M≤10000000000) (hmq:mq≤10000000000) (hn:n≤1000000) (hT:Hid (Tab w)) :
  Calls Tryz.prog 52 #[.agg #[.bool s,.slice A l c,.bool s',.slice A' l' c'],.slice X n cx] w (TellsV w (nrm (P.map fun x=>(x.1,q*x.2))) (mq+M+3)):=by
 have hx:=zh h;have hM:M≤19000000000:=zo;clear h;obtain⟨W,hW,x0,hB⟩:=zAd w #[.bool s,.slice A l c,.bool s',.slice A' l' c'] 30;replace ha:=ha.below hB;have HX0:=zh x0;clear x0;have Bz:=zr W;go_enter Tryz.func52,Tryz.ntmps52
 go_wp2_with fail
 rw[←hW];clear hW;go_wp2_with fail
 with_reducible refine(ordered_q (hx.out.below (bT hB (bT (b:=W) Bz))) hM hn (zt hT hB Bz)).mono ?_
 rintro e w1 ⟨A1,n1,c1,P1,rfl,h1,r1,e1,l1,j⟩;replace j:=zq (a:=W) j;replace ha:=ha.below j;replace Bz:=bT Bz j;clear j;go_wp2_with fail
 obtain⟨L,x1,x2,rfl,x4,x5⟩:=h1;have HS:=zh x1;have HLN:=zh x1.1;have HOK:=zh x2;have HWS:=zh x4;have HRS:=zh r1;have HGT:=zh e1;have HB1:=zh (bT hB Bz);have HA1:=zh ha;have XX0:=zh (zx HX0 Bz);have HXB:=zh (zx HX0 Bz).lt;clear x1 x2 x4 x5 r1 e1 hB Bz HX0 ha;go_loopg [5,12] n1 (fun gk s5 s12 wr=>SC1 w w1 #[.bool s,.slice A l c,.bool s',.slice A' l' c'] L q n1 (mq+M+3) gk s5 s12 wr)
 case atStart=>exact⟨0,0,_,_,[],rfl,rfl,zA _,cA _,cA _,OwnR.nil _ _ _ _,rfl,OnT.nil _ _,XX0.out,HB1.out,Below.refl _ _⟩
 case round =>
  clear XX0;have hWs:w.heap.size<w1.heap.size:=zi HXB.out;clear HB1;obtain⟨i,k,H,hc,O,rfl,rfl,hi,hgk,hk,ho,hp,hon,hx0,hB,hBW⟩:=hrel;have HP:=zh hp;have HX0:=zh hx0;clear hp hx0;by_cases hlt:i<n1
  ·obtain⟨b,off,rfl,hel⟩:=HS.out.at Tm.cs_len zo zo;obtain⟨x,hx'⟩:∃x,L[i]?=some x:=⟨L[i]'(by rw[HLN.out];exact hlt),aA _⟩;have hnd:=hel i x hx';have hfx:=HOK.out x (eA hx');have hrx:R wr x.x.s x.x.A x.x.c x.x.l x.x.s' x.x.A' x.x.c' x.x.l' x.x.q (dgT x):=(hfx.below hBW).r;have ha:=HA1.out.below hBW;have hdx:dgT x+2≤M+1:=nA (wsum_mem (eA hx')) (HWS.out _);have hsq:=ha.sz;have hsx:=hfx.szd;have hsz:sz (q*x.x.q)≤(mq+1)+(dgT x+1):=sz_mul zo hsx;obtain⟨z,HZ⟩:∃z,Hid ((q*x.x.q).num.sign=z):=⟨_,zh rfl⟩;have hz0:=sign_zero HZ.out;have i1:(i:Int)<(n1:Int):=zo;have i2:(0:Int)≤(i:Int):=zo;have hsn:=scale_snoc (q:=q) hx';clear hel hx' hfx;by_cases hs0:q*x.x.q=0
   ·have g3:(z != 0)=false:=by rw[hz0,jA (fun h=>h hs0)]
    have HP2:Hid (prs O=((prs (L.take (i+1))).map fun x=>(x.1,q*x.2)).filter (fun x=>decide (x.2≠0))):=zh (by rw[hsn,bB hs0,wE,HP.out]);have HS1:Hid (0≤M):=zh (zA _);clear hz0 hsn hs0;have Bz:=zr wr;obtain⟨pA0,pA1,pA2,pA3,pA4,-⟩:=(hnd.below (bT hBW Bz)).ez;go_upto_region 5 with(fail)
    obtain⟨V11,hW,x1,hN⟩:=zAd wr #[.int .i64 x.at_,.bool x.x.s,.slice x.x.A x.x.l x.x.c,.bool x.x.s',.slice x.x.A' x.x.l' x.x.c'] 32;rw[←hW];clear hW;obtain⟨v1,hb1⟩:=ze wr.heap.size;rw[←hb1] at x1 ⊢;have ow_1:w.heap.size≤v1:=zi (zww hB Bz);have nv1_own:=OwnR.off' (b:=v1) ho zo;replace ha:=ha.below hN;replace hon:=hon.below hN;replace ho:=ho.below hN;replace hrx:=hrx.below hN;replace hB:=bT (bT hB Bz) hN;replace hBW:=bT (bT hBW Bz) hN;replace HX0:=zba HX0 Bz hN;have HX1:=zh x1;clear x1 hN Bz hb1;have Bz:=zr V11;clear pA0 pA1 pA2 pA3 pA4;obtain⟨pa0,pa1,pa2,pa3,-⟩:=(zx HX0 Bz).cz;obtain⟨-,pb1,pb2,pb3,pb4,-⟩:=(zx HX1 Bz).cz;go_wp2_with fail
    with_reducible refine(mul_q (R.below ha) (R.below hrx) zo (zt hT hB Bz)).mono ?_
    rintro e w11 ⟨s11,A11,c11,l11,s11r,A11r,c11r,l11r,rfl,h11,j⟩;replace j:=zq (a:=V11) j;replace hon:=hon.below j;replace ho:=ho.below j;replace Bz:=bT Bz j;clear j;clear pa0 pa1 pa2 pa3 pb1 pb2 pb3 pb4;go_upto_region 6 with(fail)
    obtain⟨V12,hW,x2,hN⟩:=zAd w11 #[.bool s11,.slice A11 l11 c11,.bool s11r,.slice A11r l11r c11r] 30;rw[←hW];clear hW;obtain⟨v2,hb2⟩:=ze w11.heap.size;rw[←hb2] at x2 ⊢;have ow_2:w.heap.size≤v2:=zi (zww hB Bz);have nv2_own:=OwnR.off' (b:=v2) ho zo;replace h11:=h11.below hN;replace hon:=hon.below hN;replace ho:=ho.below hN;replace hB:=bT (bT hB Bz) hN;replace hBW:=bT (bT hBW Bz) hN;replace HX0:=zba HX0 Bz hN;replace HX1:=zba HX1 Bz hN;have HX2:=zh x2;clear x2 hN Bz hb2;have Bz:=zr V12;obtain⟨pc0,pc1,pc2,pc3,-⟩:=(zx HX2 Bz).cz;go_wp2_with fail
    with_reducible refine(sign_q (R.below h11.r) zo z HZ).mono ?_
    rintro e w12 ⟨rfl,j⟩;replace j:=zq (a:=V12) j;replace hon:=hon.below j;replace ho:=ho.below j;replace Bz:=bT Bz j;clear j;clear pc0 pc1 pc2 pc3;go_wp2_with fail
    have hs1:=HS1.out;go_roundg (n1-(i+1))
    case measure=>omega
    case rel=>exact⟨i+1,k,_,_,_,rfl,by go_num,zo,cA _,zo,OwnR.below ho,HP2.out,OnT.below hon,HX0.out.below (bT Bz),bT (bT hB Bz),bT (bT hBW Bz)⟩
   ·have g3:(z != 0)=true:=by rw[hz0,fA hs0]
    have HP2:Hid (∀r:Fr,r.q=q*x.x.q→prs (O++[⟨x.at_,r⟩])=((prs (L.take (i+1))).map fun x=>(x.1,q*x.2)).filter (fun x=>decide (x.2≠0))):=zh (fun r hr=>by rw[hsn,yA hs0,zAi,HP.out,show prs [(⟨x.at_,r⟩:Tm)]=[(x.at_,q*x.x.q)] from by rw[←hr];rfl]);have HS1:Hid (sz (q*x.x.q)+1≤mq+M+3):=zh zo;clear hz0 hsn hs0;have Bz:=zr wr;obtain⟨pA0,pA1,pA2,pA3,pA4,-⟩:=(hnd.below (bT hBW Bz)).ez;go_upto_region 5 with(fail)
    obtain⟨V11,hW,x1,hN⟩:=zAd wr #[.int .i64 x.at_,.bool x.x.s,.slice x.x.A x.x.l x.x.c,.bool x.x.s',.slice x.x.A' x.x.l' x.x.c'] 32;rw[←hW];clear hW;obtain⟨v1,hb1⟩:=ze wr.heap.size;rw[←hb1] at x1 ⊢;have ow_1:w.heap.size≤v1:=zi (zww hB Bz);have nv1_own:=OwnR.off' (b:=v1) ho zo;replace ha:=ha.below hN;replace hon:=hon.below hN;replace ho:=ho.below hN;replace hrx:=hrx.below hN;replace hB:=bT (bT hB Bz) hN;replace hBW:=bT (bT hBW Bz) hN;replace HX0:=zba HX0 Bz hN;have HX1:=zh x1;clear x1 hN Bz hb1;have Bz:=zr V11;clear pA0 pA1 pA2 pA3 pA4;obtain⟨pa0,pa1,pa2,pa3,-⟩:=(zx HX0 Bz).cz;obtain⟨-,pb1,pb2,pb3,pb4,-⟩:=(zx HX1 Bz).cz;go_wp2_with fail
    with_reducible refine(mul_q (R.below ha) (R.below hrx) zo (zt hT hB Bz)).mono ?_
    rintro e w11 ⟨s11,A11,c11,l11,s11r,A11r,c11r,l11r,rfl,h11,j⟩;replace j:=zq (a:=V11) j;replace hon:=hon.below j;replace ho:=ho.below j;replace Bz:=bT Bz j;clear j;clear pa0 pa1 pa2 pa3 pb1 pb2 pb3 pb4;go_upto_region 6 with(fail)
    obtain⟨V12,hW,x2,hN⟩:=zAd w11 #[.bool s11,.slice A11 l11 c11,.bool s11r,.slice A11r l11r c11r] 30;rw[←hW];clear hW;obtain⟨v2,hb2⟩:=ze w11.heap.size;rw[←hb2] at x2 ⊢;have ow_2:w.heap.size≤v2:=zi (zww hB Bz);have nv2_own:=OwnR.off' (b:=v2) ho zo;replace h11:=h11.below hN;replace hon:=hon.below hN;replace ho:=ho.below hN;replace hB:=bT (bT hB Bz) hN;replace hBW:=bT (bT hBW Bz) hN;replace HX0:=zba HX0 Bz hN;replace HX1:=zba HX1 Bz hN;have HX2:=zh x2;clear x2 hN Bz hb2;have Bz:=zr V12;obtain⟨pc0,pc1,pc2,pc3,-⟩:=(zx HX2 Bz).cz;go_wp2_with fail
    with_reducible refine(sign_q (R.below h11.r) zo z HZ).mono ?_
    rintro e w12 ⟨rfl,j⟩;replace j:=zq (a:=V12) j;replace h11:=h11.below j;replace hon:=hon.below j;replace ho:=ho.below j;replace Bz:=bT Bz j;clear j;clear pc0 pc1 pc2 pc3;have pb0:=(zx HX1 Bz).cell 0 (.int .i64 x.at_) rfl;obtain⟨pc0,pc1,pc2,pc3,-⟩:=(zx HX2 Bz).cz;go_wp2_with (at_builtin;refine And.left (b:=True) ?_)
    refine⟨?_,trivial⟩;obtain⟨V13,hW,x3,hN⟩:=zAd w12 #[.int .i64 x.at_,.bool s11,.slice A11 l11 c11,.bool s11r,.slice A11r l11r c11r] 32;rw[←hW];clear hW;obtain⟨v3,hb3⟩:=ze w12.heap.size;rw[←hb3] at x3 ⊢;have ow_3:w.heap.size≤v3:=zi (zww hB Bz);have nv3_own:=OwnR.off' (b:=v3) ho zo;replace h11:=h11.below hN;replace hon:=hon.below hN;replace ho:=ho.below hN;replace hB:=bT (bT hB Bz) hN;replace hBW:=bT (bT hBW Bz) hN;replace HX0:=zba HX0 Bz hN;replace HX1:=zba HX1 Bz hN;replace HX2:=zba HX2 Bz hN;have HX3:=zh x3;clear x3 hN Bz hb3;have Bz:=zr V13;clear pb0 pc0 pc1 pc2 pc3;have hdr:V13.drew.heap.size=V13.heap.size:=rfl;have hdr2:V13.drew.drew.heap.size=V13.heap.size:=rfl;refine Elt.app elt_vec rfl _ _ rfl (w1.heap.size) (.slice H k hc) (k) (O) rfl ho (.slice (some ⟨v3,0,none⟩) 1 1) (1) ([⟨x.at_,⟨s11,A11,c11,l11,s11r,A11r,c11r,l11r,q*x.x.q,true⟩⟩]) rfl (From.one (HX3.out.below (bT Bz)) (⟨x.at_,⟨s11,A11,c11,l11,s11r,A11r,c11r,l11r,q*x.x.q,true⟩⟩) rfl (elt_vec.len _)) zo (zj hBW.size Bz.size) ?_;intro H13 c13 w13 ho13 hg13;replace hB:=(bT (bT hB Bz)).trans (hg13.below (zi (zww hB Bz)) (fun g hg=>by have:=ho.base g hg;omega));replace hBW:=(bT (bT hBW Bz)).trans (hg13.below (zj hBW.size Bz.size) (fun g hg=>by have:=ho.base g hg;omega));replace HX0:=zh (hg13.bx (zx HX0 Bz) (ho.off zo));clear HX1;clear HX2;clear HX3;clear hdr hdr2;replace h11:=h11.k hg13.k;replace hon:=hon.k hg13.k;clear hg13 Bz;have Bz:=zr w13;go_wp2_with fail
    have hs1:=HS1.out;go_roundg (n1-(i+1))
    case measure=>omega
    case rel=>exact⟨i+1,k+1,_,_,_,rfl,by go_num,zo,cA _,zo,OwnR.below ho13,HP2.out _ rfl,(OnT.below hon).snoc (RN.below h11) rfl hs1,HX0.out.below (bT Bz),bT (bT hB Bz),bT (bT hBW Bz)⟩
  ·obtain rfl:i=n1:=zo;have i1:¬(i:Int)<(i:Int):=zo;have HOS:=zh (ho.sl' elt_vec (ho.eltn elt_vec zo));have HCAP:=zh ho.slice;have HON:=zh hon;clear ho hon;go_wp2_with fail
   go_ret
   refine⟨_,_,_,rfl,⟨O,HOS.out.below (by go_grown),HON.out.below (by go_grown),?_,fun hn=>?_⟩,bT hB⟩
   ·have h9:=HP.out;rw[qA (by rw[HLN.out];exact cA _),←rise_scale HRS.out] at h9;rw[h9];exact nrm_ext fun a=>by rw[pget_scale,pget_scale,HGT.out]
   ·obtain⟨_,_,e9,h9,_⟩:=HCAP.out;cases e9;exact(h9 hn).2
theorem axpyO_q {w:World} {s s':Bool} {A':Option Addr} {l c l' c':Nat} {mq:Nat} {n:Nat} (hy0:GV w Y m cy P M') (ha:R w s A c l s' A' c' l' q mq) (h:GV w X n cx Q M) (hM:M≤8000000000) (hM':M'≤4000000000) (hmq:mq≤4000000000) (hn:n≤1000000) (hm:m≤1000000) (hT:Hid (Tab w)) :
  Calls Tryz.prog 102 #[.slice Y m cy,.agg #[.bool s,.slice A l c,.bool s',.slice A' l' c'],.slice X n cx] w (TellsVO w (nrm (P++Q.map fun x=>(x.1,q*x.2))) (M'+(mq+M+3))):=by
 have hx:=zh h;have hy:=zh hy0;have HLX:=zh h.len;have HLY:=zh hy0.len;have hM:M≤10000000000:=zo;have hmq:mq≤10000000000:=zo;clear h hy0;obtain⟨W,hW,x0,hB⟩:=zAd w #[.bool s,.slice A l c,.bool s',.slice A' l' c'] 30;replace ha:=ha.below hB;have HX0:=zh x0;clear x0;have Bz:=zr W;obtain⟨pa0,pa1,pa2,pa3,-⟩:=(zx HX0 Bz).cz;go_enter Tryz.func102,Tryz.ntmps102
 go_wp2_with fail
 rw[←hW];clear hW;go_wp2_with fail
 (try simp only[vA,vBa,vC])
 refine zl (zza [0,2,3] (.only 1 (.only 4 (.only 5 (.take 6 .done))))) [] (zsa pa0 (zsa pa1 (zsa pa2 (zIa pa3)))) ?_;iterate 3 (refine zUa ?_;try simp only[uW,uX,uY,uZ])
 refine zC 8 rfl rfl (fun K hK=>?_);go_simp
 with_reducible refine(normV_q (hy.out.below (bT hB (bT (b:=W) Bz))) zo hm (zt hT hB Bz)).mono ?_
 rintro e w1 ⟨A1,n1,c1,rfl,h1,z⟩;replace z:=zq (a:=W) z;replace ha:=ha.below z;replace Bz:=bT Bz z;clear z;clear pa0 pa1 pa2 pa3;obtain⟨pa0,pa1,pa2,pa3,-⟩:=(zx HX0 Bz).cz;refine hK.out _ _ ⟨pa0,pa1,pa2,pa3⟩ (fun _=>?_);try simp only[uW,uX,uY,uZ]
 clear hK K;refine zC 11 rfl rfl (fun K hK=>?_);go_simp
 with_reducible refine(scaleV_q (R.below ha) (hx.out.below (bT hB (bT (b:=w1) Bz))) hM hmq hn (zt hT hB Bz)).mono ?_
 rintro e w2 ⟨A2,n2,c2,rfl,h2,z⟩;replace z:=zq (a:=w1) z;replace h1:=h1.below z;replace Bz:=bT Bz z;clear z;clear pa0 pa1 pa2 pa3;obtain⟨pa0,pa1,pa2,pa3,-⟩:=(zx HX0 Bz).cz;refine hK.out _ _ ⟨pa0,pa1,pa2,pa3⟩ (fun _=>?_);try simp only[uW,uX,uY,uZ]
 clear hK K;refine zC 12 rfl rfl (fun K hK=>?_);go_simp
 have hb2:w.heap.size≤w2.heap.size:=zi (zww hB Bz);with_reducible refine(joinO_q (NV.below h1) (NV.below h2) (nrm_nrm _) (nrm_nrm _) zo (by have:=h1.len;have:=nrm_len P;have:=HLY.out;omega) (by have:=h2.len;have:=nrm_len (Q.map fun x=>(x.1,q*x.2));have:=HLX.out;rw[nB] at *;omega) (zt hT hB Bz)).mono ?_
 rintro e w3 ⟨A3,n3,c3,L3,rfl,h3,on3,ep3,z⟩;replace z:=zq (a:=w2) z;replace Bz:=bT Bz z;clear z;clear pa0 pa1 pa2 pa3;obtain⟨pa0,pa1,pa2,pa3,-⟩:=(zx HX0 Bz).cz;refine hK.out _ _ ⟨pa0,pa1,pa2,pa3⟩ (fun _=>?_);try simp only[uW,uX,uY,uZ]
 clear hK K;refine zUa ?_;try simp only[uW,uX,uY,uZ]
 refine zAa ?_;go_wp2_with fail
 go_ret
 have hF:=bT (c:=w3) hB Bz;exact⟨_,_,_,L3,rfl,(h3.below (by go_grown)).rebase hb2,(on3.below (by go_grown)).mono fun _ _=>by omega,by rw[←nrm_app];exact ep3,bT hF⟩
def GT1 (w:World) (L:List Tm) (at_:Int) (n gk:Nat) (s:Value) (wr:World):Prop :=
 ∃(i:Nat) (sS:Bool) (sA:Option Addr) (sc sl:Nat) (sS':Bool) (sA':Option Addr) (sc' sl':Nat),i≤n∧n-i=gk∧s=.int .i64 (i:Int)∧RN wr sS sA sc sl sS' sA' sc' sl' (pget (prs (L.take i)) at_)∧Bx wr w.heap.size #[.bool false,.slice none 0 0,.bool false,.slice none 0 0] 30∧Bx wr (w.heap.size+1) #[.bool sS,.slice sA sl sc,.bool sS',.slice sA' sl' sc'] 30∧Below w.heap.size w wr
theorem get_sz {w:World} (h:OkT w L) (a:Int):sz (pget (prs L) a)≤wsum L a+1:=by
 induction L with
 | nil=>exact nA sz_zero (by simp[wsum])
 | cons x L ih =>
  have h1:=ih fun t ht=>h t (uA _ ht);have h2:=(h x tA).szd;show sz (pget ((x.at_,x.x.q) :: prs L) a)≤_
  rw[zAe];unfold wsum
  split
  ·have:=sz_add h2 h1;show sz (x.x.q+pget (prs L) a)≤_
   unfold dgT
   omega
  ·omega
theorem pget_take {i:Nat} (h:L[i]?=some x) (a:Int):pget (prs (L.take (i+1))) a=pget (prs (L.take i)) a+if x.at_=a then x.x.q else 0:=by
 rw[take_snoc h,zAi];exact pget_snoc _ (x.at_,x.x.q) a
theorem getV_q {w:World} {n c:Nat} (at_:Int) (h:GV w A n c P M) (hM:M≤18000000000) (hn:n≤1000000) (hT:Hid (Tab w)) :
  Calls Tryz.prog 50 #[.slice A n c,.int .i64 at_] w (TellsR w (pget P at_)):=by
 obtain⟨L,h1,h2,rfl,h4,h5⟩:=h;have HS:=zh h1;have HLN:=zh h1.1;have HOK:=zh h2;have HWS:=zh h4;clear h1 h2 h4 h5;obtain⟨W,hW,x0,x1,hB⟩:=boxes2 w #[.bool false,.slice none 0 0,.bool false,.slice none 0 0] 30 #[.bool false,.slice none 0 0,.bool false,.slice none 0 0] 30;have HX0:=zh x0;have HX1:=zh x1;clear x0 x1;have Bz:=zr W;go_enter Tryz.func50,Tryz.ntmps50
 go_wp2_with fail
 rw[←hW];clear hW;go_wp2_with fail
 have HB1:=zh (bT hB Bz);have XX0:=zh (zx HX0 Bz);have XX1:=zh (zx HX1 Bz);clear hB Bz HX0 HX1;go_loopg [10] n (fun gk s wr=>GT1 w L at_ n gk s wr)
 case atStart=>exact⟨0,_,_,_,_,_,_,_,_,zA _,rfl,rfl,RN.zero _,XX0.out,XX1.out,HB1.out⟩
 case round =>
  clear HB1 XX0 XX1;obtain⟨i,sS,sA,sc,sl,sS',sA',sc',sl',hi,hgk,rfl,hs,hx0,hx1,hB⟩:=hrel;have HGK:=zh hgk;have HX0:=zh hx0;have HX1:=zh hx1;clear hgk hx0 hx1;by_cases hlt:i<n
  ·obtain⟨b,off,rfl,hel⟩:=HS.out.at Tm.cs_len zo zo;obtain⟨x,hx⟩:∃x,L[i]?=some x:=⟨L[i]'(by rw[HLN.out];exact hlt),aA _⟩;have hnd:=hel i x hx;have hfx:=HOK.out x (eA hx);have hrx:R wr x.x.s x.x.A x.x.c x.x.l x.x.s' x.x.A' x.x.c' x.x.l' x.x.q (dgT x):=(hfx.below hB).r;have hdx:dgT x+2≤M:=nA (wsum_mem (eA hx)) (HWS.out _);have hss:sz (pget (prs (L.take i)) at_)≤M+1:=nA (get_sz (fun t ht=>HOK.out t (mF ht)) at_) (zi (nA (wsum_take_le L i at_) (HWS.out at_)));have hpt:=pget_take hx at_;have i1:(i:Int)<(n:Int):=zo;have i2:(0:Int)≤(i:Int):=zo;have HS1:Hid (0≤M):=zh (zA _);clear hel hx hfx;by_cases hq:x.at_=at_
   ·have g1:(x.at_==at_)=true:=by simpa using hq
    have HSM:Hid (pget (prs (L.take i)) at_+x.x.q=pget (prs (L.take (i+1))) at_):=zh (by rw[hpt,bB hq]);clear hpt hq;have Bz:=zr wr;obtain⟨pA0,pA1,pA2,pA3,pA4,-⟩:=(hnd.below (bT hB Bz)).ez;go_upto_region 5 with(fail)
    obtain⟨V1,hW,x2,hN⟩:=zAd wr #[.int .i64 x.at_,.bool x.x.s,.slice x.x.A x.x.l x.x.c,.bool x.x.s',.slice x.x.A' x.x.l' x.x.c'] 32;rw[←hW];clear hW;obtain⟨v2,hb2⟩:=ze wr.heap.size;rw[←hb2] at x2 ⊢;have o0_2:w.heap.size<v2:=zi (zx HX0 Bz).lt;have o1_2:(w.heap.size+1)<v2:=zi (zx HX1 Bz).lt;have ow_2:w.heap.size≤v2:=zi (zww hB Bz);replace hrx:=hrx.below hN;replace hs:=hs.below hN;replace hB:=bT (bT hB Bz) hN;replace HX0:=zba HX0 Bz hN;replace HX1:=zba HX1 Bz hN;have HX2:=zh x2;clear x2 hN Bz hb2;have Bz:=zr V1;clear pA0 pA1 pA2 pA3 pA4;obtain⟨pb0,pb1,pb2,pb3,-⟩:=(zx HX1 Bz).cz;obtain⟨pc0,pc1,pc2,pc3,pc4,-⟩:=(zx HX2 Bz).cz;go_wp2_with fail
    with_reducible refine(add_q (R.below hs.r) (R.below hrx) zo (zt hT hB Bz)).mono ?_
    rintro e w1 ⟨s1,A1,c1,l1,s1r,A1r,c1r,l1r,rfl,h1,z⟩;replace z:=zq (a:=V1) z;replace Bz:=bT Bz z;clear z;clear pb0 pb1 pb2 pb3 pc0 pc1 pc2 pc3 pc4;obtain⟨pb0,pb1,pb2,pb3,-⟩:=(zx HX1 Bz).cz;obtain⟨y1,fb0,fb1,fb2,fb3,-⟩:=(zx HX1 Bz).fz;go_upto_region 7 with(fail)
    obtain⟨V2,hW,x,kk,far,bel⟩:=store4 (.bool s1) (.slice A1 l1 c1) (.bool s1r) (.slice A1r l1r c1r) (zx HX1 Bz) nofun nofun nofun nofun;rw[←hW];clear hW;replace h1:=h1.k kk;replace hB:=bel w.heap.size w zo (bT hB Bz);replace HX0:=zf far HX0 Bz;replace HX2:=zf far HX2 Bz;replace HX1:=zh x;clear x kk far bel Bz;have Bz:=zr V2;clear pb0 pb1 pb2 pb3 fb0 fb1 fb2 fb3 y1;go_wp2_with fail
    have hs1:=HS1.out;go_roundg (n-(i+1))
    case measure=>have:=HGK.out;omega
    case rel=>exact⟨i+1,_,_,_,_,_,_,_,_,zo,rfl,by go_num,by rw[←HSM.out];exact RN.below h1,HX0.out.below (bT Bz),HX1.out.below (bT Bz),bT (bT hB Bz)⟩
   ·have g1:(x.at_==at_)=false:=by simpa using hq
    have HSM:Hid (pget (prs (L.take i)) at_=pget (prs (L.take (i+1))) at_):=zh (by rw[hpt,yA hq,yC]);clear hpt hq;have Bz:=zr wr;obtain⟨pA0,pA1,pA2,pA3,pA4,-⟩:=(hnd.below (bT hB Bz)).ez;go_upto_region 5 with(fail)
    obtain⟨V1,hW,x2,hN⟩:=zAd wr #[.int .i64 x.at_,.bool x.x.s,.slice x.x.A x.x.l x.x.c,.bool x.x.s',.slice x.x.A' x.x.l' x.x.c'] 32;rw[←hW];clear hW;obtain⟨v2,hb2⟩:=ze wr.heap.size;rw[←hb2] at x2 ⊢;have o0_2:w.heap.size<v2:=zi (zx HX0 Bz).lt;have o1_2:(w.heap.size+1)<v2:=zi (zx HX1 Bz).lt;have ow_2:w.heap.size≤v2:=zi (zww hB Bz);replace hs:=hs.below hN;replace hB:=bT (bT hB Bz) hN;replace HX0:=zba HX0 Bz hN;replace HX1:=zba HX1 Bz hN;have HX2:=zh x2;clear x2 hN Bz hb2;have Bz:=zr V1;clear pA0 pA1 pA2 pA3 pA4;have pc0:=(zx HX2 Bz).cell 0 (.int .i64 x.at_) rfl;go_wp2_with fail
    have hs1:=HS1.out;go_roundg (n-(i+1))
    case measure=>have:=HGK.out;omega
    case rel=>exact⟨i+1,_,_,_,_,_,_,_,_,zo,rfl,by go_num,by rw[←HSM.out];exact RN.below hs,HX0.out.below (bT Bz),HX1.out.below (bT Bz),bT (bT hB Bz)⟩
  ·obtain rfl:i=n:=zo;have i1:¬(i:Int)<(i:Int):=zo;have HEND:Hid (pget (prs (L.take i)) at_=pget (prs L) at_):=zh (by rw[qA (by rw[HLN.out];exact cA _)]);have Bz:=zr wr;obtain⟨pa0,pa1,pa2,pa3,-⟩:=(zx HX0 Bz).cz;obtain⟨y0,fa0,fa1,fa2,fa3,-⟩:=(zx HX0 Bz).fz;obtain⟨pb0,pb1,pb2,pb3,-⟩:=(zx HX1 Bz).cz;go_wp2_with fail
   (try simp only[Exit.inBlock,Exit.then])
   refine bodyPost_ret (by simp[results,Tryz.results50,go_sem,pa0,pa1,pa2,pa3];try rfl) rfl ?_;obtain⟨V1,hW,x,kk,far,bel⟩:=store4 (.bool sS) (.slice sA sl sc) (.bool sS') (.slice sA' sl' sc') (zx HX0 Bz) nofun nofun nofun nofun;rw[←hW];clear hW;replace hs:=hs.k kk;replace hB:=bel w.heap.size w zo (bT hB Bz);replace HX1:=zf far HX1 Bz;replace HX0:=zh x;clear x kk far bel Bz;have Bz:=zr V1;have hF:=bT (c:=V1) hB Bz;exact⟨_,_,_,_,_,_,_,_,rfl,by rw[←HEND.out];exact RN.below hs,bT hF⟩
def DT1 (w W:World) (vb:Nat) (P Q:List (Int×Rat)) (n m D gk:Nat) (s6 s7:Value) (wr:World):Prop :=
 ∃(i j:Nat) (q:Rat) (sS:Bool) (sA:Option Addr) (sc sl:Nat) (sS':Bool) (sA':Option Addr) (sc' sl':Nat),s6=.int .i64 (i:Int)∧s7=.int .i64 (j:Int)∧i≤n∧j≤m∧n-i+(m-j)≤gk∧RN wr sS sA sc sl sS' sA' sc' sl' q∧Dotted q P Q i j∧sz q≤1+i*D∧
  Bx wr w.heap.size #[.bool false,.slice none 0 0,.bool false,.slice none 0 0] 30∧Bx wr vb #[.bool sS,.slice sA sl sc,.bool sS',.slice sA' sl' sc'] 30∧Below w.heap.size w wr∧Below W.heap.size W wr
theorem dotV_q {w:World} {n:Nat} (h:GV w X n cx P M) (h':GV w Y m cy Q M') (hM0:n*(M+M'+3)≤15000000000) (hM:M≤15000000000) (hM':M'≤15000000000) (hn:n≤1000000) (hm:m≤1000000) (hT:Hid (Tab w)) :
  Calls Tryz.prog 93 #[.slice X n cx,.slice Y m cy] w (TellsR w (pdot P Q)):=by
 have hx:=zh h;have hy:=zh h';have hM:M≤19000000000:=zo;have hM':M'≤19000000000:=zo;clear h h';obtain⟨W,hW,x0,hB⟩:=zAd w #[.bool false,.slice none 0 0,.bool false,.slice none 0 0] 30;have HX0:=zh x0;clear x0;have Bz:=zr W;go_enter Tryz.func93,Tryz.ntmps93
 go_wp2_with fail
 rw[←hW];clear hW;go_wp2_with fail
 with_reducible refine(ordered_q (hx.out.below (bT hB (bT (b:=W) Bz))) hM hn (zt hT hB Bz)).mono ?_
 rintro e w1 ⟨A1,n1,c1,P1,rfl,h1,r1,e1,l1,z⟩;replace z:=zq (a:=W) z;replace Bz:=bT Bz z;clear z;go_wp2_with fail
 with_reducible refine(ordered_q (hy.out.below (bT hB (bT (b:=w1) Bz))) hM' hm (zt hT hB Bz)).mono ?_
 rintro e w2 ⟨A2,n2,c2,P2,rfl,h2,r2,e2,l2,z⟩;replace z:=zq (a:=w1) z;replace h1:=h1.below z;replace Bz:=bT Bz z;clear z;go_upto_region 3 with(fail)
 obtain⟨V1,hW,x1,hN⟩:=zAd w2 #[.bool false,.slice none 0 0,.bool false,.slice none 0 0] 30;rw[←hW];clear hW;obtain⟨v1,hb1⟩:=ze w2.heap.size;rw[←hb1] at x1 ⊢;have o0_1:w.heap.size<v1:=zi (zx HX0 Bz).lt;have ow_1:w.heap.size≤v1:=zi (zww hB Bz);replace hB:=bT (bT hB Bz) hN;replace HX0:=zba HX0 Bz hN;have HX1:=zh x1;have HN2:=zh hN;have how2:w2.heap.size≤v1:=zo;clear x1 hN Bz hb1;have Bz:=zr V1;go_wp2_with fail
 obtain⟨LX,x1,x2,rfl,x4,x5⟩:=h1;obtain⟨LY,y1,y2,rfl,y4,y5⟩:=h2;obtain⟨D,hD⟩:∃D,D=M+M'+3:=⟨_,rfl⟩;rw[←hD] at hM0;have HSX:=zh x1;have HSY:=zh y1;have HLX:=zh x1.1;have HLY:=zh y1.1;have HOX:=zh x2;have HOY:=zh y2;have HWX:=zh x4;have HWY:=zh y4;have HRX:=zh r1;have HRY:=zh r2;have HGX:=zh e1;have HGY:=zh e2;have HB1:=zh (bT hB Bz);have XX0:=zh (zx HX0 Bz);have XX1:=zh (zx HX1 Bz);clear x1 x2 x4 x5 y1 y2 y4 y5 r1 r2 e1 e2 hB Bz HX0 HX1;go_loopg [6,7] (n1+n2) (fun gk s6 s7 wr=>DT1 w w2 v1 (prs LX) (prs LY) n1 n2 D gk s6 s7 wr)
 case atStart=>exact⟨0,0,0,_,_,_,_,_,_,_,_,rfl,rfl,zA _,zA _,cA _,RN.zero _,Dotted.start _ _,nA sz_zero zo,XX0.out,XX1.out,HB1.out,HN2.out⟩
 case round =>
  clear HB1 XX0 XX1 HN2;obtain⟨i,j,q,sS,sA,sc,sl,sS',sA',sc',sl',rfl,rfl,hi,hj,hgk,hs,hd,hsq,hx0,hx1,hB,hBW⟩:=hrel;have HDT:=zh hd;have HX0:=zh hx0;have HX1:=zh hx1;clear hd hx0 hx1;by_cases hin:i<n1
  ·have i1:(i:Int)<(n1:Int):=zo;by_cases hjm:j<n2
   ·obtain⟨bx,ox,rfl,hel⟩:=HSX.out.at Tm.cs_len zo zo;obtain⟨by_,oy,rfl,hel'⟩:=HSY.out.at Tm.cs_len zo zo;obtain⟨x,ex⟩:∃x,LX[i]?=some x:=⟨LX[i]'(by rw[HLX.out];exact hin),aA _⟩;obtain⟨y,ey⟩:∃y,LY[j]?=some y:=⟨LY[j]'(by rw[HLY.out];exact hjm),aA _⟩;have hnd:=hel i x ex;have hnd':=hel' j y ey;have hfx:=HOX.out x (eA ex);have hfy:=HOY.out y (eA ey);have hrx:R wr x.x.s x.x.A x.x.c x.x.l x.x.s' x.x.A' x.x.c' x.x.l' x.x.q (dgT x):=(hfx.below hBW).r;have hry:R wr y.x.s y.x.A y.x.c y.x.l y.x.s' y.x.A' y.x.c' y.x.l' y.x.q (dgT y):=(hfy.below hBW).r;have hdx:dgT x+2≤M+1:=nA (wsum_mem (eA ex)) (HWX.out _);have hdy:dgT y+2≤M'+1:=nA (wsum_mem (eA ey)) (HWY.out _);have hsx:=hfx.szd;have hsy:=hfy.szd;have hsm:sz (x.x.q*y.x.q)≤(dgT x+1)+(dgT y+1):=sz_mul hsx hsy;have hsa:=sz_add hsq hsm;have hiD:i*D≤n*D:=cB _ zo;have hiS:(i+1)*D=i*D+D:=by rw[aC,yD]
    have hD1:D≤n*D:=Nat.le_mul_of_pos_left D zo;have hpx:=prs_get ex;have hpy:=prs_get ey;have j1:(j:Int)<(n2:Int):=zo;have i2:(0:Int)≤(i:Int):=zo;have j2:(0:Int)≤(j:Int):=zo;clear hel hel' ex ey hfx hfy;by_cases hxy:x.at_<y.at_
    ·have HD2:Hid (Dotted q (prs LX) (prs LY) (i+1) j):=zh (HDT.out.left HRX.out HRY.out hpx hpy hxy);have HS1:Hid (sz q≤1+(i+1)*D):=zh (by rw[hiS];omega);have g1:x.at_<y.at_:=hxy;clear hxy hpx hpy;have Bz:=zr wr;have pA0:=(hnd.below (bT hBW Bz)).c0 (u:=.int .i64 x.at_) rfl;have pB0:=(hnd'.below (bT hBW Bz)).c0 (u:=.int .i64 y.at_) rfl;go_wp2_with fail
     (try simp only[vA,vBa,vC])
     refine zl (zza [0,1,2,3,4,5,6,7,8,9,10,11] .done) [] (zsa pA0 (zIa pB0)) ?_;iterate 12 (refine zUa ?_;try simp only[uW,uX,uY,uZ])
     refine zAa ?_;go_wp2_with fail
     have hs1:=HS1.out;go_roundg (n1-(i+1)+(n2-(j)))
     case measure=>omega
     case rel=>exact⟨i+1,j,_,_,_,_,_,_,_,_,_,by go_num,rfl,zo,zo,cA _,RN.below hs,HD2.out,hs1,HX0.out.below (bT Bz),HX1.out.below (bT Bz),bT (bT hB Bz),bT (bT hBW Bz)⟩
    ·have g1:¬x.at_<y.at_:=hxy;by_cases hyx:y.at_<x.at_
     ·have HD2:Hid (Dotted q (prs LX) (prs LY) i (j+1)):=zh (HDT.out.right HRX.out HRY.out hpx hpy hyx);have HS1:Hid (sz q≤1+i*D):=zh hsq;have g2:y.at_<x.at_:=hyx;clear hxy hyx hpx hpy;have Bz:=zr wr;have pA0:=(hnd.below (bT hBW Bz)).c0 (u:=.int .i64 x.at_) rfl;have pB0:=(hnd'.below (bT hBW Bz)).c0 (u:=.int .i64 y.at_) rfl;go_wp2_with fail
      (try simp only[vA,vBa,vC])
      refine zl (zza [0,1,2,3,4,5,6,7,8,9,10,11] .done) [] (zsa pA0 (zIa pB0)) ?_;iterate 12 (refine zUa ?_;try simp only[uW,uX,uY,uZ])
      refine zAa ?_;go_wp2_with fail
      (try simp only[vA,vBa,vC])
      refine zl (zza [0,1,2,3,4,5,6,7,8,9,10,11] .done) [] (zsa pA0 (zIa pB0)) ?_;iterate 12 (refine zUa ?_;try simp only[uW,uX,uY,uZ])
      refine zAa ?_;go_wp2_with fail
      have hs1:=HS1.out;go_roundg (n1-(i)+(n2-(j+1)))
      case measure=>omega
      case rel=>exact⟨i,j+1,_,_,_,_,_,_,_,_,_,rfl,by go_num,zo,zo,cA _,RN.below hs,HD2.out,hs1,HX0.out.below (bT Bz),HX1.out.below (bT Bz),bT (bT hB Bz),bT (bT hBW Bz)⟩
     ·have HD2:Hid (Dotted (q+x.x.q*y.x.q) (prs LX) (prs LY) (i+1) (j+1)):=zh (HDT.out.both HRX.out HRY.out hpx hpy (show x.at_=y.at_ by omega));have HS1:Hid (sz (q+x.x.q*y.x.q)≤1+(i+1)*D):=zh (by rw[hiS];omega);have g2:¬y.at_<x.at_:=hyx;clear hxy hyx hpx hpy;have Bz:=zr wr;obtain⟨pb0,pb1,pb2,pb3,-⟩:=(zx HX1 Bz).cz;obtain⟨y1,fb0,fb1,fb2,fb3,-⟩:=(zx HX1 Bz).fz;obtain⟨pA0,pA1,pA2,pA3,pA4,-⟩:=(hnd.below (bT hBW Bz)).ez;obtain⟨pB0,pB1,pB2,pB3,pB4,-⟩:=(hnd'.below (bT hBW Bz)).ez;go_wp2_with fail
      (try simp only[vA,vBa,vC])
      refine zl (zza [0,1,2,3,4,5,6,7,8,9,10,11] .done) [] (zsa pA0 (zIa pB0)) ?_;iterate 12 (refine zUa ?_;try simp only[uW,uX,uY,uZ])
      refine zAa ?_;go_wp2_with fail
      (try simp only[vA,vBa,vC])
      refine zl (zza [0,1,2,3,4,5,6,7,8,9,10,11] .done) [] (zsa pA0 (zIa pB0)) ?_;iterate 12 (refine zUa ?_;try simp only[uW,uX,uY,uZ])
      refine zAa ?_;go_wp2_with fail
      (try simp only[vA,vBa,vC])
      refine zl (.take 0 (.pure 1 (.pure 2 (.pure 3 (.pure 4 (.take 5 (.pure 6 (.pure 7 (.pure 8 (.pure 9 (.take 10 (.only 11 (.only 12 (.only 13 .done)))))))))))))) [13] (zsa pb0 (zsa pb1 (zsa pb2 (zsa pb3 (zsa pA1 (zsa pA2 (zsa pA3 (zsa pA4 (zsa pB1 (zsa pB2 (zsa pB3 (zIa pB4)))))))))))) ?_;iterate 11 ((first|refine zUa ?_|refine zV ?_);try simp only[uW,uX,uY,uZ])
      refine zC 33 rfl rfl (fun K hK=>?_);go_simp
      with_reducible refine(mul_q (R.below hrx) (R.below hry) zo (zt hT hB Bz)).mono ?_
      rintro e w11 ⟨s11,A11,c11,l11,s11r,A11r,c11r,l11r,rfl,h11,z⟩;replace z:=zq (a:=wr) z;replace hs:=hs.below z;replace Bz:=bT Bz z;clear z;clear pb0 pb1 pb2 pb3 fb0 fb1 fb2 fb3 y1 pA0 pA1 pA2 pA3 pA4 pB0 pB1 pB2 pB3 pB4;obtain⟨pb0,pb1,pb2,pb3,-⟩:=(zx HX1 Bz).cz;obtain⟨y1,fb0,fb1,fb2,fb3,-⟩:=(zx HX1 Bz).fz;obtain⟨-,pA1,pA2,pA3,pA4,-⟩:=(hnd.below (bT hBW Bz)).ez;obtain⟨-,pB1,pB2,pB3,pB4,-⟩:=(hnd'.below (bT hBW Bz)).ez;refine hK.out _ _ ⟨pb0,pb1,pb2,pb3,pA1,pA2,pA3,pA4,pB1,pB2,pB3,pB4⟩ (fun _=>?_);try simp only[uW,uX,uY,uZ]
      clear hK K;refine zC 34 rfl rfl (fun K hK=>?_);go_simp
      with_reducible refine(add_q (R.below hs.r) (R.below h11.r) zo (zt hT hB Bz)).mono ?_
      rintro e w12 ⟨s12,A12,c12,l12,s12r,A12r,c12r,l12r,rfl,h12,z⟩;replace z:=zq (a:=w11) z;replace Bz:=bT Bz z;clear z;clear pb0 pb1 pb2 pb3 fb0 fb1 fb2 fb3 y1 pA1 pA2 pA3 pA4 pB1 pB2 pB3 pB4;obtain⟨pb0,pb1,pb2,pb3,-⟩:=(zx HX1 Bz).cz;obtain⟨y1,fb0,fb1,fb2,fb3,-⟩:=(zx HX1 Bz).fz;obtain⟨-,pA1,pA2,pA3,pA4,-⟩:=(hnd.below (bT hBW Bz)).ez;obtain⟨-,pB1,pB2,pB3,pB4,-⟩:=(hnd'.below (bT hBW Bz)).ez;refine hK.out _ _ ⟨pb0,pb1,pb2,pb3,pA1,pA2,pA3,pA4,pB1,pB2,pB3,pB4⟩ (fun _=>?_);try simp only[uW,uX,uY,uZ]
      clear hK K;refine zAb (o:=⟨none,_,_,_,_,_⟩) rfl rfl zd (fun K hK=>?_);go_simp
      refine hK.out _ _ ?_;try simp only[Act.put,uX,uY,uZ]
      clear hK K;refine zAa ?_;obtain⟨V11,hW,x,kk,far,bel⟩:=store4 (.bool s12) (.slice A12 l12 c12) (.bool s12r) (.slice A12r l12r c12r) (zx HX1 Bz) nofun nofun nofun nofun;rw[←hW];clear hW;replace h12:=h12.k kk;replace hB:=bel w.heap.size w zo (bT hB Bz);replace hBW:=bel w2.heap.size w2 zo (bT hBW Bz);replace HX0:=zf far HX0 Bz;replace HX1:=zh x;clear x kk far bel Bz;have Bz:=zr V11;clear pb0 pb1 pb2 pb3 fb0 fb1 fb2 fb3 y1 pA1 pA2 pA3 pA4 pB1 pB2 pB3 pB4;go_wp2_with fail
      have hs1:=HS1.out;go_roundg (n1-(i+1)+(n2-(j+1)))
      case measure=>omega
      case rel=>exact⟨i+1,j+1,_,_,_,_,_,_,_,_,_,by go_num,by go_num,zo,zo,cA _,RN.below h12,HD2.out,hs1,HX0.out.below (bT Bz),HX1.out.below (bT Bz),bT (bT hB Bz),bT (bT hBW Bz)⟩
   ·obtain rfl:j=n2:=zo;have j1:¬(j:Int)<(j:Int):=zo;have HEND:Hid (q=pdot P Q):=zh (by rw[HDT.out.done (.inr (by rw[zAh,HLY.out];exact cA _)),pdot_congr HGY.out,pdot_congr_left HGX.out]);have Bz:=zr wr;obtain⟨pa0,pa1,pa2,pa3,-⟩:=(zx HX0 Bz).cz;obtain⟨y0,fa0,fa1,fa2,fa3,-⟩:=(zx HX0 Bz).fz;obtain⟨pb0,pb1,pb2,pb3,-⟩:=(zx HX1 Bz).cz;go_wp2_with fail
    (try simp only[Exit.inBlock,Exit.then])
    refine bodyPost_ret (by simp[results,Tryz.results93,go_sem,pa0,pa1,pa2,pa3];try rfl) rfl ?_;obtain⟨V1,hW,x,kk,far,bel⟩:=store4 (.bool sS) (.slice sA sl sc) (.bool sS') (.slice sA' sl' sc') (zx HX0 Bz) nofun nofun nofun nofun;rw[←hW];clear hW;replace hs:=hs.k kk;replace hB:=bel w.heap.size w zo (bT hB Bz);replace HX1:=zf far HX1 Bz;replace HX0:=zh x;clear x kk far bel Bz;have Bz:=zr V1;have hF:=bT (c:=V1) hB Bz;exact⟨_,_,_,_,_,_,_,_,rfl,by rw[←HEND.out];exact RN.below hs,bT hF⟩
  ·obtain rfl:i=n1:=zo;have i1:¬(i:Int)<(i:Int):=zo;have HEND:Hid (q=pdot P Q):=zh (by rw[HDT.out.done (.inl (by rw[zAh,HLX.out];exact cA _)),pdot_congr HGY.out,pdot_congr_left HGX.out]);have Bz:=zr wr;obtain⟨pa0,pa1,pa2,pa3,-⟩:=(zx HX0 Bz).cz;obtain⟨y0,fa0,fa1,fa2,fa3,-⟩:=(zx HX0 Bz).fz;obtain⟨pb0,pb1,pb2,pb3,-⟩:=(zx HX1 Bz).cz;go_wp2_with fail
   (try simp only[Exit.inBlock,Exit.then])
   refine bodyPost_ret (by simp[results,Tryz.results93,go_sem,pa0,pa1,pa2,pa3];try rfl) rfl ?_;obtain⟨V1,hW,x,kk,far,bel⟩:=store4 (.bool sS) (.slice sA sl sc) (.bool sS') (.slice sA' sl' sc') (zx HX0 Bz) nofun nofun nofun nofun;rw[←hW];clear hW;replace hs:=hs.k kk;replace hB:=bel w.heap.size w zo (bT hB Bz);replace HX1:=zf far HX1 Bz;replace HX0:=zh x;clear x kk far bel Bz;have Bz:=zr V1;have hF:=bT (c:=V1) hB Bz;exact⟨_,_,_,_,_,_,_,_,rfl,by rw[←HEND.out];exact RN.below hs,bT hF⟩
end Go.Proofs.YtfpbmpllildbaaaGreatDoor
