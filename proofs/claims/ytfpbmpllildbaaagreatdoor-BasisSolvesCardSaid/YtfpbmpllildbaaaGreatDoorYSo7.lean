import Derived.Test.YtfpbmpllildbaaaGreatDoorYMxT
set_option maxHeartbeats 8000000
set_option maxRecDepth 100000
namespace Go.Proofs.YtfpbmpllildbaaaGreatDoor
open Go.RowKit Tw
def sameT (p:Tm×Tm):Bool:=decide (p.1.at_=p.2.at_)&&decide (p.1.x.q=p.2.x.q)
theorem prs_zip:∀{L M:List Tm},L.length=M.length→((L.zip M).all sameT=true↔prs L=prs M):=by
 intro L;induction L with
 | nil=>intro M h;cases M with
  | nil=>simp[prs]
  | cons y M=>simp at h
 | cons x L ih =>
  intro M h;cases M with
  | nil=>simp at h
  | cons y M =>
   have h2:=ih (M:=M) (by simpa using h);rw[List.zip_cons_cons,List.all_cons,wB,h2];show _↔(x.at_,x.x.q) :: prs L=(y.at_,y.x.q) :: prs M
   unfold sameT
   simp only[wB,dC,List.cons.injEq,Prod.mk.injEq]
theorem prs_zip_all {L M:List Tm} (h:L.length=M.length):decide (prs L=prs M)=(L.zip M).all sameT:=by
 have:=prs_zip h;cases e:(L.zip M).all sameT
 ·rw[e] at this;exact jA (fun h2=>by have:=this.2 h2;cases this)
 ·rw[e] at this;exact fA (this.1 rfl)
def SV1 (w:World) (Z:List (Tm×Tm)) (n gk:Nat) (s:Value) (wr:World):Prop:=∃i:Nat,i≤n∧n-i=gk∧s=.int .i64 (i:Int)∧Below w.heap.size w wr∧(Z.take i).all sameT=true
theorem OnT.len {w:World} {L:List Tm} {M:Nat} (h:OnT w L (fun _=>M)):∀t∈L,t.x.l≤M∧t.x.l'≤M:=fun t ht=>by have h1:=h.dg t ht;have h2:=(h t ht).2.2;unfold dgT at h1;simp only at h2;omega
theorem sameVec_q {w:World} {A A':Option Addr} {n n' c c' M M':Nat} {P Q:List (Int×Rat)} (h:NV w A n c P M) (h':NV w A' n' c' Q M') (hM:M≤40000000000) (hM':M'≤40000000000) (hn:n≤1000000) (hn':n'≤1000000) (r:Bool) (hr:Hid (decide (P=Q)=r)) :
  Calls Tryz.prog 18 #[.slice A n c,.slice A' n' c'] w fun e w'=>e=.returned (.bool r)∧Below w.heap.size w w':=by
 obtain⟨L,x1,x2,rfl,x4⟩:=h;obtain⟨K,y1,y2,rfl,y4⟩:=h';have H:=zh x1;have H':=zh y1;have HLN:=zh x1.1;have HMN:=zh y1.1;have HOX:=zh x2;have HOY:=zh y2;clear x1 x2 x4 y1 y2 y4;by_cases hnn:n=n'
 ·subst hnn;have g0:((n:Int) !=(n:Int))=false:=by simp
  have hra:Hid ((L.zip K).all sameT=r):=zh (by rw[←hr.out,prs_zip_all (HLN.out.trans HMN.out.symm)]);have HZL:Hid ((L.zip K).length=n):=zh (by rw[List.length_zip,HLN.out,HMN.out];exact Nat.min_self _);have hst:SV1 w (L.zip K) n n (.int .i64 ((0:Nat):Int)) w:=⟨0,zA _,rfl,rfl,Below.refl _ _,by simp⟩;have HST:=zh hst;clear hst hr;go_enter Tryz.func18,Tryz.ntmps18
  go_wp2_with fail
  go_loopg [5] n (fun gk s wr=>SV1 w (L.zip K) n gk s wr)
  case atStart=>exact HST.out
  case round =>
   clear HST;obtain⟨i,hi,hgk,rfl,hB,hd⟩:=hrel;have HGK:=zh hgk;have HD:=zh hd;clear hgk hd;by_cases hlt:i<n
   ·obtain⟨b,off,rfl,hel⟩:=H.out.at Tm.cs_len zo zo;obtain⟨b',off',rfl,hel'⟩:=H'.out.at Tm.cs_len zo zo;obtain⟨x,ex⟩:∃x,L[i]?=some x:=⟨L[i]'(by rw[HLN.out];exact hlt),aA _⟩;obtain⟨y,ey⟩:∃y,K[i]?=some y:=⟨K[i]'(by rw[HMN.out];exact hlt),aA _⟩;have hnd:=hel i x ex;have hnd':=hel' i y ey;have HZI:Hid ((L.zip K)[i]?=some (x,y)):=zh (by rw[List.getElem?_zip_eq_some];exact⟨ex,ey⟩);have HRX:=zh (HOX.out x (eA ex)).1;have HRY:=zh (HOY.out y (eA ey)).1;have hlx0:=HOX.out.len x (eA ex);have hly0:=HOY.out.len y (eA ey);have hlx:x.x.l≤800000000000∧x.x.l'≤800000000000:=zo;have hly:y.x.l≤800000000000∧y.x.l'≤800000000000:=zo;have hsx:sz x.x.q+1≤M:=(HOX.out x (eA ex)).2.2;have hsy:sz y.x.q+1≤M':=(HOY.out y (eA ey)).2.2;have i1:(i:Int)<(n:Int):=zo;have i2:(0:Int)≤(i:Int):=zo;clear ex hel ey hel' hlx0 hly0;by_cases hat:x.at_=y.at_
    ·have g1:(x.at_ != y.at_)=false:=by simpa using hat
     by_cases hq:x.x.q=y.x.q
     ·have HQ:Hid (decide (x.x.q=y.x.q)=true):=zh (fA hq);have HP:Hid (sameT (x,y)=true):=zh (by unfold sameT;rw[fA hat,fA hq];rfl);clear hat hq;have Bz:=zr wr;obtain⟨pA0,pA1,pA2,pA3,pA4,-⟩:=(hnd.below (bT hB Bz)).ez;obtain⟨pB0,pB1,pB2,pB3,pB4,-⟩:=(hnd'.below (bT hB Bz)).ez;go_wp2_with fail
      (try simp only[vA,vBa,vC])
      refine zl (zza [0,1,2,3,4,5,6,7,8,9,10,11,12,13,14,15,16,17,18,19,20,21] (.only 22 (zza [23,24] .done))) [] (zsa pA0 (zsa pA1 (zsa pA2 (zsa pA3 (zsa pA4 (zsa pB0 (zsa pB1 (zsa pB2 (zsa pB3 (zIa pB4)))))))))) ?_;iterate 22 (refine zUa ?_;try simp only[uW,uX,uY,uZ])
      refine zC 39 rfl rfl (fun K hK=>?_);go_simp
      with_reducible refine(sameRat_rn (HRX.out.below (bT hB (bT (b:=wr) Bz))) (HRY.out.below (bT hB (bT (b:=wr) Bz))) hlx hly true HQ).mono ?_
      rintro e w1 ⟨rfl,z⟩;replace z:=zq (a:=wr) z;replace Bz:=bT Bz z;clear z;clear pA0 pA1 pA2 pA3 pA4 pB0 pB1 pB2 pB3 pB4;obtain⟨pA0,pA1,pA2,pA3,pA4,-⟩:=(hnd.below (bT hB Bz)).ez;obtain⟨pB0,pB1,pB2,pB3,pB4,-⟩:=(hnd'.below (bT hB Bz)).ez;refine hK.out _ _ ⟨pA0,pA1,pA2,pA3,pA4,pB0,pB1,pB2,pB3,pB4⟩ (fun _=>?_);try simp only[uW,uX,uY,uZ]
      clear hK K;iterate 2 (refine zUa ?_;try simp only[uW,uX,uY,uZ])
      refine zAa ?_;go_wp2_with fail
      go_roundg (n-(i+1))
      case measure=>have:=HGK.out;omega
      case rel=>exact⟨i+1,zo,rfl,by go_num,bT (bT hB Bz),take_all HD.out HZI.out HP.out⟩
     ·have HQ:Hid (decide (x.x.q=y.x.q)=false):=zh (jA hq);have HP:Hid (sameT (x,y)=false):=zh (by unfold sameT;rw[jA hq,Bool.and_false]);clear hat hq;have Bz:=zr wr;obtain⟨pA0,pA1,pA2,pA3,pA4,-⟩:=(hnd.below (bT hB Bz)).ez;obtain⟨pB0,pB1,pB2,pB3,pB4,-⟩:=(hnd'.below (bT hB Bz)).ez;go_wp2_with fail
      (try simp only[vA,vBa,vC])
      refine zl (zza [0,1,2,3,4,5,6,7,8,9,10,11,12,13,14,15,16,17,18,19,20,21] (.only 22 (zza [23,24] .done))) [] (zsa pA0 (zsa pA1 (zsa pA2 (zsa pA3 (zsa pA4 (zsa pB0 (zsa pB1 (zsa pB2 (zsa pB3 (zIa pB4)))))))))) ?_;iterate 22 (refine zUa ?_;try simp only[uW,uX,uY,uZ])
      refine zC 39 rfl rfl (fun K hK=>?_);go_simp
      with_reducible refine(sameRat_rn (HRX.out.below (bT hB (bT (b:=wr) Bz))) (HRY.out.below (bT hB (bT (b:=wr) Bz))) hlx hly false HQ).mono ?_
      rintro e w1 ⟨rfl,z⟩;replace z:=zq (a:=wr) z;replace Bz:=bT Bz z;clear z;clear pA0 pA1 pA2 pA3 pA4 pB0 pB1 pB2 pB3 pB4;obtain⟨pA0,pA1,pA2,pA3,pA4,-⟩:=(hnd.below (bT hB Bz)).ez;obtain⟨pB0,pB1,pB2,pB3,pB4,-⟩:=(hnd'.below (bT hB Bz)).ez;refine hK.out _ _ ⟨pA0,pA1,pA2,pA3,pA4,pB0,pB1,pB2,pB3,pB4⟩ (fun _=>?_);try simp only[uW,uX,uY,uZ]
      clear hK K;iterate 2 (refine zUa ?_;try simp only[uW,uX,uY,uZ])
      refine zAa ?_;go_wp2_with fail
      go_ret
      have hF:=bT (c:=w1) hB Bz;obtain rfl:r=false:=by rw[←hra.out];exact all_no HZI.out HP.out
      exact⟨rfl,bT (bT hB Bz)⟩
    ·have g1:(x.at_ != y.at_)=true:=by simpa using hat
     have HP:Hid (sameT (x,y)=false):=zh (by unfold sameT;rw[jA hat,Bool.false_and]);clear hat;have Bz:=zr wr;have pA0:=(hnd.below (bT hB Bz)).c0 (u:=.int .i64 x.at_) rfl;have pB0:=(hnd'.below (bT hB Bz)).c0 (u:=.int .i64 y.at_) rfl;go_wp2_with fail
     (try simp only[vA,vBa,vC])
     refine zl (zza [0,1,2,3,4,5,6,7,8,9,10,11,12,13,14,15,16,17,18,19,20,21] (.only 22 (zza [23,24] .done))) [] (zsa pA0 (zIa pB0)) ?_;iterate 12 (refine zUa ?_;try simp only[uW,uX,uY,uZ])
     iterate 10 (refine zN rfl rfl ?_;try simp only[uW,uX,uY,uZ])
     refine wpPlan_pass (o:=⟨some 39,_,_,_,_,_⟩) rfl rfl ⟨pA0,pB0⟩ ?_;try simp only[uW,uX,uY,uZ]
     refine zN rfl rfl ?_;try simp only[uW,uX,uY,uZ]
     refine zUa ?_;try simp only[uW,uX,uY,uZ]
     refine zAa ?_;go_wp2_with fail
     go_ret
     have hF:=bT (c:=wr) hB Bz;obtain rfl:r=false:=by rw[←hra.out];exact all_no HZI.out HP.out
     exact⟨rfl,bT (bT hB Bz)⟩
   ·obtain rfl:i=n:=zo;have i1:¬(i:Int)<(i:Int):=zo;obtain rfl:r=true:=by rw[←hra.out];exact all_yes HZL.out HD.out
    go_wp2_with fail
    go_ret
    exact⟨rfl,hB⟩
 ·have g0:((n:Int) !=(n':Int))=true:=by simp;omega
  obtain rfl:r=false:=by rw[←hr.out];exact jA (fun e=>hnn (by have e2:=congrArg List.length e;rw[zAh,zAh,HLN.out,HMN.out] at e2;exact e2))
  clear hr;go_enter Tryz.func18,Tryz.ntmps18
  go_wp2_with fail
  go_ret
  exact⟨rfl,Below.refl _ _⟩
def putF (P:List (Int×Rat)) (at_:Int) (q:Rat):List (Int×Rat):=(P.filter fun x=>decide (x.1≠at_))++[(at_,q)]
def offT (at_:Int) (t:Tm):Bool:=decide (t.at_≠at_)
theorem off_snoc {L:List Tm} {i:Nat} {x:Tm} {at_:Int} (h:L[i]?=some x):(L.take (i+1)).filter (offT at_)=(L.take i).filter (offT at_)++if x.at_=at_ then [] else [x]:=by
 rw[take_snoc h,List.filter_append];congr 1
 by_cases e:x.at_=at_
 ·rw[bB e,List.filter_cons_of_neg (by simp[offT,e])];rfl
 ·rw[yA e,List.filter_cons_of_pos (by simp[offT,e])];rfl
theorem wsum_filter (L:List Tm) (p:Tm→Bool) (a:Int):wsum (L.filter p) a≤wsum L a:=by
 induction L with
 | nil=>exact cA _
 | cons x L ih =>
  rw[nG];split
  ·simp only[wsum];omega
  ·simp only[wsum];omega
def PT1 (w:World) (cs:Array Value) (L:List Tm) (at_:Int) (n gk:Nat) (s7 s16:Value) (wr:World):Prop :=
 ∃(i k:Nat) (H:Option Addr) (hc:Nat) (O:List Tm),s7=.slice H k hc∧s16=.int .i64 (i:Int)∧i≤n∧n-i≤gk∧k≤i∧OwnR wr (w.heap.size+1) 32 5 (.slice H k hc) k (flat Tm.cs O)∧O=(L.take i).filter (offT at_)∧Bx wr w.heap.size cs 30∧Below w.heap.size w wr
theorem one_wrap {n:Nat} (hn:n≤1000000):IntKind.i64.wrap ((n:Int)+1)=((n+1:Nat):Int):=by rw[IntWalk.i64_in _ zo];omega
theorem putO_q {w:World} {s s':Bool} {A A':Option Addr} {l c l' c':Nat} {q:Rat} {mq:Nat} {X:Option Addr} {n cx M:Nat} {P:List (Int×Rat)} (h:GV w X n cx P M) (at_:Int) (ha:R w s A c l s' A' c' l' q mq) (hM:M+mq≤18000000000) (hn:n≤900000) (hT:Hid (Tab w)) :
  Calls Tryz.prog 51 #[.slice X n cx,.int .i64 at_,.agg #[.bool s,.slice A l c,.bool s',.slice A' l' c']] w (TellsVO w (nrm (putF P at_ q)) (M+mq+2)):=by
 obtain⟨L,x1,x2,rfl,x4,x5⟩:=h;obtain⟨ex,hfa⟩:=ha.fr;have HS:=zh x1;have HLN:=zh x1.1;have HOK:=zh x2;have HWS:=zh x4;have HFA:=zh hfa;have HAL:=zh ha.len;have w0:=one_wrap (n:=n) zo;clear x1 x2 x4 x5 hfa ha;obtain⟨W,hW,x0,hB⟩:=zAd w #[.bool s,.slice A l c,.bool s',.slice A' l' c'] 30;have HX0:=zh x0;have hWl:=x0.lt;clear x0;go_enter Tryz.func51,Tryz.ntmps51
 go_wp2_with (at_make;rw[←hW];refine And.left (b:=True) ?_)
 clear hW;refine⟨?_,trivial⟩;refine Elt.make elt_term rfl _ _ rfl .i64 .i64 _ (n+1) rfl rfl (by first | rfl | (push_cast;rfl) | omega) zo (w.heap.size+1) hWl ?_;intro g0 w1 ho1 hB1 hg0;have HO1:=zh ho1;have HB1:=zh (bT hB hB1);have XX0:=zh (HX0.out.below hB1);clear ho1 hB1 hg0 hB HX0 hWl;go_wp2_with fail
 go_loopg [7,16] n (fun gk s7 s16 wr=>PT1 w #[.bool s,.slice A l c,.bool s',.slice A' l' c'] L at_ n gk s7 s16 wr)
 case atStart=>exact⟨0,0,_,_,[],rfl,rfl,zA _,cA _,cA _,HO1.out.below (by go_grown),rfl,XX0.out.below (by go_grown),bT HB1.out⟩
 case round =>
  clear HO1 HB1 XX0 w0;obtain⟨i,k,H,hc,O,rfl,rfl,hi,hgk,hk,ho,hp,hx0,hB⟩:=hrel;have HP:=zh hp;have HX0:=zh hx0;clear hp hx0;by_cases hlt:i<n
  ·obtain⟨b,off,rfl,hel⟩:=HS.out.at Tm.cs_len zo zo;obtain⟨x,hx⟩:∃x,L[i]?=some x:=⟨L[i]'(by rw[HLN.out];exact hlt),aA _⟩;have hnd:=hel i x hx;have hsn:=off_snoc (at_:=at_) hx;have i1:(i:Int)<(n:Int):=zo;have i2:(0:Int)≤(i:Int):=zo;clear hel hx;by_cases hq:x.at_=at_
   ·have g1:(x.at_ != at_)=false:=by simpa using hq
    have HP2:Hid (O=(L.take (i+1)).filter (offT at_)):=zh (by rw[hsn,bB hq,wE,HP.out]);clear hsn hq;have Bz:=zr wr;obtain⟨pA0,pA1,pA2,pA3,pA4,-⟩:=(hnd.below (bT hB Bz)).ez;go_upto_region 5 with(fail)
    obtain⟨V1,hW,x1,hN⟩:=zAd wr #[.int .i64 x.at_,.bool x.x.s,.slice x.x.A x.x.l x.x.c,.bool x.x.s',.slice x.x.A' x.x.l' x.x.c'] 32;rw[←hW];clear hW;obtain⟨v1,hb1⟩:=ze wr.heap.size;rw[←hb1] at x1 ⊢;have ow_1:w.heap.size≤v1:=zi (zww hB Bz);replace ho:=ho.below hN;replace hB:=bT (bT hB Bz) hN;replace HX0:=zba HX0 Bz hN;have HX1:=zh x1;clear x1 hN Bz hb1;have Bz:=zr V1;clear pA0 pA1 pA2 pA3 pA4;have pb0:=(zx HX1 Bz).cell 0 (.int .i64 x.at_) rfl;go_wp2_with fail
    go_roundg (n-(i+1))
    case measure=>omega
    case rel=>exact⟨i+1,k,_,_,_,rfl,by go_num,zo,cA _,zo,OwnR.below ho,HP2.out,HX0.out.below (bT Bz),bT (bT hB Bz)⟩
   ·have g1:(x.at_ != at_)=true:=by simpa using hq
    have HP2:Hid (O++[x]=(L.take (i+1)).filter (offT at_)):=zh (by rw[hsn,yA hq,HP.out]);clear hsn hq;have Bz:=zr wr;obtain⟨pA0,pA1,pA2,pA3,pA4,-⟩:=(hnd.below (bT hB Bz)).ez;go_upto_region 5 with(fail)
    obtain⟨V1,hW,x1,hN⟩:=zAd wr #[.int .i64 x.at_,.bool x.x.s,.slice x.x.A x.x.l x.x.c,.bool x.x.s',.slice x.x.A' x.x.l' x.x.c'] 32;rw[←hW];clear hW;obtain⟨v1,hb1⟩:=ze wr.heap.size;rw[←hb1] at x1 ⊢;have ow_1:w.heap.size≤v1:=zi (zww hB Bz);replace ho:=ho.below hN;replace hB:=bT (bT hB Bz) hN;replace HX0:=zba HX0 Bz hN;have HX1:=zh x1;clear x1 hN Bz hb1;have Bz:=zr V1;clear pA0 pA1 pA2 pA3 pA4;obtain⟨pb0,pb1,pb2,pb3,pb4,-⟩:=(zx HX1 Bz).cz;go_wp2_with (at_builtin;refine And.left (b:=True) ?_)
    refine⟨?_,trivial⟩;obtain⟨V2,hW,x2,hN⟩:=zAd V1 #[.int .i64 x.at_,.bool x.x.s,.slice x.x.A x.x.l x.x.c,.bool x.x.s',.slice x.x.A' x.x.l' x.x.c'] 32;rw[←hW];clear hW;obtain⟨v2,hb2⟩:=ze V1.heap.size;rw[←hb2] at x2 ⊢;have ow_2:w.heap.size≤v2:=zi (zww hB Bz);replace ho:=ho.below hN;replace hB:=bT (bT hB Bz) hN;replace HX0:=zba HX0 Bz hN;replace HX1:=zba HX1 Bz hN;have HX2:=zh x2;clear x2 hN Bz hb2;have Bz:=zr V2;clear pb0 pb1 pb2 pb3 pb4;have hdr:V2.drew.heap.size=V2.heap.size:=rfl;have hdr2:V2.drew.drew.heap.size=V2.heap.size:=rfl;refine Elt.app elt_term rfl _ _ rfl (w.heap.size+1) (.slice H k hc) (k) (O) rfl ho (.slice (some ⟨v2,0,none⟩) 1 1) (1) ([x]) rfl (From.one (HX2.out.below (bT Bz)) (x) rfl (elt_term.len _)) zo (zj (zx HX0 Bz).lt Bz.size) ?_;intro H1 c1 w1 ho1 hg1;replace hB:=(bT (bT hB Bz)).trans (hg1.below (zi (zww hB Bz)) (fun g hg=>by have:=ho.base g hg;omega));replace HX0:=zh (hg1.bx (zx HX0 Bz) (ho.off zo));clear HX1;clear HX2;clear hdr hdr2;clear hg1 Bz;have Bz:=zr w1;go_wp2_with fail
    go_roundg (n-(i+1))
    case measure=>omega
    case rel=>exact⟨i+1,k+1,_,_,_,rfl,by go_num,zo,cA _,zo,OwnR.below ho1,HP2.out,HX0.out.below (bT Bz),bT (bT hB Bz)⟩
  ·obtain rfl:i=n:=zo;have i1:¬(i:Int)<(i:Int):=zo;have gvp:∀{H1:Option Addr} {c1:Nat} (w1:World),Below w.heap.size w w1→OwnR w1 (w.heap.size+1) 32 5 (.slice H1 (k+1) c1) (k+1) (flat Tm.cs (O++[⟨at_,⟨s,A,c,l,s',A',c',l',q,ex⟩⟩]))→GV w1 H1 (k+1) c1 (putF (prs L) at_ q) (M+mq+2):=fun {H1} {c1} w1 hb ho1=>by
    have hO:O=L.filter (offT at_):=by rw[HP.out,qA (by rw[HLN.out];exact cA _)]
    refine⟨_,ho1.sl' elt_term (ho1.eltn elt_term zo),fun t ht=>?_,?_,fun a=>?_,fun hn=>?_⟩
    ·rcases sC.1 ht with ht | ht
     ·rw[hO] at ht;exact(HOK.out t (List.mem_filter.1 ht).1).below hb
     ·obtain rfl:=qC.1 ht;exact HFA.out.rep.below hb
    ·have hfp:prs (L.filter (offT at_))=(prs L).filter fun x=>decide (x.1≠at_):=filter_prs L fun x=>decide (x.1≠at_);rw[zAi,hO,hfp];rfl
    ·rw[wsum_append,hO];have h1:=nA (wsum_filter L (offT at_) a) (HWS.out a);have h2:=HAL.out;simp only[wsum,dgT]
     split<;>omega
    ·obtain⟨_,_,e9,h9,_⟩:=ho1.slice;cases e9;exact(h9 hn).2
   have Bz:=zr wr;obtain⟨pa0,pa1,pa2,pa3,-⟩:=(zx HX0 Bz).cz;go_wp2_with (at_builtin;refine And.left (b:=True) ?_)
   refine⟨?_,trivial⟩;obtain⟨V1,hW,x1,hN⟩:=zAd wr #[.int .i64 at_,.bool s,.slice A l c,.bool s',.slice A' l' c'] 32;rw[←hW];clear hW;obtain⟨v1,hb1⟩:=ze wr.heap.size;rw[←hb1] at x1 ⊢;have ow_1:w.heap.size≤v1:=zi (zww hB Bz);replace ho:=ho.below hN;replace hB:=bT (bT hB Bz) hN;replace HX0:=zba HX0 Bz hN;have HX1:=zh x1;clear x1 hN Bz hb1;have Bz:=zr V1;clear pa0 pa1 pa2 pa3;have hdr:V1.drew.heap.size=V1.heap.size:=rfl;have hdr2:V1.drew.drew.heap.size=V1.heap.size:=rfl;refine Elt.app elt_term rfl _ _ rfl (w.heap.size+1) (.slice H k hc) (k) (O) rfl ho (.slice (some ⟨v1,0,none⟩) 1 1) (1) ([⟨at_,⟨s,A,c,l,s',A',c',l',q,ex⟩⟩]) rfl (From.one (HX1.out.below (bT Bz)) (⟨at_,⟨s,A,c,l,s',A',c',l',q,ex⟩⟩) rfl (elt_term.len _)) zo (zj (zx HX0 Bz).lt Bz.size) ?_;intro H1 c1 w1 ho1 hg1;replace hB:=(bT (bT hB Bz)).trans (hg1.below (zi (zww hB Bz)) (fun g hg=>by have:=ho.base g hg;omega));clear HX0;clear HX1;clear hdr hdr2;clear hg1 Bz;have Bz:=zr w1;go_wp2_with fail
   with_reducible refine(normO_q (gvp w1 (bT hB Bz) ho1) zo zo (zt hT hB Bz)).mono ?_
   rintro e w2 ⟨A2,n2,c2,L2,rfl,h2,on2,ep2,z⟩;replace z:=zq (a:=w1) z;replace Bz:=bT Bz z;clear z;go_wp2_with fail
   go_ret
   have hF:=bT (c:=w2) hB Bz;exact⟨_,_,_,L2,rfl,(h2.below (by go_grown)).rebase (zi hB.size),on2.below (by go_grown),ep2,bT hF⟩
end Go.Proofs.YtfpbmpllildbaaaGreatDoor
