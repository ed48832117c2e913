/-
  tripwirelow.SameVec, sparse.Same, sparse.Put. Written by wip/gen/so7.py.
-/
import Derived.Test.YtljjgfmeaejnfaaGreatDoorYSo5
set_option maxHeartbeats 8000000
set_option maxRecDepth 100000
namespace Go.Proofs.YtljjgfmeaejnfaaGreatDoor
open Go.RowKit Tw
def sameT (p:Tm×Tm):Bool:=decide (p.1.at_=p.2.at_)&&decide (p.1.x.q=p.2.x.q)
theorem prs_zip:∀{L M:List Tm},L.length=M.length→((L.zip M).all sameT=true↔prs L=prs M):=by
 intro L
 induction L with
 | nil=>intro M h;cases M with
  | nil=>simp[prs]
  | cons y M=>simp at h
 | cons x L ih =>
  intro M h
  cases M with
  | nil=>simp at h
  | cons y M =>
   have h2:=ih (M:=M) (by simpa using h)
   rw[List.zip_cons_cons,List.all_cons,Bool.and_eq_true,h2]
   show _↔(x.at_,x.x.q) :: prs L=(y.at_,y.x.q) :: prs M
   unfold sameT
   simp only[Bool.and_eq_true,decide_eq_true_eq,List.cons.injEq,Prod.mk.injEq]
theorem prs_zip_all {L M:List Tm} (h:L.length=M.length):decide (prs L=prs M)=(L.zip M).all sameT:=by
 have:=prs_zip h
 cases e:(L.zip M).all sameT
 ·rw[e] at this;exact decide_eq_false (fun h2=>by have:=this.2 h2;cases this)
 ·rw[e] at this;exact decide_eq_true (this.1 rfl)
def SV1 (w:World) (Z:List (Tm×Tm)) (n gk:Nat) (s:Value) (wr:World):Prop:=∃i:Nat,i≤n∧n-i=gk∧s=.int .i64 (i:Int)∧Below w.heap.size w wr∧(Z.take i).all sameT=true
theorem OnT.len {w:World} {L:List Tm} {M:Nat} (h:OnT w L (fun _=>M)):∀t∈L,t.x.l≤M∧t.x.l'≤M:=fun t ht=>by have h1:=h.dg t ht;have h2:=(h t ht).2.2;unfold dgT at h1;simp only at h2;omega
theorem sameVec_q {w:World} {A A':Option Addr} {n n' c c' M M':Nat} {P Q:List (Int×Rat)} (h:NV w A n c P M) (h':NV w A' n' c' Q M') (hM:M≤40000) (hM':M'≤40000) (hn:n≤1000000) (hn':n'≤1000000) (r:Bool) (hr:Hid (decide (P=Q)=r)) :
  Calls Tryz.prog 23 #[.slice A n c,.slice A' n' c'] w fun e w'=>e=.returned (.bool r)∧Below w.heap.size w w':=by
 obtain⟨L,x1,x2,rfl,x4⟩:=h
 obtain⟨K,y1,y2,rfl,y4⟩:=h'
 have H:=zh x1
 have H':=zh y1
 have HLN:=zh x1.1
 have HMN:=zh y1.1
 have HOX:=zh x2
 have HOY:=zh y2
 clear x1 x2 x4 y1 y2 y4
 by_cases hnn:n=n'
 ·subst hnn
  have g0:((n:Int) !=(n:Int))=false:=by simp
  have hra:Hid ((L.zip K).all sameT=r):=zh (by rw[←hr.out,prs_zip_all (HLN.out.trans HMN.out.symm)])
  have HZL:Hid ((L.zip K).length=n):=zh (by rw[List.length_zip,HLN.out,HMN.out];exact Nat.min_self _)
  have hst:SV1 w (L.zip K) n n (.int .i64 ((0:Nat):Int)) w:=⟨0,Nat.zero_le _,rfl,rfl,Below.refl _ _,by simp⟩
  have HST:=zh hst
  clear hst hr
  go_enter Tryz.func23,Tryz.ntmps23
  go_wp2_with fail
  go_loopg [5] n (fun gk s wr=>SV1 w (L.zip K) n gk s wr)
  case atStart=>exact HST.out
  case round =>
   clear HST
   obtain⟨i,hi,hgk,rfl,hB,hd⟩:=hrel
   have HGK:=zh hgk
   have HD:=zh hd
   clear hgk hd
   by_cases hlt:i<n
   ·obtain⟨b,off,rfl,hel⟩:=H.out.at Tm.cs_len (by omega) (by omega)
    obtain⟨b',off',rfl,hel'⟩:=H'.out.at Tm.cs_len (by omega) (by omega)
    obtain⟨x,ex⟩:∃x,L[i]?=some x:=⟨L[i]'(by rw[HLN.out];exact hlt),List.getElem?_eq_getElem _⟩
    obtain⟨y,ey⟩:∃y,K[i]?=some y:=⟨K[i]'(by rw[HMN.out];exact hlt),List.getElem?_eq_getElem _⟩
    have hnd:=hel i x ex
    have hnd':=hel' i y ey
    have HZI:Hid ((L.zip K)[i]?=some (x,y)):=zh (by rw[List.getElem?_zip_eq_some];exact⟨ex,ey⟩)
    have HRX:=zh (HOX.out x (List.mem_of_getElem? ex)).1
    have HRY:=zh (HOY.out y (List.mem_of_getElem? ey)).1
    have hlx0:=HOX.out.len x (List.mem_of_getElem? ex)
    have hly0:=HOY.out.len y (List.mem_of_getElem? ey)
    have hlx:x.x.l≤800000∧x.x.l'≤800000:=by omega
    have hly:y.x.l≤800000∧y.x.l'≤800000:=by omega
    have hsx:sz x.x.q+1≤M:=(HOX.out x (List.mem_of_getElem? ex)).2.2
    have hsy:sz y.x.q+1≤M':=(HOY.out y (List.mem_of_getElem? ey)).2.2
    have i1:(i:Int)<(n:Int):=by omega
    have i2:(0:Int)≤(i:Int):=by omega
    clear ex hel ey hel' hlx0 hly0
    by_cases hat:x.at_=y.at_
    ·have g1:(x.at_ != y.at_)=false:=by simpa using hat
     by_cases hq:x.x.q=y.x.q
     ·have HQ:Hid (decide (x.x.q=y.x.q)=true):=zh (decide_eq_true hq)
      have HP:Hid (sameT (x,y)=true):=zh (by unfold sameT;rw[decide_eq_true hat,decide_eq_true hq];rfl)
      clear hat hq
      have Bz:=Below.refl wr.heap.size wr
      obtain⟨p50_0,p50_1,p50_2,p50_3,p50_4,-⟩:=(hnd.below (zAa hB Bz)).ez
      obtain⟨p51_0,p51_1,p51_2,p51_3,p51_4,-⟩:=(hnd'.below (zAa hB Bz)).ez
      go_wp2_with fail
      (try simp only[List.append_eq,List.cons_append,List.nil_append])
      refine zAb (.take 0 (.take 1 (.take 2 (.take 3 (.take 4 (.take 5 (.take 6 (.take 7 (.take 8 (.take 9 (.take 10 (.take 11 (.take 12 (.take 13 (.take 14 (.take 15 (.take 16 (.take 17 (.take 18 (.take 19 (.take 20 (.take 21 (.only 22 (.take 23 (.take 24 .done))))))))))))))))))))))))) [] (fun w'=>w'.cell? ⟨b,off+i*5,none⟩=some (.int .i64 x.at_)∧w'.cell? ⟨b,off+i*5+1,none⟩=some (.bool x.x.s)∧w'.cell? ⟨b,off+i*5+2,none⟩=some (.slice x.x.A x.x.l x.x.c)∧w'.cell? ⟨b,off+i*5+3,none⟩=some (.bool x.x.s')∧w'.cell? ⟨b,off+i*5+4,none⟩=some (.slice x.x.A' x.x.l' x.x.c')∧w'.cell? ⟨b',off'+i*5,none⟩=some (.int .i64 y.at_)∧w'.cell? ⟨b',off'+i*5+1,none⟩=some (.bool y.x.s)∧w'.cell? ⟨b',off'+i*5+2,none⟩=some (.slice y.x.A y.x.l y.x.c)∧w'.cell? ⟨b',off'+i*5+3,none⟩=some (.bool y.x.s')∧w'.cell? ⟨b',off'+i*5+4,none⟩=some (.slice y.x.A' y.x.l' y.x.c')) (by kernel_rfl) (by kernel_rfl) ⟨p50_0,p50_1,p50_2,p50_3,p50_4,p51_0,p51_1,p51_2,p51_3,p51_4⟩ ?_
      iterate 22 (refine zT rfl rfl (fun w' ⟨p50_0,p50_1,p50_2,p50_3,p50_4,p51_0,p51_1,p51_2,p51_3,p51_4⟩=>by go_simp<;>with_reducible rfl) ?_;try simp only[uW,uX,uY,uZ])
      refine zC 39 rfl rfl (fun K hK=>?_)
      go_simp
      with_reducible refine(sameRat_rn (HRX.out.below (zAa hB (zAa (b:=wr) Bz (by go_grown)))) (HRY.out.below (zAa hB (zAa (b:=wr) Bz (by go_grown)))) hlx hly true HQ).mono ?_
      rintro e w1 ⟨rfl,b1⟩
      replace b1:=zAa (a:=wr) (by go_grown) b1
      replace Bz:=zAa Bz b1
      clear b1
      clear p50_0 p50_1 p50_2 p50_3 p50_4 p51_0 p51_1 p51_2 p51_3 p51_4
      obtain⟨p50_0,p50_1,p50_2,p50_3,p50_4,-⟩:=(hnd.below (zAa hB Bz)).ez
      obtain⟨p51_0,p51_1,p51_2,p51_3,p51_4,-⟩:=(hnd'.below (zAa hB Bz)).ez
      refine hK.out _ _ ⟨p50_0,p50_1,p50_2,p50_3,p50_4,p51_0,p51_1,p51_2,p51_3,p51_4⟩ (fun _=>?_)
      try simp only[uW,uX,uY,uZ]
      clear hK K
      iterate 2 (refine zT rfl rfl (fun w' ⟨p50_0,p50_1,p50_2,p50_3,p50_4,p51_0,p51_1,p51_2,p51_3,p51_4⟩=>by go_simp<;>with_reducible rfl) ?_;try simp only[uW,uX,uY,uZ])
      refine zAc ?_
      go_wp2_with fail
      go_roundg (n-(i+1))
      case measure=>have:=HGK.out;omega
      case rel=>exact⟨i+1,by omega,rfl,by go_num,zAa (zAa hB Bz) (by go_grown),take_all HD.out HZI.out HP.out⟩
     ·have HQ:Hid (decide (x.x.q=y.x.q)=false):=zh (decide_eq_false hq)
      have HP:Hid (sameT (x,y)=false):=zh (by unfold sameT;rw[decide_eq_false hq,Bool.and_false])
      clear hat hq
      have Bz:=Below.refl wr.heap.size wr
      obtain⟨p50_0,p50_1,p50_2,p50_3,p50_4,-⟩:=(hnd.below (zAa hB Bz)).ez
      obtain⟨p51_0,p51_1,p51_2,p51_3,p51_4,-⟩:=(hnd'.below (zAa hB Bz)).ez
      go_wp2_with fail
      (try simp only[List.append_eq,List.cons_append,List.nil_append])
      refine zAb (.take 0 (.take 1 (.take 2 (.take 3 (.take 4 (.take 5 (.take 6 (.take 7 (.take 8 (.take 9 (.take 10 (.take 11 (.take 12 (.take 13 (.take 14 (.take 15 (.take 16 (.take 17 (.take 18 (.take 19 (.take 20 (.take 21 (.only 22 (.take 23 (.take 24 .done))))))))))))))))))))))))) [] (fun w'=>w'.cell? ⟨b,off+i*5,none⟩=some (.int .i64 x.at_)∧w'.cell? ⟨b,off+i*5+1,none⟩=some (.bool x.x.s)∧w'.cell? ⟨b,off+i*5+2,none⟩=some (.slice x.x.A x.x.l x.x.c)∧w'.cell? ⟨b,off+i*5+3,none⟩=some (.bool x.x.s')∧w'.cell? ⟨b,off+i*5+4,none⟩=some (.slice x.x.A' x.x.l' x.x.c')∧w'.cell? ⟨b',off'+i*5,none⟩=some (.int .i64 y.at_)∧w'.cell? ⟨b',off'+i*5+1,none⟩=some (.bool y.x.s)∧w'.cell? ⟨b',off'+i*5+2,none⟩=some (.slice y.x.A y.x.l y.x.c)∧w'.cell? ⟨b',off'+i*5+3,none⟩=some (.bool y.x.s')∧w'.cell? ⟨b',off'+i*5+4,none⟩=some (.slice y.x.A' y.x.l' y.x.c')) (by kernel_rfl) (by kernel_rfl) ⟨p50_0,p50_1,p50_2,p50_3,p50_4,p51_0,p51_1,p51_2,p51_3,p51_4⟩ ?_
      iterate 22 (refine zT rfl rfl (fun w' ⟨p50_0,p50_1,p50_2,p50_3,p50_4,p51_0,p51_1,p51_2,p51_3,p51_4⟩=>by go_simp<;>with_reducible rfl) ?_;try simp only[uW,uX,uY,uZ])
      refine zC 39 rfl rfl (fun K hK=>?_)
      go_simp
      with_reducible refine(sameRat_rn (HRX.out.below (zAa hB (zAa (b:=wr) Bz (by go_grown)))) (HRY.out.below (zAa hB (zAa (b:=wr) Bz (by go_grown)))) hlx hly false HQ).mono ?_
      rintro e w1 ⟨rfl,b1⟩
      replace b1:=zAa (a:=wr) (by go_grown) b1
      replace Bz:=zAa Bz b1
      clear b1
      clear p50_0 p50_1 p50_2 p50_3 p50_4 p51_0 p51_1 p51_2 p51_3 p51_4
      obtain⟨p50_0,p50_1,p50_2,p50_3,p50_4,-⟩:=(hnd.below (zAa hB Bz)).ez
      obtain⟨p51_0,p51_1,p51_2,p51_3,p51_4,-⟩:=(hnd'.below (zAa hB Bz)).ez
      refine hK.out _ _ ⟨p50_0,p50_1,p50_2,p50_3,p50_4,p51_0,p51_1,p51_2,p51_3,p51_4⟩ (fun _=>?_)
      try simp only[uW,uX,uY,uZ]
      clear hK K
      iterate 2 (refine zT rfl rfl (fun w' ⟨p50_0,p50_1,p50_2,p50_3,p50_4,p51_0,p51_1,p51_2,p51_3,p51_4⟩=>by go_simp<;>with_reducible rfl) ?_;try simp only[uW,uX,uY,uZ])
      refine zAc ?_
      go_wp2_with fail
      go_ret
      have hF:=zAa (c:=w1) hB Bz
      obtain rfl:r=false:=by rw[←hra.out];exact all_no HZI.out HP.out
      exact⟨rfl,zAa (zAa hB Bz) (by go_grown)⟩
    ·have g1:(x.at_ != y.at_)=true:=by simpa using hat
     have HP:Hid (sameT (x,y)=false):=zh (by unfold sameT;rw[decide_eq_false hat,Bool.false_and])
     clear hat
     have Bz:=Below.refl wr.heap.size wr
     have p50_0:=(hnd.below (zAa hB Bz)).c0 (u:=.int .i64 x.at_) rfl
     have p51_0:=(hnd'.below (zAa hB Bz)).c0 (u:=.int .i64 y.at_) rfl
     go_wp2_with fail
     (try simp only[List.append_eq,List.cons_append,List.nil_append])
     refine zAb (.take 0 (.take 1 (.take 2 (.take 3 (.take 4 (.take 5 (.take 6 (.take 7 (.take 8 (.take 9 (.take 10 (.take 11 (.take 12 (.take 13 (.take 14 (.take 15 (.take 16 (.take 17 (.take 18 (.take 19 (.take 20 (.take 21 (.only 22 (.take 23 (.take 24 .done))))))))))))))))))))))))) [] (fun w'=>w'.cell? ⟨b,off+i*5,none⟩=some (.int .i64 x.at_)∧w'.cell? ⟨b',off'+i*5,none⟩=some (.int .i64 y.at_)) (by kernel_rfl) (by kernel_rfl) ⟨p50_0,p51_0⟩ ?_
     iterate 12 (refine zT rfl rfl (fun w' ⟨p50_0,p51_0⟩=>by go_simp<;>with_reducible rfl) ?_;try simp only[uW,uX,uY,uZ])
     iterate 10 (refine zN rfl rfl ?_;try simp only[uW,uX,uY,uZ])
     refine wpPlan_pass (o:=⟨some 39,_,_,_,_,_⟩) rfl rfl ⟨p50_0,p51_0⟩ ?_
     try simp only[uW,uX,uY,uZ]
     refine zN rfl rfl ?_
     try simp only[uW,uX,uY,uZ]
     refine zT rfl rfl (fun w' ⟨p50_0,p51_0⟩=>by go_simp<;>with_reducible rfl) ?_
     try simp only[uW,uX,uY,uZ]
     refine zAc ?_
     go_wp2_with fail
     go_ret
     have hF:=zAa (c:=wr) hB Bz
     obtain rfl:r=false:=by rw[←hra.out];exact all_no HZI.out HP.out
     exact⟨rfl,zAa (zAa hB Bz) (by go_grown)⟩
   ·obtain rfl:i=n:=by omega
    have i1:¬(i:Int)<(i:Int):=by omega
    obtain rfl:r=true:=by rw[←hra.out];exact all_yes HZL.out HD.out
    go_wp2_with fail
    go_ret
    exact⟨rfl,hB⟩
 ·have g0:((n:Int) !=(n':Int))=true:=by simp;omega
  obtain rfl:r=false:=by rw[←hr.out];exact decide_eq_false (fun e=>hnn (by have e2:=congrArg List.length e;rw[prs_len,prs_len,HLN.out,HMN.out] at e2;exact e2))
  clear hr
  go_enter Tryz.func23,Tryz.ntmps23
  go_wp2_with fail
  go_ret
  exact⟨rfl,Below.refl _ _⟩
theorem same1_q {w:World} {x y:Tm} (hrx:R w x.x.s x.x.A x.x.c x.x.l x.x.s' x.x.A' x.x.c' x.x.l' x.x.q (sz x.x.q)) (hry:R w y.x.s y.x.A y.x.c y.x.l y.x.s' y.x.A' y.x.c' y.x.l' y.x.q (sz y.x.q)) (hsz:sz x.x.q+sz y.x.q≤40000) (r:Bool) (hr:Hid (sameT (x,y)=r)) :
  Calls Tryz.prog 103 #[.agg #[.int .i64 x.at_,.bool x.x.s,.slice x.x.A x.x.l x.x.c,.bool x.x.s',.slice x.x.A' x.x.l' x.x.c'],.agg #[.int .i64 y.at_,.bool y.x.s,.slice y.x.A y.x.l y.x.c,.bool y.x.s',.slice y.x.A' y.x.l' y.x.c']] w fun e w'=>e=.returned (.bool r)∧Below w.heap.size w w':=by
 by_cases hat:x.at_=y.at_
 ·have g1:(x.at_==y.at_)=true:=by simpa using hat
  have HQ:Hid (decide (x.x.q=y.x.q)=r):=zh (by rw[←hr.out];unfold sameT;rw[decide_eq_true hat,Bool.true_and])
  clear hat hr
  obtain⟨W,hW,x0,x1,hB⟩:=boxes2 w #[.int .i64 x.at_,.bool x.x.s,.slice x.x.A x.x.l x.x.c,.bool x.x.s',.slice x.x.A' x.x.l' x.x.c'] 114 #[.int .i64 y.at_,.bool y.x.s,.slice y.x.A y.x.l y.x.c,.bool y.x.s',.slice y.x.A' y.x.l' y.x.c'] 114
  replace hrx:=hrx.below hB
  replace hry:=hry.below hB
  have HX0:=zh x0
  have HX1:=zh x1
  clear x0 x1
  have Bz:=Below.refl W.heap.size W
  obtain⟨p0_0,p0_1,p0_2,p0_3,p0_4,-⟩:=(zxb HX0 Bz).cz
  obtain⟨p1_0,p1_1,p1_2,p1_3,p1_4,-⟩:=(zxb HX1 Bz).cz
  go_enter Tryz.func103,Tryz.ntmps103
  go_wp2_with fail
  rw[←hW]
  clear hW
  go_wp2_with fail
  with_reducible refine(same_q (R.below hrx (by go_grown)) (R.below hry (by go_grown)) (by omega) r HQ).mono ?_
  rintro e w1 ⟨rfl,b1⟩
  replace b1:=zAa (a:=W) (by go_grown) b1
  replace Bz:=zAa Bz b1
  clear b1
  clear p0_0 p0_1 p0_2 p0_3 p0_4 p1_0 p1_1 p1_2 p1_3 p1_4
  go_wp2_with fail
  go_ret
  have hF:=zAa (c:=w1) hB Bz
  exact⟨rfl,zAa hF (by go_grown)⟩
 ·have g1:(x.at_==y.at_)=false:=by simpa using hat
  obtain rfl:r=false:=by rw[←hr.out];unfold sameT;rw[decide_eq_false hat,Bool.false_and]
  clear hat hr
  obtain⟨W,hW,x0,x1,hB⟩:=boxes2 w #[.int .i64 x.at_,.bool x.x.s,.slice x.x.A x.x.l x.x.c,.bool x.x.s',.slice x.x.A' x.x.l' x.x.c'] 114 #[.int .i64 y.at_,.bool y.x.s,.slice y.x.A y.x.l y.x.c,.bool y.x.s',.slice y.x.A' y.x.l' y.x.c'] 114
  have HX0:=zh x0
  have HX1:=zh x1
  clear x0 x1
  have Bz:=Below.refl W.heap.size W
  have p0_0:=(zxb HX0 Bz).cell 0 (.int .i64 x.at_) rfl
  have p1_0:=(zxb HX1 Bz).cell 0 (.int .i64 y.at_) rfl
  go_enter Tryz.func103,Tryz.ntmps103
  go_wp2_with fail
  rw[←hW]
  clear hW
  go_wp2_with fail
  go_ret
  have hF:=zAa (c:=W) hB Bz
  exact⟨rfl,zAa hF (by go_grown)⟩
theorem equalFunc_q {w:World} {A A':Option Addr} {n n' c c' M M':Nat} {P Q:List (Int×Rat)} (h:NV w A n c P M) (h':NV w A' n' c' Q M') (hM:M≤20000) (hM':M'≤20000) (hn:n≤1000000) (hn':n'≤1000000) (r:Bool) (hr:Hid (decide (P=Q)=r)) :
  Calls Tryz.prog 102 #[.slice A n c,.slice A' n' c',.func (.func 103) #[] #[]] w fun e w'=>e=.returned (.bool r)∧Below w.heap.size w w':=by
 obtain⟨L,x1,x2,rfl,x4⟩:=h
 obtain⟨K,y1,y2,rfl,y4⟩:=h'
 have H:=zh x1
 have H':=zh y1
 have HLN:=zh x1.1
 have HMN:=zh y1.1
 have HOX:=zh x2
 have HOY:=zh y2
 clear x1 x2 x4 y1 y2 y4
 by_cases hnn:n=n'
 ·subst hnn
  have g0:((n:Int) !=(n:Int))=false:=by simp
  have hra:Hid ((L.zip K).all sameT=r):=zh (by rw[←hr.out,prs_zip_all (HLN.out.trans HMN.out.symm)])
  have HZL:Hid ((L.zip K).length=n):=zh (by rw[List.length_zip,HLN.out,HMN.out];exact Nat.min_self _)
  have hst:SV1 w (L.zip K) n n (.int .i64 ((0:Nat):Int)) w:=⟨0,Nat.zero_le _,rfl,rfl,Below.refl _ _,by simp⟩
  have HST:=zh hst
  clear hst hr
  go_enter Tryz.func102,Tryz.ntmps102
  go_wp2_with fail
  go_loopg [17] n (fun gk s wr=>SV1 w (L.zip K) n gk s wr)
  case atStart=>exact HST.out
  case round =>
   clear HST
   obtain⟨i,hi,hgk,rfl,hB,hd⟩:=hrel
   have HGK:=zh hgk
   have HD:=zh hd
   clear hgk hd
   by_cases hlt:i<n
   ·obtain⟨b,off,rfl,hel⟩:=H.out.at Tm.cs_len (by omega) (by omega)
    obtain⟨b',off',rfl,hel'⟩:=H'.out.at Tm.cs_len (by omega) (by omega)
    obtain⟨x,ex⟩:∃x,L[i]?=some x:=⟨L[i]'(by rw[HLN.out];exact hlt),List.getElem?_eq_getElem _⟩
    obtain⟨y,ey⟩:∃y,K[i]?=some y:=⟨K[i]'(by rw[HMN.out];exact hlt),List.getElem?_eq_getElem _⟩
    have hnd:=hel i x ex
    have hnd':=hel' i y ey
    have HZI:Hid ((L.zip K)[i]?=some (x,y)):=zh (by rw[List.getElem?_zip_eq_some];exact⟨ex,ey⟩)
    have HRX:=zh (HOX.out x (List.mem_of_getElem? ex)).1
    have HRY:=zh (HOY.out y (List.mem_of_getElem? ey)).1
    have hlx0:=HOX.out.len x (List.mem_of_getElem? ex)
    have hly0:=HOY.out.len y (List.mem_of_getElem? ey)
    have hlx:x.x.l≤800000∧x.x.l'≤800000:=by omega
    have hly:y.x.l≤800000∧y.x.l'≤800000:=by omega
    have hsx:sz x.x.q+1≤M:=(HOX.out x (List.mem_of_getElem? ex)).2.2
    have hsy:sz y.x.q+1≤M':=(HOY.out y (List.mem_of_getElem? ey)).2.2
    have i1:(i:Int)<(n:Int):=by omega
    have i2:(0:Int)≤(i:Int):=by omega
    clear ex hel ey hel' hlx0 hly0
    cases hp:sameT (x,y)
    ·have HP:=zh hp
     clear hp
     have Bz:=Below.refl wr.heap.size wr
     obtain⟨p50_0,p50_1,p50_2,p50_3,p50_4,-⟩:=(hnd.below (zAa hB Bz)).ez
     go_upto_region 6 with(fail)
     obtain⟨V1,hW,x0,hN⟩:=zAe wr #[.int .i64 x.at_,.bool x.x.s,.slice x.x.A x.x.l x.x.c,.bool x.x.s',.slice x.x.A' x.x.l' x.x.c'] 114
     rw[←hW]
     clear hW
     obtain⟨v0,hb0⟩:∃b,b=wr.heap.size:=⟨_,rfl⟩
     rw[←hb0] at x0 ⊢
     have ow_0:w.heap.size≤v0:=by have:=zw hB Bz;omega
     replace hB:=zAa (zAa hB Bz) hN
     have HX0:=zh x0
     clear x0 hN Bz hb0
     have Bz:=Below.refl V1.heap.size V1
     clear p50_0 p50_1 p50_2 p50_3 p50_4
     obtain⟨p51_0,p51_1,p51_2,p51_3,p51_4,-⟩:=(hnd'.below (zAa hB Bz)).ez
     go_upto_region 7 with(fail)
     obtain⟨V2,hW,x1,hN⟩:=zAe V1 #[.int .i64 y.at_,.bool y.x.s,.slice y.x.A y.x.l y.x.c,.bool y.x.s',.slice y.x.A' y.x.l' y.x.c'] 114
     rw[←hW]
     clear hW
     obtain⟨v1,hb1⟩:∃b,b=V1.heap.size:=⟨_,rfl⟩
     rw[←hb1] at x1 ⊢
     have o0_1:v0<v1:=by have:=(zxb HX0 Bz).lt;omega
     have ow_1:w.heap.size≤v1:=by have:=zw hB Bz;omega
     replace hB:=zAa (zAa hB Bz) hN
     replace HX0:=zh ((zxb HX0 Bz).below hN)
     have HX1:=zh x1
     clear x1 hN Bz hb1
     have Bz:=Below.refl V2.heap.size V2
     clear p51_0 p51_1 p51_2 p51_3 p51_4
     obtain⟨p0_0,p0_1,p0_2,p0_3,p0_4,-⟩:=(zxb HX0 Bz).cz
     obtain⟨p1_0,p1_1,p1_2,p1_3,p1_4,-⟩:=(zxb HX1 Bz).cz
     go_wp2_with fail
     with_reducible refine(same1_q (HRX.out.below (zAa hB (zAa (b:=V2) Bz (by go_grown)))).r (HRY.out.below (zAa hB (zAa (b:=V2) Bz (by go_grown)))).r (by omega) false HP).mono ?_
     rintro e w1 ⟨rfl,b1⟩
     replace b1:=zAa (a:=V2) (by go_grown) b1
     replace Bz:=zAa Bz b1
     clear b1
     clear p0_0 p0_1 p0_2 p0_3 p0_4 p1_0 p1_1 p1_2 p1_3 p1_4
     go_wp2_with fail
     go_ret
     have hF:=zAa (c:=w1) hB Bz
     obtain rfl:r=false:=by rw[←hra.out];exact all_no HZI.out HP.out
     exact⟨rfl,zAa (zAa hB Bz) (by go_grown)⟩
    ·have HP:=zh hp
     clear hp
     have Bz:=Below.refl wr.heap.size wr
     obtain⟨p50_0,p50_1,p50_2,p50_3,p50_4,-⟩:=(hnd.below (zAa hB Bz)).ez
     go_upto_region 6 with(fail)
     obtain⟨V1,hW,x0,hN⟩:=zAe wr #[.int .i64 x.at_,.bool x.x.s,.slice x.x.A x.x.l x.x.c,.bool x.x.s',.slice x.x.A' x.x.l' x.x.c'] 114
     rw[←hW]
     clear hW
     obtain⟨v0,hb0⟩:∃b,b=wr.heap.size:=⟨_,rfl⟩
     rw[←hb0] at x0 ⊢
     have ow_0:w.heap.size≤v0:=by have:=zw hB Bz;omega
     replace hB:=zAa (zAa hB Bz) hN
     have HX0:=zh x0
     clear x0 hN Bz hb0
     have Bz:=Below.refl V1.heap.size V1
     clear p50_0 p50_1 p50_2 p50_3 p50_4
     obtain⟨p51_0,p51_1,p51_2,p51_3,p51_4,-⟩:=(hnd'.below (zAa hB Bz)).ez
     go_upto_region 7 with(fail)
     obtain⟨V2,hW,x1,hN⟩:=zAe V1 #[.int .i64 y.at_,.bool y.x.s,.slice y.x.A y.x.l y.x.c,.bool y.x.s',.slice y.x.A' y.x.l' y.x.c'] 114
     rw[←hW]
     clear hW
     obtain⟨v1,hb1⟩:∃b,b=V1.heap.size:=⟨_,rfl⟩
     rw[←hb1] at x1 ⊢
     have o0_1:v0<v1:=by have:=(zxb HX0 Bz).lt;omega
     have ow_1:w.heap.size≤v1:=by have:=zw hB Bz;omega
     replace hB:=zAa (zAa hB Bz) hN
     replace HX0:=zh ((zxb HX0 Bz).below hN)
     have HX1:=zh x1
     clear x1 hN Bz hb1
     have Bz:=Below.refl V2.heap.size V2
     clear p51_0 p51_1 p51_2 p51_3 p51_4
     obtain⟨p0_0,p0_1,p0_2,p0_3,p0_4,-⟩:=(zxb HX0 Bz).cz
     obtain⟨p1_0,p1_1,p1_2,p1_3,p1_4,-⟩:=(zxb HX1 Bz).cz
     go_wp2_with fail
     with_reducible refine(same1_q (HRX.out.below (zAa hB (zAa (b:=V2) Bz (by go_grown)))).r (HRY.out.below (zAa hB (zAa (b:=V2) Bz (by go_grown)))).r (by omega) true HP).mono ?_
     rintro e w1 ⟨rfl,b1⟩
     replace b1:=zAa (a:=V2) (by go_grown) b1
     replace Bz:=zAa Bz b1
     clear b1
     clear p0_0 p0_1 p0_2 p0_3 p0_4 p1_0 p1_1 p1_2 p1_3 p1_4
     go_wp2_with fail
     go_roundg (n-(i+1))
     case measure=>have:=HGK.out;omega
     case rel=>exact⟨i+1,by omega,rfl,by go_num,zAa (zAa hB Bz) (by go_grown),take_all HD.out HZI.out HP.out⟩
   ·obtain rfl:i=n:=by omega
    have i1:¬(i:Int)<(i:Int):=by omega
    obtain rfl:r=true:=by rw[←hra.out];exact all_yes HZL.out HD.out
    go_wp2_with fail
    go_ret
    exact⟨rfl,hB⟩
 ·have g0:((n:Int) !=(n':Int))=true:=by simp;omega
  obtain rfl:r=false:=by rw[←hr.out];exact decide_eq_false (fun e=>hnn (by have e2:=congrArg List.length e;rw[prs_len,prs_len,HLN.out,HMN.out] at e2;exact e2))
  clear hr
  go_enter Tryz.func102,Tryz.ntmps102
  go_wp2_with fail
  go_ret
  exact⟨rfl,Below.refl _ _⟩
theorem sameV_q {w:World} {X Y:Option Addr} {n cx m cy M M':Nat} {P Q:List (Int×Rat)} (h:GV w X n cx P M) (h':GV w Y m cy Q M') (hM:M≤19000) (hM':M'≤19000) (hn:n≤1000000) (hm:m≤1000000) (hT:Hid (Tab w)) (r:Bool) (hr:Hid (decide (nrm P=nrm Q)=r)) :
  Calls Tryz.prog 39 #[.slice X n cx,.slice Y m cy] w fun e w'=>e=.returned (.bool r)∧Below w.heap.size w w':=by
 have HX:=zh h
 have HY:=zh h'
 have HLX:=zh h.len
 have HLY:=zh h'.len
 clear h h'
 have hB:=Below.refl w.heap.size w
 have Bz:=Below.refl w.heap.size w
 go_enter Tryz.func39,Tryz.ntmps39
 go_wp2_with fail
 with_reducible refine(normV_q (HX.out.below (zAa hB (zAa (b:=w) Bz (by go_grown)))) hM hn (zh (Tab.below hT.out (zAa hB (zAa (b:=w) Bz (by go_grown)))))).mono ?_
 rintro e w1 ⟨A1,n1,c1,rfl,h1,b1⟩
 replace b1:=zAa (a:=w) (by go_grown) b1
 replace Bz:=zAa Bz b1
 clear b1
 go_wp2_with fail
 with_reducible refine(normV_q (HY.out.below (zAa hB (zAa (b:=w1) Bz (by go_grown)))) hM' hm (zh (Tab.below hT.out (zAa hB (zAa (b:=w1) Bz (by go_grown)))))).mono ?_
 rintro e w2 ⟨A2,n2,c2,rfl,h2,b2⟩
 replace b2:=zAa (a:=w1) (by go_grown) b2
 replace h1:=h1.below b2
 replace Bz:=zAa Bz b2
 clear b2
 go_wp2_with fail
 with_reducible refine(equalFunc_q (NV.below h1 (by go_grown)) (NV.below h2 (by go_grown)) (by omega) (by omega) (by have:=h1.len;have:=nrm_len P;have:=HLX.out;omega) (by have:=h2.len;have:=nrm_len Q;have:=HLY.out;omega) r hr).mono ?_
 rintro e w3 ⟨rfl,b3⟩
 replace b3:=zAa (a:=w2) (by go_grown) b3
 replace Bz:=zAa Bz b3
 clear b3
 go_wp2_with fail
 go_ret
 have hF:=zAa (c:=w3) hB Bz
 exact⟨rfl,zAa hF (by go_grown)⟩
def putF (P:List (Int×Rat)) (at_:Int) (q:Rat):List (Int×Rat):=(P.filter fun x=>decide (x.1≠at_))++[(at_,q)]
def offT (at_:Int) (t:Tm):Bool:=decide (t.at_≠at_)
theorem off_snoc {L:List Tm} {i:Nat} {x:Tm} {at_:Int} (h:L[i]?=some x):(L.take (i+1)).filter (offT at_)=(L.take i).filter (offT at_)++if x.at_=at_ then [] else [x]:=by
 rw[take_snoc h,List.filter_append]
 congr 1
 by_cases e:x.at_=at_
 ·rw[if_pos e,List.filter_cons_of_neg (by simp[offT,e])];rfl
 ·rw[if_neg e,List.filter_cons_of_pos (by simp[offT,e])];rfl
theorem wsum_filter (L:List Tm) (p:Tm→Bool) (a:Int):wsum (L.filter p) a≤wsum L a:=by
 induction L with
 | nil=>exact Nat.le_refl _
 | cons x L ih =>
  rw[List.filter_cons]
  split
  ·simp only[wsum];omega
  ·simp only[wsum];omega
def PT1 (w:World) (cs:Array Value) (L:List Tm) (at_:Int) (n gk:Nat) (s7 s16:Value) (wr:World):Prop :=
 ∃(i k:Nat) (H:Option Addr) (hc:Nat) (O:List Tm),s7=.slice H k hc∧s16=.int .i64 (i:Int)∧i≤n∧n-i≤gk∧k≤i∧OwnR wr (w.heap.size+1) 114 5 (.slice H k hc) k (flat Tm.cs O)∧O=(L.take i).filter (offT at_)∧Bx wr w.heap.size cs 50∧Below w.heap.size w wr
theorem one_wrap {n:Nat} (hn:n≤1000000):IntKind.i64.wrap ((n:Int)+1)=((n+1:Nat):Int):=by rw[IntWalk.i64_in _ (by omega)];omega
theorem putV_q {w:World} {s s':Bool} {A A':Option Addr} {l c l' c':Nat} {q:Rat} {mq:Nat} {X:Option Addr} {n cx M:Nat} {P:List (Int×Rat)} (h:GV w X n cx P M) (at_:Int) (ha:R w s A c l s' A' c' l' q mq) (hM:M+mq≤18000) (hn:n≤900000) (hT:Hid (Tab w)) :
  Calls Tryz.prog 32 #[.slice X n cx,.int .i64 at_,.agg #[.bool s,.slice A l c,.bool s',.slice A' l' c']] w (TellsV w (nrm (putF P at_ q)) (M+mq+2)):=by
 obtain⟨L,x1,x2,rfl,x4,x5⟩:=h
 obtain⟨ex,hfa⟩:=ha.fr
 have HS:=zh x1
 have HLN:=zh x1.1
 have HOK:=zh x2
 have HWS:=zh x4
 have HFA:=zh hfa
 have HAL:=zh ha.len
 have w0:=one_wrap (n:=n) (by omega)
 clear x1 x2 x4 x5 hfa ha
 obtain⟨W,hW,x0,hB⟩:=zAe w #[.bool s,.slice A l c,.bool s',.slice A' l' c'] 50
 have HX0:=zh x0
 have hWl:=x0.lt
 clear x0
 go_enter Tryz.func32,Tryz.ntmps32
 go_wp2_with (at_make;rw[←hW];refine And.left (b:=True) ?_)
 clear hW
 refine⟨?_,trivial⟩
 refine Elt.make elt_term rfl _ _ rfl .i64 .i64 _ (n+1) rfl rfl (by first | rfl | (push_cast;rfl) | omega) (by omega) (w.heap.size+1) hWl ?_
 intro g0 w1 ho1 hB1 hg0
 have HO1:=zh ho1
 have HB1:=zh (zAa hB hB1)
 have XX0:=zh (HX0.out.below hB1)
 clear ho1 hB1 hg0 hB HX0 hWl
 go_wp2_with fail
 go_loopg [7,16] n (fun gk s7 s16 wr=>PT1 w #[.bool s,.slice A l c,.bool s',.slice A' l' c'] L at_ n gk s7 s16 wr)
 case atStart=>exact⟨0,0,_,_,[],rfl,rfl,Nat.zero_le _,Nat.le_refl _,Nat.le_refl _,HO1.out.below (by go_grown),rfl,XX0.out.below (by go_grown),zAa HB1.out (by go_grown)⟩
 case round =>
  clear HO1 HB1 XX0 w0
  obtain⟨i,k,H,hc,O,rfl,rfl,hi,hgk,hk,ho,hp,hx0,hB⟩:=hrel
  have HP:=zh hp
  have HX0:=zh hx0
  clear hp hx0
  by_cases hlt:i<n
  ·obtain⟨b,off,rfl,hel⟩:=HS.out.at Tm.cs_len (by omega) (by omega)
   obtain⟨x,hx⟩:∃x,L[i]?=some x:=⟨L[i]'(by rw[HLN.out];exact hlt),List.getElem?_eq_getElem _⟩
   have hnd:=hel i x hx
   have hsn:=off_snoc (at_:=at_) hx
   have i1:(i:Int)<(n:Int):=by omega
   have i2:(0:Int)≤(i:Int):=by omega
   clear hel hx
   by_cases hq:x.at_=at_
   ·have g1:(x.at_ != at_)=false:=by simpa using hq
    have HP2:Hid (O=(L.take (i+1)).filter (offT at_)):=zh (by rw[hsn,if_pos hq,List.append_nil,HP.out])
    clear hsn hq
    have Bz:=Below.refl wr.heap.size wr
    obtain⟨p50_0,p50_1,p50_2,p50_3,p50_4,-⟩:=(hnd.below (zAa hB Bz)).ez
    go_upto_region 5 with(fail)
    obtain⟨V1,hW,x1,hN⟩:=zAe wr #[.int .i64 x.at_,.bool x.x.s,.slice x.x.A x.x.l x.x.c,.bool x.x.s',.slice x.x.A' x.x.l' x.x.c'] 114
    rw[←hW]
    clear hW
    obtain⟨v1,hb1⟩:∃b,b=wr.heap.size:=⟨_,rfl⟩
    rw[←hb1] at x1 ⊢
    have o0_1:w.heap.size<v1:=by have:=(zxb HX0 Bz).lt;omega
    have ow_1:w.heap.size≤v1:=by have:=zw hB Bz;omega
    replace ho:=ho.below hN
    replace hB:=zAa (zAa hB Bz) hN
    replace HX0:=zh ((zxb HX0 Bz).below hN)
    have HX1:=zh x1
    clear x1 hN Bz hb1
    have Bz:=Below.refl V1.heap.size V1
    clear p50_0 p50_1 p50_2 p50_3 p50_4
    have p1_0:=(zxb HX1 Bz).cell 0 (.int .i64 x.at_) rfl
    go_wp2_with fail
    go_roundg (n-(i+1))
    case measure=>omega
    case rel=>exact⟨i+1,k,_,_,_,rfl,by go_num,by omega,Nat.le_refl _,by omega,OwnR.below ho (by go_grown),HP2.out,HX0.out.below (zAa Bz (by go_grown)),zAa (zAa hB Bz) (by go_grown)⟩
   ·have g1:(x.at_ != at_)=true:=by simpa using hq
    have HP2:Hid (O++[x]=(L.take (i+1)).filter (offT at_)):=zh (by rw[hsn,if_neg hq,HP.out])
    clear hsn hq
    have Bz:=Below.refl wr.heap.size wr
    obtain⟨p50_0,p50_1,p50_2,p50_3,p50_4,-⟩:=(hnd.below (zAa hB Bz)).ez
    go_upto_region 5 with(fail)
    obtain⟨V1,hW,x1,hN⟩:=zAe wr #[.int .i64 x.at_,.bool x.x.s,.slice x.x.A x.x.l x.x.c,.bool x.x.s',.slice x.x.A' x.x.l' x.x.c'] 114
    rw[←hW]
    clear hW
    obtain⟨v1,hb1⟩:∃b,b=wr.heap.size:=⟨_,rfl⟩
    rw[←hb1] at x1 ⊢
    have o0_1:w.heap.size<v1:=by have:=(zxb HX0 Bz).lt;omega
    have ow_1:w.heap.size≤v1:=by have:=zw hB Bz;omega
    replace ho:=ho.below hN
    replace hB:=zAa (zAa hB Bz) hN
    replace HX0:=zh ((zxb HX0 Bz).below hN)
    have HX1:=zh x1
    clear x1 hN Bz hb1
    have Bz:=Below.refl V1.heap.size V1
    clear p50_0 p50_1 p50_2 p50_3 p50_4
    obtain⟨p1_0,p1_1,p1_2,p1_3,p1_4,-⟩:=(zxb HX1 Bz).cz
    go_wp2_with (at_builtin;refine And.left (b:=True) ?_)
    refine⟨?_,trivial⟩
    obtain⟨V2,hW,x2,hN⟩:=zAe V1 #[.int .i64 x.at_,.bool x.x.s,.slice x.x.A x.x.l x.x.c,.bool x.x.s',.slice x.x.A' x.x.l' x.x.c'] 114
    rw[←hW]
    clear hW
    obtain⟨v2,hb2⟩:∃b,b=V1.heap.size:=⟨_,rfl⟩
    rw[←hb2] at x2 ⊢
    have o0_2:w.heap.size<v2:=by have:=(zxb HX0 Bz).lt;omega
    have o1_2:v1<v2:=by have:=(zxb HX1 Bz).lt;omega
    have ow_2:w.heap.size≤v2:=by have:=zw hB Bz;omega
    replace ho:=ho.below hN
    replace hB:=zAa (zAa hB Bz) hN
    replace HX0:=zh ((zxb HX0 Bz).below hN)
    replace HX1:=zh ((zxb HX1 Bz).below hN)
    have HX2:=zh x2
    clear x2 hN Bz hb2
    have Bz:=Below.refl V2.heap.size V2
    clear p1_0 p1_1 p1_2 p1_3 p1_4
    have hdr:V2.drew.heap.size=V2.heap.size:=rfl
    have hdr2:V2.drew.drew.heap.size=V2.heap.size:=rfl
    refine Elt.app elt_term rfl _ _ rfl (w.heap.size+1) (.slice H k hc) (k) (O) rfl ho (.slice (some ⟨v2,0,none⟩) 1 1) (1) ([x]) rfl (From.one (HX2.out.below (zAa Bz (by go_grown))) (x) rfl (elt_term.len _)) (by omega) (by have:=(zxb HX0 Bz).lt;have:=Bz.size;omega) ?_
    intro H1 c1 w1 ho1 hg1
    replace hB:=(zAa (zAa hB Bz) (by go_grown)).trans (hg1.below (by have:=zw hB Bz;omega) (fun g hg=>by have:=ho.base g hg;omega))
    replace HX0:=zh (hg1.bx (zxb HX0 Bz) (ho.off (by omega)))
    clear HX1
    clear HX2
    clear hdr hdr2
    clear hg1 Bz
    have Bz:=Below.refl w1.heap.size w1
    go_wp2_with fail
    go_roundg (n-(i+1))
    case measure=>omega
    case rel=>exact⟨i+1,k+1,_,_,_,rfl,by go_num,by omega,Nat.le_refl _,by omega,OwnR.below ho1 (by go_grown),HP2.out,HX0.out.below (zAa Bz (by go_grown)),zAa (zAa hB Bz) (by go_grown)⟩
  ·obtain rfl:i=n:=by omega
   have i1:¬(i:Int)<(i:Int):=by omega
   have gvp:∀{H1:Option Addr} {c1:Nat} (w1:World),Below w.heap.size w w1→OwnR w1 (w.heap.size+1) 114 5 (.slice H1 (k+1) c1) (k+1) (flat Tm.cs (O++[⟨at_,⟨s,A,c,l,s',A',c',l',q,ex⟩⟩]))→GV w1 H1 (k+1) c1 (putF (prs L) at_ q) (M+mq+2):=fun {H1} {c1} w1 hb ho1=>by
    have hO:O=L.filter (offT at_):=by rw[HP.out,List.take_of_length_le (by rw[HLN.out];exact Nat.le_refl _)]
    refine⟨_,ho1.sl' elt_term (ho1.eltn elt_term (by omega)),fun t ht=>?_,?_,fun a=>?_,fun hn=>?_⟩
    ·rcases List.mem_append.1 ht with ht | ht
     ·rw[hO] at ht;exact(HOK.out t (List.mem_filter.1 ht).1).below hb
     ·obtain rfl:=List.mem_singleton.1 ht;exact HFA.out.rep.below hb
    ·have hfp:prs (L.filter (offT at_))=(prs L).filter fun x=>decide (x.1≠at_):=filter_prs L fun x=>decide (x.1≠at_)
     rw[prs_append,hO,hfp];rfl
    ·rw[wsum_append,hO]
     have h1:=Nat.le_trans (wsum_filter L (offT at_) a) (HWS.out a)
     have h2:=HAL.out
     simp only[wsum,dgT]
     split<;>omega
    ·obtain⟨_,_,e9,h9,_⟩:=ho1.slice
     cases e9
     exact(h9 hn).2
   have Bz:=Below.refl wr.heap.size wr
   obtain⟨p0_0,p0_1,p0_2,p0_3,-⟩:=(zxb HX0 Bz).cz
   go_wp2_with (at_builtin;refine And.left (b:=True) ?_)
   refine⟨?_,trivial⟩
   obtain⟨V1,hW,x1,hN⟩:=zAe wr #[.int .i64 at_,.bool s,.slice A l c,.bool s',.slice A' l' c'] 114
   rw[←hW]
   clear hW
   obtain⟨v1,hb1⟩:∃b,b=wr.heap.size:=⟨_,rfl⟩
   rw[←hb1] at x1 ⊢
   have o0_1:w.heap.size<v1:=by have:=(zxb HX0 Bz).lt;omega
   have ow_1:w.heap.size≤v1:=by have:=zw hB Bz;omega
   replace ho:=ho.below hN
   replace hB:=zAa (zAa hB Bz) hN
   replace HX0:=zh ((zxb HX0 Bz).below hN)
   have HX1:=zh x1
   clear x1 hN Bz hb1
   have Bz:=Below.refl V1.heap.size V1
   clear p0_0 p0_1 p0_2 p0_3
   have hdr:V1.drew.heap.size=V1.heap.size:=rfl
   have hdr2:V1.drew.drew.heap.size=V1.heap.size:=rfl
   refine Elt.app elt_term rfl _ _ rfl (w.heap.size+1) (.slice H k hc) (k) (O) rfl ho (.slice (some ⟨v1,0,none⟩) 1 1) (1) ([⟨at_,⟨s,A,c,l,s',A',c',l',q,ex⟩⟩]) rfl (From.one (HX1.out.below (zAa Bz (by go_grown))) (⟨at_,⟨s,A,c,l,s',A',c',l',q,ex⟩⟩) rfl (elt_term.len _)) (by omega) (by have:=(zxb HX0 Bz).lt;have:=Bz.size;omega) ?_
   intro H1 c1 w1 ho1 hg1
   replace hB:=(zAa (zAa hB Bz) (by go_grown)).trans (hg1.below (by have:=zw hB Bz;omega) (fun g hg=>by have:=ho.base g hg;omega))
   clear HX0
   clear HX1
   clear hdr hdr2
   clear hg1 Bz
   have Bz:=Below.refl w1.heap.size w1
   go_wp2_with fail
   with_reducible refine(normV_q (gvp w1 (zAa hB Bz) ho1) (by omega) (by omega) (zh (Tab.below hT.out (zAa hB (zAa (b:=w1) Bz (by go_grown)))))).mono ?_
   rintro e w2 ⟨A2,n2,c2,rfl,h2,b2⟩
   replace b2:=zAa (a:=w1) (by go_grown) b2
   replace Bz:=zAa Bz b2
   clear b2
   go_wp2_with fail
   go_ret
   have hF:=zAa (c:=w2) hB Bz
   exact⟨_,_,_,rfl,NV.below h2 (by go_grown),zAa hF (by go_grown)⟩
open Go.RowKit Tw
theorem neg_one:qof (-1) 1 = -1:=by decide +kernel
def TellsW (w:World) (P:List (Int×Rat)) (K N:Nat) (e:Ending) (w':World):Prop:=∃A n c,e=.returned (.slice A n c)∧NV w' A n c P K∧n≤N∧Below w.heap.size w w'
def TellsNum (w:World) (q:Rat) (K:Nat) (e:Ending) (w':World):Prop:=∃s A c l s' A' c' l',e=.returned (.agg #[.bool s,.slice A l c,.bool s',.slice A' l' c'])∧RN w' s A c l s' A' c' l' q∧sz q≤K∧Below w.heap.size w w'
theorem TellsV.w {w w':World} {P:List (Int×Rat)} {M K N:Nat} {e:Ending} (h:TellsV w P M e w') (hK:M≤K) (hN:P.length≤N):TellsW w P K N e w':=by
 obtain⟨A,n,c,rfl,h1,h2⟩:=h
 exact⟨A,n,c,rfl,h1.mono hK,by have:=h1.len;omega,h2⟩
theorem TellsR.num {w w':World} {q:Rat} {K:Nat} {e:Ending} (h:TellsR w q e w') (hK:sz q≤K):TellsNum w q K e w':=by
 obtain⟨s,A,c,l,s',A',c',l',rfl,h1,h2⟩:=h
 exact⟨s,A,c,l,s',A',c',l',rfl,h1,hK,h2⟩
theorem GV.size {w:World} {A:Option Addr} {n c M N:Nat} {P:List (Int×Rat)} (h:GV w A n c P M) (hn:n≤N):P.length≤N:=by rw[h.len];exact hn
theorem GV.getsz {w:World} {A:Option Addr} {n c M:Nat} {P:List (Int×Rat)} (h:GV w A n c P M) (a:Int):sz (pget P a)≤M+1:=by
 obtain⟨L,_,h2,rfl,h4,_⟩:=h
 have:=get_sz h2 a
 have:=h4 a
 omega
theorem dot_sz {Q:List (Int×Rat)} {M K:Nat} (hQ:∀a,sz (pget Q a)≤K):∀{P:List (Int×Rat)},(∀x∈P,sz x.2≤M)→sz (pdot P Q)≤1+P.length*(M+K+1):=by
 intro P
 induction P with
 | nil=>intro _;exact Nat.le_trans sz_zero (by omega)
 | cons x P ih =>
  intro h
  have h1:=ih fun y hy=>h y (List.mem_cons_of_mem _ hy)
  have h2:=sz_add (sz_mul (h x List.mem_cons_self) (hQ x.1)) h1
  rw[pdot_cons,List.length_cons,Nat.add_mul,Nat.one_mul]
  omega
theorem GV.szs {w:World} {A:Option Addr} {n c M:Nat} {P:List (Int×Rat)} (h:GV w A n c P M):∀x∈P,sz x.2≤M:=fun x hx=>by
 obtain⟨L,_,h2,rfl,h4,_⟩:=h
 obtain⟨t,ht,rfl⟩:=prs_mem hx
 have h5:=(h2 t ht).szd
 have h6:=wsum_mem ht
 have h7:=h4 t.at_
 show sz t.x.q≤M
 unfold dgT at h6
 omega
theorem normW {w:World} {X:Option Addr} {n cx:Nat} {P:List (Int×Rat)} (M N:Nat) (h:GV w X n cx P M) (hn:n≤N) (hM:M≤19000) (hN:N≤1000) (hT:Hid (Tab w)):Calls Tryz.prog 24 #[.slice X n cx] w (TellsW w (nrm P) M N) :=
 (normV_q h hM (by omega) hT).mono fun _ _ k=>k.w (Nat.le_refl _) (Nat.le_trans (nrm_len _) (h.size hn))
theorem addW {w:World} {X Y:Option Addr} {n cx m cy:Nat} {P Q:List (Int×Rat)} (M M' N N' K NN:Nat) (h:GV w X n cx P M) (h':GV w Y m cy Q M') (hn:n≤N) (hm:m≤N') (hK:M+M'≤K) (hK2:K≤18000) (hNN:N+N'≤NN) (hN2:NN≤1000) (hT:Hid (Tab w)):Calls Tryz.prog 26 #[.slice X n cx,.slice Y m cy] w (TellsW w (nrm (P++Q)) K NN) :=
 (addV_q h h' (by omega) (by omega) (by omega) hT).mono fun _ _ k=>k.w hK (Nat.le_trans (nrm_len _) (by have:=h.size hn;have:=h'.size hm;rw[List.length_append];omega))
theorem scaleW {w:World} {X:Option Addr} {n cx:Nat} {P:List (Int×Rat)} {s s':Bool} {A A':Option Addr} {l c l' c':Nat} {q:Rat} (mq M N K:Nat) (ha:R w s A c l s' A' c' l' q mq) (h:GV w X n cx P M) (hn:n≤N) (hK:mq+M+3≤K) (hK2:K≤10000) (hN2:N≤1000) (hT:Hid (Tab w)):Calls Tryz.prog 30 #[.agg #[.bool s,.slice A l c,.bool s',.slice A' l' c'],.slice X n cx] w (TellsW w (nrm (P.map fun x=>(x.1,q*x.2))) K N) :=
 (scaleV_q ha h (by omega) (by omega) (by omega) hT).mono fun _ _ k=>k.w hK (Nat.le_trans (nrm_len _) (by have:=h.size hn;rw[List.length_map];omega))
theorem axpyW {w:World} {X Y:Option Addr} {n cx m cy:Nat} {P Q:List (Int×Rat)} {s s':Bool} {A A':Option Addr} {l c l' c':Nat} {q:Rat} (mq M M' N N' K NN:Nat) (h':GV w Y m cy Q M') (ha:R w s A c l s' A' c' l' q mq) (h:GV w X n cx P M) (hm:m≤N') (hn:n≤N) (hK:M'+(mq+M+3)≤K) (hK2:K≤4000) (hNN:N'+N≤NN) (hN2:NN≤1000) (hT:Hid (Tab w)):Calls Tryz.prog 28 #[.slice Y m cy,.agg #[.bool s,.slice A l c,.bool s',.slice A' l' c'],.slice X n cx] w (TellsW w (nrm (Q++P.map fun x=>(x.1,q*x.2))) K NN) :=
 (axpyV_q h' ha h (by omega) (by omega) (by omega) (by omega) (by omega) hT).mono fun _ _ k=>k.w hK (Nat.le_trans (nrm_len _) (by have:=h.size hn;have:=h'.size hm;rw[List.length_append,List.length_map];omega))
theorem dotW {w:World} {X Y:Option Addr} {n cx m cy:Nat} {P Q:List (Int×Rat)} (M M' N K:Nat) (h:GV w X n cx P M) (h':GV w Y m cy Q M') (hn:n≤N) (hm:m≤1000) (hK:1+N*(M+M'+3)≤K) (hK2:K≤15001) (hM:M≤15000) (hM':M'≤15000) (hN:N≤1000) (hT:Hid (Tab w)):Calls Tryz.prog 35 #[.slice X n cx,.slice Y m cy] w (TellsNum w (pdot P Q) K):=by
 have h1:n*(M+M'+3)≤N*(M+M'+3):=Nat.mul_le_mul_right _ hn
 refine(dotV_q h h' (by omega) hM hM' (by omega) (by omega) hT).mono fun _ _ k=>k.num ?_
 have h2:=dot_sz (K:=M'+1) h'.getsz h.szs
 have h3:P.length*(M+(M'+1)+1)≤N*(M+M'+3):=Nat.mul_le_mul (h.size hn) (by omega)
 omega
theorem getW {w:World} {X:Option Addr} {n cx:Nat} {P:List (Int×Rat)} (M N K:Nat) (at_:Int) (h:GV w X n cx P M) (hn:n≤N) (hN:N≤1000) (hM:M≤18000) (hK:M+1≤K) (hT:Hid (Tab w)):Calls Tryz.prog 37 #[.slice X n cx,.int .i64 at_] w (TellsNum w (pget P at_) K) :=
 (getV_q at_ h hM (by omega) hT).mono fun _ _ k=>k.num (Nat.le_trans (h.getsz at_) hK)
theorem putW {w:World} {X:Option Addr} {n cx:Nat} {P:List (Int×Rat)} {s s':Bool} {A A':Option Addr} {l c l' c':Nat} {q:Rat} (mq M N K:Nat) (h:GV w X n cx P M) (at_:Int) (ha:R w s A c l s' A' c' l' q mq) (hn:n≤N) (hK:M+mq+2≤K) (hK2:K≤18000) (hN2:N≤999) (hT:Hid (Tab w)):Calls Tryz.prog 32 #[.slice X n cx,.int .i64 at_,.agg #[.bool s,.slice A l c,.bool s',.slice A' l' c']] w (TellsW w (nrm (putF P at_ q)) K (N+1)) :=
 (putV_q h at_ ha (by omega) (by omega) hT).mono fun _ _ k=>k.w hK (Nat.le_trans (nrm_len _) (by have:=h.size hn;unfold putF;rw[List.length_append];have:=List.length_filter_le (fun x:Int×Rat=>decide (x.1≠at_)) P;simp only[List.length_cons,List.length_nil];omega))
def TellsT (w:World) (at_:Int) (q:Rat) (e:Ending) (w':World):Prop:=∃s A c l s' A' c' l',e=.returned (.agg #[.int .i64 at_,.bool s,.slice A l c,.bool s',.slice A' l' c'])∧RN w' s A c l s' A' c' l' q∧Below w.heap.size w w'
theorem term_q {w:World} (at_ n d:Int) (hn:Hid (-9223372036854775808≤n∧n≤9223372036854775807)) (hd:Hid (-9223372036854775808≤d∧d≤9223372036854775807)) (hT:Hid (Tab w)) :
  Calls Tryz.prog 81 #[.int .i64 at_,.int .i64 n,.int .i64 d] w (TellsT w at_ (qof n d)):=by
 obtain⟨W,hW,x0,hB⟩:=zAe w #[.int .i64 0,.bool false,.slice none 0 0,.bool false,.slice none 0 0] 114
 have HX0:=zh x0
 clear x0
 have Bz:=Below.refl W.heap.size W
 go_enter Tryz.func81,Tryz.ntmps81
 go_wp2_with fail
 rw[←hW]
 clear hW
 go_wp2_with fail
 with_reducible refine(of_q n d hn hd (zh (Tab.below hT.out (zAa hB (zAa (b:=W) Bz (by go_grown)))))).mono ?_
 rintro e w1 ⟨s1,A1,c1,l1,s1r,A1r,c1r,l1r,rfl,h1,b1⟩
 replace b1:=zAa (a:=W) (by go_grown) b1
 replace Bz:=zAa Bz b1
 clear b1
 obtain⟨p0_0,p0_1,p0_2,p0_3,p0_4,-⟩:=(zxb HX0 Bz).cz
 have f0_0:=(zxb HX0 Bz).frozen 0
 have f0_1:=(zxb HX0 Bz).frozen 1
 have f0_2:=(zxb HX0 Bz).frozen 2
 have f0_3:=(zxb HX0 Bz).frozen 3
 have f0_4:=(zxb HX0 Bz).frozen 4
 have y0:=(zxb HX0 Bz).lt
 go_wp2_with fail
 (try simp only[Exit.inBlock,Exit.then])
 refine bodyPost_ret (by simp[results,Tryz.results81,go_sem,p0_0,p0_1,p0_2,p0_3,p0_4];try rfl) rfl ?_
 obtain⟨V1,hW,x,kk,far,bel⟩:=store5 (.int .i64 at_) (.bool s1) (.slice A1 l1 c1) (.bool s1r) (.slice A1r l1r c1r) (zxb HX0 Bz) nofun nofun nofun nofun nofun
 rw[←hW]
 clear hW
 replace h1:=h1.k kk
 replace hB:=bel w.heap.size w (by omega) (zAa hB Bz)
 replace HX0:=zh x
 clear x kk far bel Bz
 have Bz:=Below.refl V1.heap.size V1
 have hF:=zAa (c:=V1) hB Bz
 exact⟨_,_,_,_,_,_,_,_,rfl,RN.below h1 (by go_grown),zAa hF (by go_grown)⟩
theorem OnT.c {w:World} {L:List Tm} {s s':Bool} {A A':Option Addr} {c l c' l':Nat} {q:Rat} (at_:Int) (h:RN w s A c l s' A' c' l' q) (hs:sz q≤1) (hL:OnT w L (fun _=>2)):OnT w (⟨at_,⟨s,A,c,l,s',A',c',l',q,true⟩⟩ :: L) (fun _=>2):=fun t ht=>by
 rcases List.mem_cons.1 ht with rfl | ht
 ·exact⟨h,rfl,by simp only;omega⟩
 ·exact hL t ht
theorem wsum_small {w:World} {L:List Tm} (h:OnT w L (fun _=>2)) (a:Int):wsum L a≤3*L.length:=by
 induction L with
 | nil=>exact Nat.le_refl _
 | cons x L ih =>
  have h1:=ih fun t ht=>h t (List.mem_cons_of_mem _ ht)
  have h2:=h.dg x List.mem_cons_self
  have h3:=(h x List.mem_cons_self).2.2
  simp only[wsum,List.length_cons] at h3 ⊢
  split<;>omega
theorem sl_lit {w:World} {b n:Nat} {cs:Array Value} {te:TypeId} {L:List Tm} (h:Bx w b cs te) (hcs:cs.toList=flat Tm.cs L) (hl:L.length=n):Sl Tm.cs 5 w (some ⟨b,0,none⟩) n n L:=by
 subst hl
 refine⟨rfl,by rw[flat_len Tm.cs_len],_,_,rfl,(fun h=>(by cases h)),fun a ha j u hu=>?_⟩
 cases ha
 rw[add_off,Nat.zero_add]
 refine h.cell j u ?_
 rw[←hcs] at hu
 simpa using hu
theorem nv_lit {w:World} {b n:Nat} {cs:Array Value} {te:TypeId} (L:List Tm) (P:List (Int×Rat)) (hp:prs L=P) (h:Bx w b cs te) (hcs:cs.toList=flat Tm.cs L) (hl:L.length=n) (hon:OnT w L (fun _=>2)):NV w (some ⟨b,0,none⟩) n n P 2:=⟨L,sl_lit h hcs hl,hon,hp,(fun h=>(by cases h))⟩
theorem gv_lit {w:World} {b n:Nat} {cs:Array Value} {te:TypeId} (L:List Tm) (P:List (Int×Rat)) (hp:prs L=P) (h:Bx w b cs te) (hcs:cs.toList=flat Tm.cs L) (hl:L.length=n) (hon:OnT w L (fun _=>2)):GV w (some ⟨b,0,none⟩) n n P (3*n):=⟨L,sl_lit h hcs hl,hon.ok,hp,fun a=>by rw[←hl];exact wsum_small hon a,(fun h=>(by cases h))⟩
theorem awake5_q {w:World} (hT:Hid (Tab w)):Calls Tryz.prog 21 #[] w fun e w'=>e=.returned (.bool true)∧Below w.heap.size w w':=by
 have hdz:sz (pdot [(0,qof (1) 1),(2,qof (3) 1)] [(2,qof (1) 3),(5,qof (9) 1)])≤1:=by
  rw[show pdot [(0,qof (1) 1),(2,qof (3) 1)] [(2,qof (1) 3),(5,qof (9) 1)]=qof 1 1 by decide +kernel]
  exact sz_one (by decide) (by decide) (by decide)
 have hB:=Below.refl w.heap.size w
 have Bz:=Below.refl w.heap.size w
 go_enter Tryz.func21,Tryz.ntmps21
 go_wp2_with fail
 with_reducible refine(term_q 2 (1) 1 (zh (by omega)) (zh (by omega)) (zh (Tab.below hT.out (zAa hB (zAa (b:=w) Bz (by go_grown)))))).mono ?_
 rintro e w1 ⟨s1,A1,c1,l1,s1r,A1r,c1r,l1r,rfl,h1,b1⟩
 replace b1:=zAa (a:=w) (by go_grown) b1
 replace Bz:=zAa Bz b1
 clear b1
 go_wp2_with fail
 with_reducible refine(term_q 0 (1) 2 (zh (by omega)) (zh (by omega)) (zh (Tab.below hT.out (zAa hB (zAa (b:=w1) Bz (by go_grown)))))).mono ?_
 rintro e w2 ⟨s2,A2,c2,l2,s2r,A2r,c2r,l2r,rfl,h2,b2⟩
 replace b2:=zAa (a:=w1) (by go_grown) b2
 replace h1:=h1.below b2
 replace Bz:=zAa Bz b2
 clear b2
 go_wp2_with fail
 with_reducible refine(term_q 2 (-1) 1 (zh (by omega)) (zh (by omega)) (zh (Tab.below hT.out (zAa hB (zAa (b:=w2) Bz (by go_grown)))))).mono ?_
 rintro e w3 ⟨s3,A3,c3,l3,s3r,A3r,c3r,l3r,rfl,h3,b3⟩
 replace b3:=zAa (a:=w2) (by go_grown) b3
 replace h1:=h1.below b3
 replace h2:=h2.below b3
 replace Bz:=zAa Bz b3
 clear b3
 go_wp2_with fail
 obtain⟨V1,hW,x0,hN⟩:=zAe w3 #[.int .i64 2,.bool s1,.slice A1 l1 c1,.bool s1r,.slice A1r l1r c1r,.int .i64 0,.bool s2,.slice A2 l2 c2,.bool s2r,.slice A2r l2r c2r,.int .i64 2,.bool s3,.slice A3 l3 c3,.bool s3r,.slice A3r l3r c3r] 114
 rw[←hW]
 clear hW
 obtain⟨v0,hb0⟩:∃b,b=w3.heap.size:=⟨_,rfl⟩
 rw[←hb0] at x0 ⊢
 have ow_0:w.heap.size≤v0:=by have:=zw hB Bz;omega
 replace h1:=h1.below hN
 replace h2:=h2.below hN
 replace h3:=h3.below hN
 replace hB:=zAa (zAa hB Bz) hN
 have HX0:=zh x0
 clear x0 hN Bz hb0
 have Bz:=Below.refl V1.heap.size V1
 with_reducible refine(normV_q (gv_lit (n:=3) [⟨2,⟨s1,A1,c1,l1,s1r,A1r,c1r,l1r,qof (1) 1,true⟩⟩,⟨0,⟨s2,A2,c2,l2,s2r,A2r,c2r,l2r,qof (1) 2,true⟩⟩,⟨2,⟨s3,A3,c3,l3,s3r,A3r,c3r,l3r,qof (-1) 1,true⟩⟩] [(2,qof (1) 1),(0,qof (1) 2),(2,qof (-1) 1)] rfl (HX0.out.below (zAa Bz (by go_grown))) rfl rfl (OnT.c 2 (RN.below h1 (by go_grown)) (sz_one (by decide) (by decide) (by decide)) (OnT.c 0 (RN.below h2 (by go_grown)) (sz_one (by decide) (by decide) (by decide)) (OnT.c 2 (RN.below h3 (by go_grown)) (sz_one (by decide) (by decide) (by decide)) (OnT.nil _ _))))) (by omega) (by omega) (zh (Tab.below hT.out (zAa hB (zAa (b:=V1) Bz (by go_grown)))))).mono ?_
 rintro e w4 ⟨A4,n4,c4,rfl,h4,b4⟩
 replace b4:=zAa (a:=V1) (by go_grown) b4
 replace Bz:=zAa Bz b4
 clear b4
 have l4:=h4.len
 go_wp2_with fail
 with_reducible refine(term_q 0 (1) 1 (zh (by omega)) (zh (by omega)) (zh (Tab.below hT.out (zAa hB (zAa (b:=w4) Bz (by go_grown)))))).mono ?_
 rintro e w5 ⟨s5,A5,c5,l5,s5r,A5r,c5r,l5r,rfl,h5,b5⟩
 replace b5:=zAa (a:=w4) (by go_grown) b5
 replace h4:=h4.below b5
 replace Bz:=zAa Bz b5
 clear b5
 go_wp2_with fail
 with_reducible refine(term_q 3 (2) 1 (zh (by omega)) (zh (by omega)) (zh (Tab.below hT.out (zAa hB (zAa (b:=w5) Bz (by go_grown)))))).mono ?_
 rintro e w6 ⟨s6,A6,c6,l6,s6r,A6r,c6r,l6r,rfl,h6,b6⟩
 replace b6:=zAa (a:=w5) (by go_grown) b6
 replace h5:=h5.below b6
 replace h4:=h4.below b6
 replace Bz:=zAa Bz b6
 clear b6
 go_wp2_with fail
 obtain⟨V2,hW,x1,hN⟩:=zAe w6 #[.int .i64 0,.bool s5,.slice A5 l5 c5,.bool s5r,.slice A5r l5r c5r,.int .i64 3,.bool s6,.slice A6 l6 c6,.bool s6r,.slice A6r l6r c6r] 114
 rw[←hW]
 clear hW
 obtain⟨v1,hb1⟩:∃b,b=w6.heap.size:=⟨_,rfl⟩
 rw[←hb1] at x1 ⊢
 have o0_1:v0<v1:=by have:=(zxb HX0 Bz).lt;omega
 have ow_1:w.heap.size≤v1:=by have:=zw hB Bz;omega
 replace h5:=h5.below hN
 replace h6:=h6.below hN
 replace h4:=h4.below hN
 replace hB:=zAa (zAa hB Bz) hN
 replace HX0:=zh ((zxb HX0 Bz).below hN)
 have HX1:=zh x1
 clear x1 hN Bz hb1
 have Bz:=Below.refl V2.heap.size V2
 with_reducible refine(term_q 3 (-2) 1 (zh (by omega)) (zh (by omega)) (zh (Tab.below hT.out (zAa hB (zAa (b:=V2) Bz (by go_grown)))))).mono ?_
 rintro e w7 ⟨s7,A7,c7,l7,s7r,A7r,c7r,l7r,rfl,h7,b7⟩
 replace b7:=zAa (a:=V2) (by go_grown) b7
 replace h5:=h5.below b7
 replace h6:=h6.below b7
 replace h4:=h4.below b7
 replace Bz:=zAa Bz b7
 clear b7
 go_wp2_with fail
 with_reducible refine(term_q 4 (1) 1 (zh (by omega)) (zh (by omega)) (zh (Tab.below hT.out (zAa hB (zAa (b:=w7) Bz (by go_grown)))))).mono ?_
 rintro e w8 ⟨s8,A8,c8,l8,s8r,A8r,c8r,l8r,rfl,h8,b8⟩
 replace b8:=zAa (a:=w7) (by go_grown) b8
 replace h5:=h5.below b8
 replace h6:=h6.below b8
 replace h7:=h7.below b8
 replace h4:=h4.below b8
 replace Bz:=zAa Bz b8
 clear b8
 go_wp2_with fail
 obtain⟨V3,hW,x2,hN⟩:=zAe w8 #[.int .i64 3,.bool s7,.slice A7 l7 c7,.bool s7r,.slice A7r l7r c7r,.int .i64 4,.bool s8,.slice A8 l8 c8,.bool s8r,.slice A8r l8r c8r] 114
 rw[←hW]
 clear hW
 obtain⟨v2,hb2⟩:∃b,b=w8.heap.size:=⟨_,rfl⟩
 rw[←hb2] at x2 ⊢
 have o0_2:v0<v2:=by have:=(zxb HX0 Bz).lt;omega
 have o1_2:v1<v2:=by have:=(zxb HX1 Bz).lt;omega
 have ow_2:w.heap.size≤v2:=by have:=zw hB Bz;omega
 replace h5:=h5.below hN
 replace h6:=h6.below hN
 replace h7:=h7.below hN
 replace h8:=h8.below hN
 replace h4:=h4.below hN
 replace hB:=zAa (zAa hB Bz) hN
 replace HX0:=zh ((zxb HX0 Bz).below hN)
 replace HX1:=zh ((zxb HX1 Bz).below hN)
 have HX2:=zh x2
 clear x2 hN Bz hb2
 have Bz:=Below.refl V3.heap.size V3
 with_reducible refine(addV_q (gv_lit (n:=2) [⟨0,⟨s5,A5,c5,l5,s5r,A5r,c5r,l5r,qof (1) 1,true⟩⟩,⟨3,⟨s6,A6,c6,l6,s6r,A6r,c6r,l6r,qof (2) 1,true⟩⟩] [(0,qof (1) 1),(3,qof (2) 1)] rfl (HX1.out.below (zAa Bz (by go_grown))) rfl rfl (OnT.c 0 (RN.below h5 (by go_grown)) (sz_one (by decide) (by decide) (by decide)) (OnT.c 3 (RN.below h6 (by go_grown)) (sz_one (by decide) (by decide) (by decide)) (OnT.nil _ _)))) (gv_lit (n:=2) [⟨3,⟨s7,A7,c7,l7,s7r,A7r,c7r,l7r,qof (-2) 1,true⟩⟩,⟨4,⟨s8,A8,c8,l8,s8r,A8r,c8r,l8r,qof (1) 1,true⟩⟩] [(3,qof (-2) 1),(4,qof (1) 1)] rfl (HX2.out.below (zAa Bz (by go_grown))) rfl rfl (OnT.c 3 (RN.below h7 (by go_grown)) (sz_one (by decide) (by decide) (by decide)) (OnT.c 4 (RN.below h8 (by go_grown)) (sz_one (by decide) (by decide) (by decide)) (OnT.nil _ _)))) (by omega) (by omega) (by omega) (zh (Tab.below hT.out (zAa hB (zAa (b:=V3) Bz (by go_grown)))))).mono ?_
 rintro e w9 ⟨A9,n9,c9,rfl,h9,b9⟩
 replace b9:=zAa (a:=V3) (by go_grown) b9
 replace h4:=h4.below b9
 replace Bz:=zAa Bz b9
 clear b9
 have l9:=h9.len
 go_wp2_with fail
 with_reducible refine(term_q 0 (1) 1 (zh (by omega)) (zh (by omega)) (zh (Tab.below hT.out (zAa hB (zAa (b:=w9) Bz (by go_grown)))))).mono ?_
 rintro e w10 ⟨s10,A10,c10,l10,s10r,A10r,c10r,l10r,rfl,h10,b10⟩
 replace b10:=zAa (a:=w9) (by go_grown) b10
 replace h4:=h4.below b10
 replace h9:=h9.below b10
 replace Bz:=zAa Bz b10
 clear b10
 go_wp2_with fail
 obtain⟨V4,hW,x3,hN⟩:=zAe w10 #[.int .i64 0,.bool s10,.slice A10 l10 c10,.bool s10r,.slice A10r l10r c10r] 114
 rw[←hW]
 clear hW
 obtain⟨v3,hb3⟩:∃b,b=w10.heap.size:=⟨_,rfl⟩
 rw[←hb3] at x3 ⊢
 have o0_3:v0<v3:=by have:=(zxb HX0 Bz).lt;omega
 have o1_3:v1<v3:=by have:=(zxb HX1 Bz).lt;omega
 have o2_3:v2<v3:=by have:=(zxb HX2 Bz).lt;omega
 have ow_3:w.heap.size≤v3:=by have:=zw hB Bz;omega
 replace h10:=h10.below hN
 replace h4:=h4.below hN
 replace h9:=h9.below hN
 replace hB:=zAa (zAa hB Bz) hN
 replace HX0:=zh ((zxb HX0 Bz).below hN)
 replace HX1:=zh ((zxb HX1 Bz).below hN)
 replace HX2:=zh ((zxb HX2 Bz).below hN)
 have HX3:=zh x3
 clear x3 hN Bz hb3
 have Bz:=Below.refl V4.heap.size V4
 with_reducible refine(of_q (-2) 1 (zh (by omega)) (zh (by omega)) (zh (Tab.below hT.out (zAa hB (zAa (b:=V4) Bz (by go_grown)))))).mono ?_
 rintro e w11 ⟨s11,A11,c11,l11,s11r,A11r,c11r,l11r,rfl,h11,b11⟩
 replace b11:=zAa (a:=V4) (by go_grown) b11
 replace h10:=h10.below b11
 replace h4:=h4.below b11
 replace h9:=h9.below b11
 replace Bz:=zAa Bz b11
 clear b11
 go_wp2_with fail
 with_reducible refine(term_q 0 (1) 2 (zh (by omega)) (zh (by omega)) (zh (Tab.below hT.out (zAa hB (zAa (b:=w11) Bz (by go_grown)))))).mono ?_
 rintro e w12 ⟨s12,A12,c12,l12,s12r,A12r,c12r,l12r,rfl,h12,b12⟩
 replace b12:=zAa (a:=w11) (by go_grown) b12
 replace h10:=h10.below b12
 replace h11:=h11.below b12
 replace h4:=h4.below b12
 replace h9:=h9.below b12
 replace Bz:=zAa Bz b12
 clear b12
 go_wp2_with fail
 with_reducible refine(term_q 1 (1) 1 (zh (by omega)) (zh (by omega)) (zh (Tab.below hT.out (zAa hB (zAa (b:=w12) Bz (by go_grown)))))).mono ?_
 rintro e w13 ⟨s13,A13,c13,l13,s13r,A13r,c13r,l13r,rfl,h13,b13⟩
 replace b13:=zAa (a:=w12) (by go_grown) b13
 replace h10:=h10.below b13
 replace h11:=h11.below b13
 replace h12:=h12.below b13
 replace h4:=h4.below b13
 replace h9:=h9.below b13
 replace Bz:=zAa Bz b13
 clear b13
 go_wp2_with fail
 obtain⟨V5,hW,x4,hN⟩:=zAe w13 #[.int .i64 0,.bool s12,.slice A12 l12 c12,.bool s12r,.slice A12r l12r c12r,.int .i64 1,.bool s13,.slice A13 l13 c13,.bool s13r,.slice A13r l13r c13r] 114
 rw[←hW]
 clear hW
 obtain⟨v4,hb4⟩:∃b,b=w13.heap.size:=⟨_,rfl⟩
 rw[←hb4] at x4 ⊢
 have o0_4:v0<v4:=by have:=(zxb HX0 Bz).lt;omega
 have o1_4:v1<v4:=by have:=(zxb HX1 Bz).lt;omega
 have o2_4:v2<v4:=by have:=(zxb HX2 Bz).lt;omega
 have o3_4:v3<v4:=by have:=(zxb HX3 Bz).lt;omega
 have ow_4:w.heap.size≤v4:=by have:=zw hB Bz;omega
 replace h10:=h10.below hN
 replace h11:=h11.below hN
 replace h12:=h12.below hN
 replace h13:=h13.below hN
 replace h4:=h4.below hN
 replace h9:=h9.below hN
 replace hB:=zAa (zAa hB Bz) hN
 replace HX0:=zh ((zxb HX0 Bz).below hN)
 replace HX1:=zh ((zxb HX1 Bz).below hN)
 replace HX2:=zh ((zxb HX2 Bz).below hN)
 replace HX3:=zh ((zxb HX3 Bz).below hN)
 have HX4:=zh x4
 clear x4 hN Bz hb4
 have Bz:=Below.refl V5.heap.size V5
 with_reducible refine(axpyV_q (mq:=1) (gv_lit (n:=1) [⟨0,⟨s10,A10,c10,l10,s10r,A10r,c10r,l10r,qof (1) 1,true⟩⟩] [(0,qof (1) 1)] rfl (HX3.out.below (zAa Bz (by go_grown))) rfl rfl (OnT.c 0 (RN.below h10 (by go_grown)) (sz_one (by decide) (by decide) (by decide)) (OnT.nil _ _))) ((R.below h11.r (by go_grown)).mono (sz_one (by decide) (by decide) (by decide))) (gv_lit (n:=2) [⟨0,⟨s12,A12,c12,l12,s12r,A12r,c12r,l12r,qof (1) 2,true⟩⟩,⟨1,⟨s13,A13,c13,l13,s13r,A13r,c13r,l13r,qof (1) 1,true⟩⟩] [(0,qof (1) 2),(1,qof (1) 1)] rfl (HX4.out.below (zAa Bz (by go_grown))) rfl rfl (OnT.c 0 (RN.below h12 (by go_grown)) (sz_one (by decide) (by decide) (by decide)) (OnT.c 1 (RN.below h13 (by go_grown)) (sz_one (by decide) (by decide) (by decide)) (OnT.nil _ _)))) (by omega) (by omega) (by omega) (by omega) (by omega) (zh (Tab.below hT.out (zAa hB (zAa (b:=V5) Bz (by go_grown)))))).mono ?_
 rintro e w14 ⟨A14,n14,c14,rfl,h14,b14⟩
 replace b14:=zAa (a:=V5) (by go_grown) b14
 replace h4:=h4.below b14
 replace h9:=h9.below b14
 replace Bz:=zAa Bz b14
 clear b14
 have l14:=h14.len
 go_wp2_with fail
 with_reducible refine(term_q 0 (1) 1 (zh (by omega)) (zh (by omega)) (zh (Tab.below hT.out (zAa hB (zAa (b:=w14) Bz (by go_grown)))))).mono ?_
 rintro e w15 ⟨s15,A15,c15,l15,s15r,A15r,c15r,l15r,rfl,h15,b15⟩
 replace b15:=zAa (a:=w14) (by go_grown) b15
 replace h14:=h14.below b15
 replace h4:=h4.below b15
 replace h9:=h9.below b15
 replace Bz:=zAa Bz b15
 clear b15
 go_wp2_with fail
 with_reducible refine(term_q 2 (3) 1 (zh (by omega)) (zh (by omega)) (zh (Tab.below hT.out (zAa hB (zAa (b:=w15) Bz (by go_grown)))))).mono ?_
 rintro e w16 ⟨s16,A16,c16,l16,s16r,A16r,c16r,l16r,rfl,h16,b16⟩
 replace b16:=zAa (a:=w15) (by go_grown) b16
 replace h15:=h15.below b16
 replace h14:=h14.below b16
 replace h4:=h4.below b16
 replace h9:=h9.below b16
 replace Bz:=zAa Bz b16
 clear b16
 go_wp2_with fail
 obtain⟨V6,hW,x5,hN⟩:=zAe w16 #[.int .i64 0,.bool s15,.slice A15 l15 c15,.bool s15r,.slice A15r l15r c15r,.int .i64 2,.bool s16,.slice A16 l16 c16,.bool s16r,.slice A16r l16r c16r] 114
 rw[←hW]
 clear hW
 obtain⟨v5,hb5⟩:∃b,b=w16.heap.size:=⟨_,rfl⟩
 rw[←hb5] at x5 ⊢
 have o0_5:v0<v5:=by have:=(zxb HX0 Bz).lt;omega
 have o1_5:v1<v5:=by have:=(zxb HX1 Bz).lt;omega
 have o2_5:v2<v5:=by have:=(zxb HX2 Bz).lt;omega
 have o3_5:v3<v5:=by have:=(zxb HX3 Bz).lt;omega
 have o4_5:v4<v5:=by have:=(zxb HX4 Bz).lt;omega
 have ow_5:w.heap.size≤v5:=by have:=zw hB Bz;omega
 replace h15:=h15.below hN
 replace h16:=h16.below hN
 replace h14:=h14.below hN
 replace h4:=h4.below hN
 replace h9:=h9.below hN
 replace hB:=zAa (zAa hB Bz) hN
 replace HX0:=zh ((zxb HX0 Bz).below hN)
 replace HX1:=zh ((zxb HX1 Bz).below hN)
 replace HX2:=zh ((zxb HX2 Bz).below hN)
 replace HX3:=zh ((zxb HX3 Bz).below hN)
 replace HX4:=zh ((zxb HX4 Bz).below hN)
 have HX5:=zh x5
 clear x5 hN Bz hb5
 have Bz:=Below.refl V6.heap.size V6
 with_reducible refine(term_q 2 (1) 3 (zh (by omega)) (zh (by omega)) (zh (Tab.below hT.out (zAa hB (zAa (b:=V6) Bz (by go_grown)))))).mono ?_
 rintro e w17 ⟨s17,A17,c17,l17,s17r,A17r,c17r,l17r,rfl,h17,b17⟩
 replace b17:=zAa (a:=V6) (by go_grown) b17
 replace h15:=h15.below b17
 replace h16:=h16.below b17
 replace h14:=h14.below b17
 replace h4:=h4.below b17
 replace h9:=h9.below b17
 replace Bz:=zAa Bz b17
 clear b17
 go_wp2_with fail
 with_reducible refine(term_q 5 (9) 1 (zh (by omega)) (zh (by omega)) (zh (Tab.below hT.out (zAa hB (zAa (b:=w17) Bz (by go_grown)))))).mono ?_
 rintro e w18 ⟨s18,A18,c18,l18,s18r,A18r,c18r,l18r,rfl,h18,b18⟩
 replace b18:=zAa (a:=w17) (by go_grown) b18
 replace h15:=h15.below b18
 replace h16:=h16.below b18
 replace h17:=h17.below b18
 replace h14:=h14.below b18
 replace h4:=h4.below b18
 replace h9:=h9.below b18
 replace Bz:=zAa Bz b18
 clear b18
 go_wp2_with fail
 obtain⟨V7,hW,x6,hN⟩:=zAe w18 #[.int .i64 2,.bool s17,.slice A17 l17 c17,.bool s17r,.slice A17r l17r c17r,.int .i64 5,.bool s18,.slice A18 l18 c18,.bool s18r,.slice A18r l18r c18r] 114
 rw[←hW]
 clear hW
 obtain⟨v6,hb6⟩:∃b,b=w18.heap.size:=⟨_,rfl⟩
 rw[←hb6] at x6 ⊢
 have o0_6:v0<v6:=by have:=(zxb HX0 Bz).lt;omega
 have o1_6:v1<v6:=by have:=(zxb HX1 Bz).lt;omega
 have o2_6:v2<v6:=by have:=(zxb HX2 Bz).lt;omega
 have o3_6:v3<v6:=by have:=(zxb HX3 Bz).lt;omega
 have o4_6:v4<v6:=by have:=(zxb HX4 Bz).lt;omega
 have o5_6:v5<v6:=by have:=(zxb HX5 Bz).lt;omega
 have ow_6:w.heap.size≤v6:=by have:=zw hB Bz;omega
 replace h15:=h15.below hN
 replace h16:=h16.below hN
 replace h17:=h17.below hN
 replace h18:=h18.below hN
 replace h14:=h14.below hN
 replace h4:=h4.below hN
 replace h9:=h9.below hN
 replace hB:=zAa (zAa hB Bz) hN
 replace HX0:=zh ((zxb HX0 Bz).below hN)
 replace HX1:=zh ((zxb HX1 Bz).below hN)
 replace HX2:=zh ((zxb HX2 Bz).below hN)
 replace HX3:=zh ((zxb HX3 Bz).below hN)
 replace HX4:=zh ((zxb HX4 Bz).below hN)
 replace HX5:=zh ((zxb HX5 Bz).below hN)
 have HX6:=zh x6
 clear x6 hN Bz hb6
 have Bz:=Below.refl V7.heap.size V7
 with_reducible refine(dotV_q (gv_lit (n:=2) [⟨0,⟨s15,A15,c15,l15,s15r,A15r,c15r,l15r,qof (1) 1,true⟩⟩,⟨2,⟨s16,A16,c16,l16,s16r,A16r,c16r,l16r,qof (3) 1,true⟩⟩] [(0,qof (1) 1),(2,qof (3) 1)] rfl (HX5.out.below (zAa Bz (by go_grown))) rfl rfl (OnT.c 0 (RN.below h15 (by go_grown)) (sz_one (by decide) (by decide) (by decide)) (OnT.c 2 (RN.below h16 (by go_grown)) (sz_one (by decide) (by decide) (by decide)) (OnT.nil _ _)))) (gv_lit (n:=2) [⟨2,⟨s17,A17,c17,l17,s17r,A17r,c17r,l17r,qof (1) 3,true⟩⟩,⟨5,⟨s18,A18,c18,l18,s18r,A18r,c18r,l18r,qof (9) 1,true⟩⟩] [(2,qof (1) 3),(5,qof (9) 1)] rfl (HX6.out.below (zAa Bz (by go_grown))) rfl rfl (OnT.c 2 (RN.below h17 (by go_grown)) (sz_one (by decide) (by decide) (by decide)) (OnT.c 5 (RN.below h18 (by go_grown)) (sz_one (by decide) (by decide) (by decide)) (OnT.nil _ _)))) (by omega) (by omega) (by omega) (by omega) (by omega) (zh (Tab.below hT.out (zAa hB (zAa (b:=V7) Bz (by go_grown)))))).mono ?_
 rintro e w19 ⟨s19,A19,c19,l19,s19r,A19r,c19r,l19r,rfl,h19,b19⟩
 replace b19:=zAa (a:=V7) (by go_grown) b19
 replace h14:=h14.below b19
 replace h4:=h4.below b19
 replace h9:=h9.below b19
 replace Bz:=zAa Bz b19
 clear b19
 go_upto_region 5 with(fail)
 obtain⟨V8,hW,x7,hN⟩:=zAe w19 #[.bool s19,.slice A19 l19 c19,.bool s19r,.slice A19r l19r c19r] 50
 rw[←hW]
 clear hW
 obtain⟨v7,hb7⟩:∃b,b=w19.heap.size:=⟨_,rfl⟩
 rw[←hb7] at x7 ⊢
 have o0_7:v0<v7:=by have:=(zxb HX0 Bz).lt;omega
 have o1_7:v1<v7:=by have:=(zxb HX1 Bz).lt;omega
 have o2_7:v2<v7:=by have:=(zxb HX2 Bz).lt;omega
 have o3_7:v3<v7:=by have:=(zxb HX3 Bz).lt;omega
 have o4_7:v4<v7:=by have:=(zxb HX4 Bz).lt;omega
 have o5_7:v5<v7:=by have:=(zxb HX5 Bz).lt;omega
 have o6_7:v6<v7:=by have:=(zxb HX6 Bz).lt;omega
 have ow_7:w.heap.size≤v7:=by have:=zw hB Bz;omega
 replace h19:=h19.below hN
 replace h14:=h14.below hN
 replace h4:=h4.below hN
 replace h9:=h9.below hN
 replace hB:=zAa (zAa hB Bz) hN
 replace HX0:=zh ((zxb HX0 Bz).below hN)
 replace HX1:=zh ((zxb HX1 Bz).below hN)
 replace HX2:=zh ((zxb HX2 Bz).below hN)
 replace HX3:=zh ((zxb HX3 Bz).below hN)
 replace HX4:=zh ((zxb HX4 Bz).below hN)
 replace HX5:=zh ((zxb HX5 Bz).below hN)
 replace HX6:=zh ((zxb HX6 Bz).below hN)
 have HX7:=zh x7
 clear x7 hN Bz hb7
 have Bz:=Below.refl V8.heap.size V8
 obtain⟨p7_0,p7_1,p7_2,p7_3,-⟩:=(zxb HX7 Bz).cz
 go_wp2_with fail
 (try simp only[List.append_eq,List.cons_append,List.nil_append])
 refine zAb (.take 0 (.take 1 (.only 2 (.only 3 (.only 4 (.take 5 (.take 6 (.take 7 (.only 8 (.only 9 (.only 10 (.only 11 (.take 12 (.take 13 (.take 14 (.take 15 (.only 16 (.only 17 (.only 18 (.take 19 (.take 20 (.take 21 (.only 22 (.only 23 (.take 24 (.take 25 .done)))))))))))))))))))))))))) [] (fun w'=>w'.cell? ⟨v7,0,none⟩=some (.bool s19)∧w'.cell? ⟨v7,1,none⟩=some (.slice A19 l19 c19)∧w'.cell? ⟨v7,2,none⟩=some (.bool s19r)∧w'.cell? ⟨v7,3,none⟩=some (.slice A19r l19r c19r)) (by kernel_rfl) (by kernel_rfl) ⟨p7_0,p7_1,p7_2,p7_3⟩ ?_
 iterate 2 (refine zT rfl rfl (fun w' ⟨p7_0,p7_1,p7_2,p7_3⟩=>by go_simp<;>with_reducible rfl) ?_;try simp only[uW,uX,uY,uZ])
 refine zC 34 rfl rfl (fun K hK=>?_)
 go_simp
 with_reducible refine(term_q 0 (1) 2 (zh (by omega)) (zh (by omega)) (zh (Tab.below hT.out (zAa hB (zAa (b:=V8) Bz (by go_grown)))))).mono ?_
 rintro e w20 ⟨s20,A20,c20,l20,s20r,A20r,c20r,l20r,rfl,h20,b20⟩
 replace b20:=zAa (a:=V8) (by go_grown) b20
 replace h19:=h19.below b20
 replace h14:=h14.below b20
 replace h4:=h4.below b20
 replace h9:=h9.below b20
 replace Bz:=zAa Bz b20
 clear b20
 clear p7_0 p7_1 p7_2 p7_3
 obtain⟨p7_0,p7_1,p7_2,p7_3,-⟩:=(zxb HX7 Bz).cz
 refine hK.out _ _ ⟨p7_0,p7_1,p7_2,p7_3⟩ (fun _=>?_)
 try simp only[uW,uX,uY,uZ]
 clear hK K
 refine zC 35 rfl rfl (fun K hK=>?_)
 go_simp
 refine hK.out _ _ ⟨(zAd p7_0),(zAd p7_1),(zAd p7_2),(zAd p7_3)⟩ (fun _=>?_)
 try simp only[uW,uX,uY,uZ]
 clear hK K
 refine zC 36 rfl rfl (fun K hK=>?_)
 go_simp
 obtain⟨V9,hW,x8,hN⟩:=zAe w20 #[.int .i64 0,.bool s20,.slice A20 l20 c20,.bool s20r,.slice A20r l20r c20r] 114
 rw[←hW]
 clear hW
 obtain⟨v8,hb8⟩:∃b,b=w20.heap.size:=⟨_,rfl⟩
 rw[←hb8] at x8 ⊢
 have o0_8:v0<v8:=by have:=(zxb HX0 Bz).lt;omega
 have o1_8:v1<v8:=by have:=(zxb HX1 Bz).lt;omega
 have o2_8:v2<v8:=by have:=(zxb HX2 Bz).lt;omega
 have o3_8:v3<v8:=by have:=(zxb HX3 Bz).lt;omega
 have o4_8:v4<v8:=by have:=(zxb HX4 Bz).lt;omega
 have o5_8:v5<v8:=by have:=(zxb HX5 Bz).lt;omega
 have o6_8:v6<v8:=by have:=(zxb HX6 Bz).lt;omega
 have o7_8:v7<v8:=by have:=(zxb HX7 Bz).lt;omega
 have ow_8:w.heap.size≤v8:=by have:=zw hB Bz;omega
 replace h19:=h19.below hN
 replace h20:=h20.below hN
 replace h14:=h14.below hN
 replace h4:=h4.below hN
 replace h9:=h9.below hN
 replace hB:=zAa (zAa hB Bz) hN
 replace HX0:=zh ((zxb HX0 Bz).below hN)
 replace HX1:=zh ((zxb HX1 Bz).below hN)
 replace HX2:=zh ((zxb HX2 Bz).below hN)
 replace HX3:=zh ((zxb HX3 Bz).below hN)
 replace HX4:=zh ((zxb HX4 Bz).below hN)
 replace HX5:=zh ((zxb HX5 Bz).below hN)
 replace HX6:=zh ((zxb HX6 Bz).below hN)
 replace HX7:=zh ((zxb HX7 Bz).below hN)
 have HX8:=zh x8
 clear x8 hN Bz hb8
 have Bz:=Below.refl V9.heap.size V9
 clear p7_0 p7_1 p7_2 p7_3
 with_reducible refine(sameVec_q (NV.below h4 (by go_grown)) (nv_lit (n:=1) [⟨0,⟨s20,A20,c20,l20,s20r,A20r,c20r,l20r,qof (1) 2,true⟩⟩] [(0,qof (1) 2)] rfl (HX8.out.below (zAa Bz (by go_grown))) rfl rfl (OnT.c 0 (RN.below h20 (by go_grown)) (sz_one (by decide) (by decide) (by decide)) (OnT.nil _ _))) (by omega) (by omega) (by rw[←l4];exact Nat.le_trans (nrm_len _) (by decide)) (by omega) true (zh (by decide +kernel))).mono ?_
 rintro e w21 ⟨rfl,b21⟩
 replace b21:=zAa (a:=V9) (by go_grown) b21
 replace h19:=h19.below b21
 replace h14:=h14.below b21
 replace h9:=h9.below b21
 replace Bz:=zAa Bz b21
 clear b21
 obtain⟨p7_0,p7_1,p7_2,p7_3,-⟩:=(zxb HX7 Bz).cz
 refine hK.out _ _ ⟨p7_0,p7_1,p7_2,p7_3⟩ (fun _=>?_)
 try simp only[uW,uX,uY,uZ]
 clear hK K
 iterate 3 (refine zT rfl rfl (fun w' ⟨p7_0,p7_1,p7_2,p7_3⟩=>by go_simp<;>with_reducible rfl) ?_;try simp only[uW,uX,uY,uZ])
 refine zC 40 rfl rfl (fun K hK=>?_)
 go_simp
 with_reducible refine(term_q 0 (1) 1 (zh (by omega)) (zh (by omega)) (zh (Tab.below hT.out (zAa hB (zAa (b:=w21) Bz (by go_grown)))))).mono ?_
 rintro e w22 ⟨s22,A22,c22,l22,s22r,A22r,c22r,l22r,rfl,h22,b22⟩
 replace b22:=zAa (a:=w21) (by go_grown) b22
 replace h19:=h19.below b22
 replace h14:=h14.below b22
 replace h9:=h9.below b22
 replace Bz:=zAa Bz b22
 clear b22
 clear p7_0 p7_1 p7_2 p7_3
 obtain⟨p7_0,p7_1,p7_2,p7_3,-⟩:=(zxb HX7 Bz).cz
 refine hK.out _ _ ⟨p7_0,p7_1,p7_2,p7_3⟩ (fun _=>?_)
 try simp only[uW,uX,uY,uZ]
 clear hK K
 refine zC 41 rfl rfl (fun K hK=>?_)
 go_simp
 with_reducible refine(term_q 4 (1) 1 (zh (by omega)) (zh (by omega)) (zh (Tab.below hT.out (zAa hB (zAa (b:=w22) Bz (by go_grown)))))).mono ?_
 rintro e w23 ⟨s23,A23,c23,l23,s23r,A23r,c23r,l23r,rfl,h23,b23⟩
 replace b23:=zAa (a:=w22) (by go_grown) b23
 replace h19:=h19.below b23
 replace h22:=h22.below b23
 replace h14:=h14.below b23
 replace h9:=h9.below b23
 replace Bz:=zAa Bz b23
 clear b23
 clear p7_0 p7_1 p7_2 p7_3
 obtain⟨p7_0,p7_1,p7_2,p7_3,-⟩:=(zxb HX7 Bz).cz
 refine hK.out _ _ ⟨p7_0,p7_1,p7_2,p7_3⟩ (fun _=>?_)
 try simp only[uW,uX,uY,uZ]
 clear hK K
 refine zC 42 rfl rfl (fun K hK=>?_)
 go_simp
 refine hK.out _ _ ⟨(zAd p7_0),(zAd p7_1),(zAd p7_2),(zAd p7_3)⟩ (fun _=>?_)
 try simp only[uW,uX,uY,uZ]
 clear hK K
 refine zC 43 rfl rfl (fun K hK=>?_)
 go_simp
 obtain⟨V10,hW,x9,hN⟩:=zAe w23 #[.int .i64 0,.bool s22,.slice A22 l22 c22,.bool s22r,.slice A22r l22r c22r,.int .i64 4,.bool s23,.slice A23 l23 c23,.bool s23r,.slice A23r l23r c23r] 114
 rw[←hW]
 clear hW
 obtain⟨v9,hb9⟩:∃b,b=w23.heap.size:=⟨_,rfl⟩
 rw[←hb9] at x9 ⊢
 have o0_9:v0<v9:=by have:=(zxb HX0 Bz).lt;omega
 have o1_9:v1<v9:=by have:=(zxb HX1 Bz).lt;omega
 have o2_9:v2<v9:=by have:=(zxb HX2 Bz).lt;omega
 have o3_9:v3<v9:=by have:=(zxb HX3 Bz).lt;omega
 have o4_9:v4<v9:=by have:=(zxb HX4 Bz).lt;omega
 have o5_9:v5<v9:=by have:=(zxb HX5 Bz).lt;omega
 have o6_9:v6<v9:=by have:=(zxb HX6 Bz).lt;omega
 have o7_9:v7<v9:=by have:=(zxb HX7 Bz).lt;omega
 have o8_9:v8<v9:=by have:=(zxb HX8 Bz).lt;omega
 have ow_9:w.heap.size≤v9:=by have:=zw hB Bz;omega
 replace h19:=h19.below hN
 replace h22:=h22.below hN
 replace h23:=h23.below hN
 replace h14:=h14.below hN
 replace h9:=h9.below hN
 replace hB:=zAa (zAa hB Bz) hN
 replace HX0:=zh ((zxb HX0 Bz).below hN)
 replace HX1:=zh ((zxb HX1 Bz).below hN)
 replace HX2:=zh ((zxb HX2 Bz).below hN)
 replace HX3:=zh ((zxb HX3 Bz).below hN)
 replace HX4:=zh ((zxb HX4 Bz).below hN)
 replace HX5:=zh ((zxb HX5 Bz).below hN)
 replace HX6:=zh ((zxb HX6 Bz).below hN)
 replace HX7:=zh ((zxb HX7 Bz).below hN)
 replace HX8:=zh ((zxb HX8 Bz).below hN)
 have HX9:=zh x9
 clear x9 hN Bz hb9
 have Bz:=Below.refl V10.heap.size V10
 clear p7_0 p7_1 p7_2 p7_3
 with_reducible refine(sameVec_q (NV.below h9 (by go_grown)) (nv_lit (n:=2) [⟨0,⟨s22,A22,c22,l22,s22r,A22r,c22r,l22r,qof (1) 1,true⟩⟩,⟨4,⟨s23,A23,c23,l23,s23r,A23r,c23r,l23r,qof (1) 1,true⟩⟩] [(0,qof (1) 1),(4,qof (1) 1)] rfl (HX9.out.below (zAa Bz (by go_grown))) rfl rfl (OnT.c 0 (RN.below h22 (by go_grown)) (sz_one (by decide) (by decide) (by decide)) (OnT.c 4 (RN.below h23 (by go_grown)) (sz_one (by decide) (by decide) (by decide)) (OnT.nil _ _)))) (by omega) (by omega) (by rw[←l9];exact Nat.le_trans (nrm_len _) (by decide)) (by omega) true (zh (by decide +kernel))).mono ?_
 rintro e w24 ⟨rfl,b24⟩
 replace b24:=zAa (a:=V10) (by go_grown) b24
 replace h19:=h19.below b24
 replace h14:=h14.below b24
 replace Bz:=zAa Bz b24
 clear b24
 obtain⟨p7_0,p7_1,p7_2,p7_3,-⟩:=(zxb HX7 Bz).cz
 refine hK.out _ _ ⟨p7_0,p7_1,p7_2,p7_3⟩ (fun _=>?_)
 try simp only[uW,uX,uY,uZ]
 clear hK K
 iterate 4 (refine zT rfl rfl (fun w' ⟨p7_0,p7_1,p7_2,p7_3⟩=>by go_simp<;>with_reducible rfl) ?_;try simp only[uW,uX,uY,uZ])
 refine zC 48 rfl rfl (fun K hK=>?_)
 go_simp
 with_reducible refine(term_q 1 (-2) 1 (zh (by omega)) (zh (by omega)) (zh (Tab.below hT.out (zAa hB (zAa (b:=w24) Bz (by go_grown)))))).mono ?_
 rintro e w25 ⟨s25,A25,c25,l25,s25r,A25r,c25r,l25r,rfl,h25,b25⟩
 replace b25:=zAa (a:=w24) (by go_grown) b25
 replace h19:=h19.below b25
 replace h14:=h14.below b25
 replace Bz:=zAa Bz b25
 clear b25
 clear p7_0 p7_1 p7_2 p7_3
 obtain⟨p7_0,p7_1,p7_2,p7_3,-⟩:=(zxb HX7 Bz).cz
 refine hK.out _ _ ⟨p7_0,p7_1,p7_2,p7_3⟩ (fun _=>?_)
 try simp only[uW,uX,uY,uZ]
 clear hK K
 refine zC 49 rfl rfl (fun K hK=>?_)
 go_simp
 refine hK.out _ _ ⟨(zAd p7_0),(zAd p7_1),(zAd p7_2),(zAd p7_3)⟩ (fun _=>?_)
 try simp only[uW,uX,uY,uZ]
 clear hK K
 refine zC 50 rfl rfl (fun K hK=>?_)
 go_simp
 obtain⟨V11,hW,x10,hN⟩:=zAe w25 #[.int .i64 1,.bool s25,.slice A25 l25 c25,.bool s25r,.slice A25r l25r c25r] 114
 rw[←hW]
 clear hW
 obtain⟨v10,hb10⟩:∃b,b=w25.heap.size:=⟨_,rfl⟩
 rw[←hb10] at x10 ⊢
 have o0_10:v0<v10:=by have:=(zxb HX0 Bz).lt;omega
 have o1_10:v1<v10:=by have:=(zxb HX1 Bz).lt;omega
 have o2_10:v2<v10:=by have:=(zxb HX2 Bz).lt;omega
 have o3_10:v3<v10:=by have:=(zxb HX3 Bz).lt;omega
 have o4_10:v4<v10:=by have:=(zxb HX4 Bz).lt;omega
 have o5_10:v5<v10:=by have:=(zxb HX5 Bz).lt;omega
 have o6_10:v6<v10:=by have:=(zxb HX6 Bz).lt;omega
 have o7_10:v7<v10:=by have:=(zxb HX7 Bz).lt;omega
 have o8_10:v8<v10:=by have:=(zxb HX8 Bz).lt;omega
 have o9_10:v9<v10:=by have:=(zxb HX9 Bz).lt;omega
 have ow_10:w.heap.size≤v10:=by have:=zw hB Bz;omega
 replace h19:=h19.below hN
 replace h25:=h25.below hN
 replace h14:=h14.below hN
 replace hB:=zAa (zAa hB Bz) hN
 replace HX0:=zh ((zxb HX0 Bz).below hN)
 replace HX1:=zh ((zxb HX1 Bz).below hN)
 replace HX2:=zh ((zxb HX2 Bz).below hN)
 replace HX3:=zh ((zxb HX3 Bz).below hN)
 replace HX4:=zh ((zxb HX4 Bz).below hN)
 replace HX5:=zh ((zxb HX5 Bz).below hN)
 replace HX6:=zh ((zxb HX6 Bz).below hN)
 replace HX7:=zh ((zxb HX7 Bz).below hN)
 replace HX8:=zh ((zxb HX8 Bz).below hN)
 replace HX9:=zh ((zxb HX9 Bz).below hN)
 have HX10:=zh x10
 clear x10 hN Bz hb10
 have Bz:=Below.refl V11.heap.size V11
 clear p7_0 p7_1 p7_2 p7_3
 with_reducible refine(sameVec_q (NV.below h14 (by go_grown)) (nv_lit (n:=1) [⟨1,⟨s25,A25,c25,l25,s25r,A25r,c25r,l25r,qof (-2) 1,true⟩⟩] [(1,qof (-2) 1)] rfl (HX10.out.below (zAa Bz (by go_grown))) rfl rfl (OnT.c 1 (RN.below h25 (by go_grown)) (sz_one (by decide) (by decide) (by decide)) (OnT.nil _ _))) (by omega) (by omega) (by rw[←l14];exact Nat.le_trans (nrm_len _) (by decide)) (by omega) true (zh (by decide +kernel))).mono ?_
 rintro e w26 ⟨rfl,b26⟩
 replace b26:=zAa (a:=V11) (by go_grown) b26
 replace h19:=h19.below b26
 replace Bz:=zAa Bz b26
 clear b26
 obtain⟨p7_0,p7_1,p7_2,p7_3,-⟩:=(zxb HX7 Bz).cz
 refine hK.out _ _ ⟨p7_0,p7_1,p7_2,p7_3⟩ (fun _=>?_)
 try simp only[uW,uX,uY,uZ]
 clear hK K
 iterate 3 (refine zT rfl rfl (fun w' ⟨p7_0,p7_1,p7_2,p7_3⟩=>by go_simp<;>with_reducible rfl) ?_;try simp only[uW,uX,uY,uZ])
 refine zC 54 rfl rfl (fun K hK=>?_)
 go_simp
 with_reducible refine(of_q (1) 1 (zh (by omega)) (zh (by omega)) (zh (Tab.below hT.out (zAa hB (zAa (b:=w26) Bz (by go_grown)))))).mono ?_
 rintro e w27 ⟨s27,A27,c27,l27,s27r,A27r,c27r,l27r,rfl,h27,b27⟩
 replace b27:=zAa (a:=w26) (by go_grown) b27
 replace h19:=h19.below b27
 replace Bz:=zAa Bz b27
 clear b27
 clear p7_0 p7_1 p7_2 p7_3
 obtain⟨p7_0,p7_1,p7_2,p7_3,-⟩:=(zxb HX7 Bz).cz
 refine hK.out _ _ ⟨p7_0,p7_1,p7_2,p7_3⟩ (fun _=>?_)
 try simp only[uW,uX,uY,uZ]
 clear hK K
 refine zC 55 rfl rfl (fun K hK=>?_)
 go_simp
 with_reducible refine(sameRat_rn (RN.below h19 (by go_grown)) (RN.below h27 (by go_grown)) (by have:=h19.len;have:=hdz;omega) (by have:=h27.len;have:=sz_one (n:=1) (d:=1) (by decide) (by decide) (by decide);omega) true (zh (by decide +kernel))).mono ?_
 rintro e w28 ⟨rfl,b28⟩
 replace b28:=zAa (a:=w27) (by go_grown) b28
 replace Bz:=zAa Bz b28
 clear b28
 clear p7_0 p7_1 p7_2 p7_3
 obtain⟨p7_0,p7_1,p7_2,p7_3,-⟩:=(zxb HX7 Bz).cz
 refine hK.out _ _ ⟨p7_0,p7_1,p7_2,p7_3⟩ (fun _=>?_)
 try simp only[uW,uX,uY,uZ]
 clear hK K
 iterate 2 (refine zT rfl rfl (fun w' ⟨p7_0,p7_1,p7_2,p7_3⟩=>by go_simp<;>with_reducible rfl) ?_;try simp only[uW,uX,uY,uZ])
 refine zAc ?_
 go_wp2_with fail
 go_ret
 have hF:=zAa (c:=w28) hB Bz
 exact⟨rfl,zAa hF (by go_grown)⟩
end Go.Proofs.YtljjgfmeaejnfaaGreatDoor
