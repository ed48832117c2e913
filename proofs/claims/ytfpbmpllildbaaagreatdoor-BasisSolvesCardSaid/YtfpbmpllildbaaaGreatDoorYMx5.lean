import Derived.Test.YtfpbmpllildbaaaGreatDoorYLu10
import Derived.Test.YtfpbmpllildbaaaGreatDoorYLu5
set_option maxHeartbeats 4000000
set_option maxRecDepth 100000
namespace Go.Proofs.YtfpbmpllildbaaaGreatDoor
open Go.RowKit Tw
variable {CL:List Vc} {M S bc bn fb m:Nat} {A X:Option Addr} {P:List (Int×Rat)}
theorem right_cn {w:World} {C:List (List (Int×Rat))} {k:Int} (h:∀v∈CL,CN w v M) (hC:CL.map (fun v=>prs v.L)=C):(CL.all fun v=>rightB v.L k)=rightC k C:=by
 subst hC;rw[Bool.eq_iff_iff,rightC_iff,nC];refine⟨fun ha c hc=>?_,fun hr v hv=>?_⟩
 ·obtain⟨v,hv,rfl⟩:=yB.1 hc;have h1:=rightB_nrm (ha v hv);refine⟨h1.1,fun x hx=>?_⟩;obtain⟨t,ht,rfl⟩:=prs_mem hx;exact⟨(h1.2 t ht).1,(h1.2 t ht).2.1⟩
 ·have h1:=hr _ (uC (f:=fun v:Vc=>prs v.L) hv);refine rightB_of h1.1 fun t ht=>?_;have h2:=h1.2 (t.at_,t.x.q) (uC (f:=fun t:Tm=>(t.at_,t.x.q)) ht);exact⟨h2.1,h2.2,((h v hv).2.1 t ht).2.1⟩
def sameC (p:Vc×Vc):Bool:=decide (prs p.1.L=prs p.2.L)
theorem zip_prs:∀{L K:List Vc},L.length=K.length→decide (L.map (fun v=>prs v.L)=K.map fun v=>prs v.L)=(L.zip K).all sameC
 | [],[],_=>rfl
 | [],_ :: _,h=>by cases h
 | _ :: _,[],h=>by cases h
 | x :: L,y :: K,h=>by
  have ih:=zip_prs (L:=L) (K:=K) (by simpa using h);rw[List.zip_cons_cons,List.all_cons,←ih];unfold sameC
  simp only[wF,List.cons.injEq,Bool.decide_and]
def SV2 (w:World) (Z:List (Vc×Vc)) (n gk:Nat) (s:Value) (wr:World):Prop:=∃i:Nat,i≤n∧n-i=gk∧s=.int .i64 (i:Int)∧Below w.heap.size w wr∧(Z.take i).all sameC=true
theorem sameVecs_q {w:World} {A':Option Addr} {n n' c c' M':Nat} {C D:List (List (Int×Rat))} (h:CM w A n c C M) (h':CM w A' n' c' D M') (hC:∀x∈C,x.length≤1000000) (hD:∀x∈D,x.length≤1000000) (hM:M≤40000000000) (hM':M'≤40000000000) (hn:n≤1000000000) (hn':n'≤1000000000) (r:Bool) (hr:Hid (decide (C=D)=r)) :
  Calls Tryz.prog 28 #[.slice A n c,.slice A' n' c'] w fun e w'=>e=.returned (.bool r)∧Below w.heap.size w w':=by
 obtain⟨L,x1,x2,rfl⟩:=h;obtain⟨K,y1,y2,rfl⟩:=h';have H:=zh x1;have H':=zh y1;have HLN:=zh x1.1;have HMN:=zh y1.1;have HOX:=zh x2;have HOY:=zh y2;have HCX:=zh hC;have HCY:=zh hD;clear x1 x2 y1 y2 hC hD;by_cases hnn:n=n'
 ·subst hnn;have g0:((n:Int) !=(n:Int))=false:=by simp
  have hra:Hid ((L.zip K).all sameC=r):=zh (by rw[←hr.out,zip_prs (HLN.out.trans HMN.out.symm)]);have HZL:Hid ((L.zip K).length=n):=zh (by rw[List.length_zip,HLN.out,HMN.out];exact Nat.min_self _);have hst:SV2 w (L.zip K) n n (.int .i64 ((0:Nat):Int)) w:=⟨0,zA _,rfl,rfl,Below.refl _ _,by simp⟩;have HST:=zh hst;clear hst hr;go_enter Tryz.func28,Tryz.ntmps28
  go_wp2_with fail
  go_loopg [5] n (fun gk s wr=>SV2 w (L.zip K) n gk s wr)
  case atStart=>exact HST.out
  case round =>
   clear HST;obtain⟨i,hi,hgk,rfl,hB,hd⟩:=hrel;have HGK:=zh hgk;have HD:=zh hd;clear hgk hd;by_cases hlt:i<n
   ·obtain⟨b,off,rfl,hel⟩:=H.out.at Vc.cs_len zo zo;obtain⟨b',off',rfl,hel'⟩:=H'.out.at Vc.cs_len zo zo;obtain⟨x,ex⟩:∃x,L[i]?=some x:=⟨L[i]'(by rw[HLN.out];exact hlt),aA _⟩;obtain⟨y,ey⟩:∃y,K[i]?=some y:=⟨K[i]'(by rw[HMN.out];exact hlt),aA _⟩;have hnd:ElA w b (off+i) (Vc.cs x):=by have:=hel i x ex;rwa [bD] at this
    have hnd':ElA w b' (off'+i) (Vc.cs y):=by have:=hel' i y ey;rwa [bD] at this
    have HZI:Hid ((L.zip K)[i]?=some (x,y)):=zh (by rw[List.getElem?_zip_eq_some];exact⟨ex,ey⟩);have HVX:=zh (HOX.out x (eA ex));have HVY:=zh (HOY.out y (eA ey));have hxn:x.n≤1000000:=by have h3:=HCX.out _ (uC (f:=fun v:Vc=>prs v.L) (eA ex));have h4:=HVX.out.nv.len;omega
    have hyn:y.n≤1000000:=by have h3:=HCY.out _ (uC (f:=fun v:Vc=>prs v.L) (eA ey));have h4:=HVY.out.nv.len;omega
    have i1:(i:Int)<(n:Int):=zo;have i2:(0:Int)≤(i:Int):=zo;clear ex hel ey hel';cases hp:decide (prs x.L=prs y.L)
    ·have HP:=zh hp;clear hp;have Bz:=zr wr;have pA0:=(hnd.below (bT hB Bz)).c0 (u:=.slice x.A x.n x.c) rfl;have pB0:=(hnd'.below (bT hB Bz)).c0 (u:=.slice y.A y.n y.c) rfl;go_wp2_with fail
     (try simp only[vA,vBa,vC])
     refine zl (zza [0,1,2,3,4,5,6,7] (.only 8 (.take 9 .done))) [] (zsa pA0 (zIa pB0)) ?_;iterate 8 (refine zUa ?_;try simp only[uW,uX,uY,uZ])
     refine zC 25 rfl rfl (fun K hK=>?_);go_simp
     with_reducible refine(sameVec_q ((HVX.out.nv).below (bT hB (bT (b:=wr) Bz))) ((HVY.out.nv).below (bT hB (bT (b:=wr) Bz))) hM hM' hxn hyn false HP).mono ?_
     rintro e w1 ⟨rfl,q⟩;replace q:=zq (a:=wr) q;replace Bz:=bT Bz q;clear q;clear pA0 pB0;have pA0:=(hnd.below (bT hB Bz)).c0 (u:=.slice x.A x.n x.c) rfl;have pB0:=(hnd'.below (bT hB Bz)).c0 (u:=.slice y.A y.n y.c) rfl;refine hK.out _ _ ⟨pA0,pB0⟩ (fun _=>?_);try simp only[uW,uX,uY,uZ]
     clear hK K;refine zUa ?_;try simp only[uW,uX,uY,uZ]
     refine zAa ?_;go_wp2_with fail
     go_ret
     have hF:=bT (c:=w1) hB Bz;obtain rfl:r=false:=by rw[←hra.out];exact all_no HZI.out HP.out
     exact⟨rfl,bT (bT hB Bz)⟩
    ·have HP:=zh hp;clear hp;have Bz:=zr wr;have pA0:=(hnd.below (bT hB Bz)).c0 (u:=.slice x.A x.n x.c) rfl;have pB0:=(hnd'.below (bT hB Bz)).c0 (u:=.slice y.A y.n y.c) rfl;go_wp2_with fail
     (try simp only[vA,vBa,vC])
     refine zl (zza [0,1,2,3,4,5,6,7] (.only 8 (.take 9 .done))) [] (zsa pA0 (zIa pB0)) ?_;iterate 8 (refine zUa ?_;try simp only[uW,uX,uY,uZ])
     refine zC 25 rfl rfl (fun K hK=>?_);go_simp
     with_reducible refine(sameVec_q ((HVX.out.nv).below (bT hB (bT (b:=wr) Bz))) ((HVY.out.nv).below (bT hB (bT (b:=wr) Bz))) hM hM' hxn hyn true HP).mono ?_
     rintro e w1 ⟨rfl,q⟩;replace q:=zq (a:=wr) q;replace Bz:=bT Bz q;clear q;clear pA0 pB0;have pA0:=(hnd.below (bT hB Bz)).c0 (u:=.slice x.A x.n x.c) rfl;have pB0:=(hnd'.below (bT hB Bz)).c0 (u:=.slice y.A y.n y.c) rfl;refine hK.out _ _ ⟨pA0,pB0⟩ (fun _=>?_);try simp only[uW,uX,uY,uZ]
     clear hK K;refine zUa ?_;try simp only[uW,uX,uY,uZ]
     refine zAa ?_;go_wp2_with fail
     go_roundg (n-(i+1))
     case measure=>have:=HGK.out;omega
     case rel=>exact⟨i+1,zo,rfl,by go_num,bT (bT hB Bz),take_all HD.out HZI.out HP.out⟩
   ·obtain rfl:i=n:=zo;have i1:¬(i:Int)<(i:Int):=zo;obtain rfl:r=true:=by rw[←hra.out];exact all_yes HZL.out HD.out
    go_wp2_with fail
    go_ret
    exact⟨rfl,hB⟩
 ·have g0:((n:Int) !=(n':Int))=true:=by simp;omega
  obtain rfl:r=false:=by rw[←hr.out];exact jA (fun e=>hnn (by have e2:=congrArg List.length e;rw[nB,nB,HLN.out,HMN.out] at e2;exact e2))
  clear hr;go_enter Tryz.func28,Tryz.ntmps28
  go_wp2_with fail
  go_ret
  exact⟨rfl,Below.refl _ _⟩
structure LuAt (w:World) (fb n m:Nat) (C:List (List (Int×Rat))):Prop where
 lu:LuM w fb n (facST C n) (facK m)
 up:∃t,facUp (facT C n) n=some t
 hl:C.length=n
theorem LuAt.below {w w':World} {n:Nat} {C:List (List (Int×Rat))} (h:LuAt w fb n m C) (hb:Below w.heap.size w w':=by go_grown):LuAt w' fb n m C:=⟨h.lu.below hb,h.up,h.hl⟩
theorem LuAt.inv {w:World} {n:Nat} {C:List (List (Int×Rat))} (h:LuAt w fb n m C):(∀st∈facST C n,GoodSt n st)∧(facST C n).Pairwise ApartSt∧(∀j,j<n→∃st∈facST C n,st.row=(j:Int))∧(facST C n).length=n:=by
 obtain⟨t,ht⟩:=h.up;obtain⟨h1,h2,_⟩:=fac_sys (lu_start h.hl) rfl n ht;rw[facST_eq ht];exact⟨h1.good,h1.apart,fun j hj=>h1.allRows h2 j hj,h2⟩
def TellsFC (w:World) (n m:Nat) (C:List (List (Int×Rat))) (r:Bool) (e:Ending) (w':World):Prop :=
 Below w.heap.size w w'∧((r=false∧e=.returned (.tuple #[.pointer none,.int .i64 2]))∨(r=true∧((facUp (facT C n) n=none∧e=.returned (.tuple #[.pointer none,.int .i64 12]))∨
  ∃fb,e=.returned (.tuple #[.pointer (some ⟨fb,0,none⟩),.int .i64 0])∧w.heap.size≤fb∧LuAt w' fb n m C)))
theorem TellsFac.fc {w w':World} {n:Nat} {e:Ending} (h:TellsFac w n m CL e w') (hl:CL.length=n):TellsFC w n m (CL.map fun v=>prs v.L) (CL.all fun v=>rightB v.L (n:Int)) e w':=by
 obtain⟨h1,h2⟩:=h;refine⟨h1,?_⟩;rcases h2 with h2 | ⟨h2,h3 | ⟨t,fb,h3,h4,h5,h6⟩⟩
 ·exact .inl h2
 ·exact .inr ⟨h2,.inl h3⟩
 ·have h7:facUp (facT (CL.map fun v=>prs v.L) n) n=some t:=h3;exact .inr ⟨h2,.inr ⟨fb,h4,h5,by rw[facST_eq h7];exact h6,⟨t,h7⟩,by rw[nB];exact hl⟩⟩
theorem factorC {w:World} {n c:Nat} {C:List (List (Int×Rat))} (h:CM w A n c C M) (hC:∀x∈C,x.length≤1000) (hn:n≤256) (hM:facM M n≤3600000012) (hT:Hid (Tab w)) :
  Calls Tryz.prog 10 #[.slice A n c,.int .i64 (n:Int)] w (TellsFC w n M C (rightC (n:Int) C)):=by
 obtain⟨CL,h1,h2,rfl⟩:=h;refine(factor_q (m:=M) h1 (zh fun v hv=>?_) hn hM hT).mono fun e w' k=>?_
 ·obtain⟨h3,h4,h5⟩:=h2 v hv;refine⟨h3,h4.fr fun _=>cA _,?_,h5⟩;have h6:=hC _ (uC (f:=fun v:Vc=>prs v.L) hv);rw[zAh,h3.1] at h6;exact h6
 ·have h3:=k.fc h1.1;rwa [right_cn h2 rfl] at h3
theorem facK_half (m:Nat) {i n:Nat} (h:i<n):facK m i≤facM m n / 2:=by
 have h1:4*facM m i+12≤facM m n:=facM_mono m (show i+1≤n from h);have h2:facK m i=2*facM m i+4:=rfl;omega
theorem pow_two_mono {i n:Nat} (S:Nat) (h:i≤n):2 ^ i*S≤2 ^ n*S:=cB _ (fD zo h)
theorem ftranC {w:World} {n KX:Nat} {C:List (List (Int×Rat))} (h:LuAt w fb n m C) (hb:GV w X bn bc P S) (hS2:2≤S) (hbn:bn≤1000) (hn:n≤256) (hfit:fitsB n (nrm P)=true)
  (hN1:2 ^ n*S+facM m n≤18000000000) (hN2:2 ^ n*S+facM m n+n*(facM m n / 2+KX)≤35000000000) (hN3:facM m n≤8000000000) (hKX:Hid (∀a,0≤a→a<(n:Int)→sz (back (fwd (facST C n) (pget P)) (facST C n) a)+1≤KX)) (hKX2:KX≤14000000000) (hKX1:2≤KX) (hT:Hid (Tab w)) :
  Calls Tryz.prog 12 #[.pointer (some ⟨fb,0,none⟩),.slice X bn bc] w (TellsLX w (FtranP n (facST C n) P) (KX+2)):=by
 obtain⟨h1,h2,h3,h4⟩:=h.inv;have hS:S≤2 ^ n*S:=Nat.le_mul_of_pos_left S (aG (by simp));refine ftran_q (KS:=2 ^ n*S+facM m n) h.lu (zh h1) (zh h2) hb zo hS2 hbn hn (zh hfit) (fun i=>2 ^ i*S+facM m i) (by show S≤2 ^ 0*S+facM m 0;omega) (zh fun i hi=>?_) (cA _) hKX hKX2 hKX1 hT;have k1:facM m (i+1)=4*facM m i+12:=rfl;have k2:facK m i=2*facM m i+4:=rfl;have k3:2 ^ (i+1)*S=2*(2 ^ i*S):=by rw[bC,rB (2 ^ i) 2,kB]
 have k4:=pow_two_mono S (show i+1≤n from hi);have k5:=facM_mono m (show i+1≤n from hi);have k6:=facK_half m hi;have k7:n*(facK m i+KX)≤n*(facM m n / 2+KX):=eC _ zo;refine⟨?_,?_,?_,?_⟩
 ·show 2*(2 ^ i*S+facM m i)+facK m i≤2 ^ (i+1)*S+facM m (i+1);omega
 ·show 2*(2 ^ i*S+facM m i)+facK m i≤20000000000;omega
 ·omega
 ·omega
theorem ftranC_no {w:World} {n:Nat} {C:List (List (Int×Rat))} (h:LuAt w fb n m C) (hb:GV w X bn bc P S) (hS:S≤18000000000) (hS2:2≤S) (hbn:bn≤1000) (hn:n≤256) (hfit:fitsB n (nrm P)=false) (hT:Hid (Tab w)) :
  Calls Tryz.prog 12 #[.pointer (some ⟨fb,0,none⟩),.slice X bn bc] w fun e w'=>e=.returned (.tuple #[.slice none 0 0,.int .i64 2])∧Below w.heap.size w w':=ftran_no h.lu hb hS hS2 hbn hn hfit hT
theorem btranC {w:World} {n KF:Nat} {C:List (List (Int×Rat))} (h:LuAt w fb n m C) (hb:GV w X bn bc P S) (hS2:2≤S) (hbn:bn≤1000) (hn:n≤256) (hfit:fitsB n (nrm P)=true)
  (hN1:2 ^ n*S+2*facM m n≤14000000000) (hN2:2 ^ n*S+2*facM m n+n*(facM m n / 2+KF)≤35000000000) (hKF:Hid (∀a,0≤a→a<(n:Int)→sz (btranF (facST C n) (pget P) a)+1≤KF)) (hKZ:KF≤2 ^ n*S+2*facM m n) (hKF1:2≤KF) (hT:Hid (Tab w)) :
  Calls Tryz.prog 13 #[.pointer (some ⟨fb,0,none⟩),.slice X bn bc] w (TellsLX w (BtranP n (facST C n) P) (KF+2)):=by
 obtain⟨h1,h2,h3,h4⟩:=h.inv;have hS:S≤2 ^ n*S:=Nat.le_mul_of_pos_left S (aG (by simp));refine btran_q (KZ:=2 ^ n*S+2*facM m n) h.lu (zh h1) (zh h2) (zh h3) hb zo hS2 hbn hn (zh hfit) (fun i=>2 ^ i*S+2*facM m i) (by show S≤2 ^ 0*S+2*facM m 0;omega) (zh fun i hi=>?_) hKF hKZ hN1 hKF1 hT;have k1:facM m (i+1)=4*facM m i+12:=rfl;have k2:facK m i=2*facM m i+4:=rfl;have k3:2 ^ (i+1)*S=2*(2 ^ i*S):=by rw[bC,rB (2 ^ i) 2,kB]
 have k4:=pow_two_mono S (show i+1≤n from hi);have k5:=facM_mono m (show i+1≤n from hi);have k6:=facK_half m hi;have k7:n*(facK m i+KF)≤n*(facM m n / 2+KF):=eC _ zo;refine⟨?_,?_,?_,?_,?_⟩
 ·show 2*(2 ^ i*S+2*facM m i)+2*facK m i≤2 ^ (i+1)*S+2*facM m (i+1);omega
 ·show 2*(2 ^ i*S+2*facM m i)+2*facK m i≤20000000000;omega
 ·show 2 ^ i*S+2*facM m i+facK m i≤_;omega
 ·omega
 ·omega
theorem btranC_no {w:World} {n:Nat} {C:List (List (Int×Rat))} (h:LuAt w fb n m C) (hb:GV w X bn bc P S) (hS:S≤18000000000) (hS2:2≤S) (hbn:bn≤1000) (hn:n≤256) (hfit:fitsB n (nrm P)=false) (hT:Hid (Tab w)) :
  Calls Tryz.prog 13 #[.pointer (some ⟨fb,0,none⟩),.slice X bn bc] w fun e w'=>e=.returned (.tuple #[.slice none 0 0,.int .i64 2])∧Below w.heap.size w w':=btran_no h.lu hb hS hS2 hbn hn hfit hT
theorem LuAt.sz {w:World} {n D:Nat} {C:List (List (Int×Rat))} (h:LuAt w fb n m C) (hD:∀j∈plc n,∀a∈plc n,Go.Proofs.YtfpbmpllildbaaaGreatDoor.sz (mA C j a)≤D) {f:Int→Rat} (hf:∀j∈plc n,Go.Proofs.YtfpbmpllildbaaaGreatDoor.sz (f j)≤S) (a:Int) (ha:0≤a) (ha2:a<(n:Int)):Go.Proofs.YtfpbmpllildbaaaGreatDoor.sz (back (fwd (facST C n) f) (facST C n) a)≤solG D S (n-1):=by
 obtain⟨t,ht⟩:=h.up;rw[facST_eq ht];exact lu_sz h.hl zo ht hD hf a (plc_mem.2 ⟨ha,ha2⟩)
theorem LuAt.lsz {w:World} {n D:Nat} {C:List (List (Int×Rat))} (h:LuAt w fb n m C) (hD:∀j∈plc n,∀a∈plc n,Go.Proofs.YtfpbmpllildbaaaGreatDoor.sz (mA C j a)≤D) {f:Int→Rat} (hf:∀j∈plc n,Go.Proofs.YtfpbmpllildbaaaGreatDoor.sz (f j)≤S) (a:Int) (ha:0≤a) (ha2:a<(n:Int)):Go.Proofs.YtfpbmpllildbaaaGreatDoor.sz (btranF (facST C n) f a)≤solG D S (n-1):=by
 obtain⟨t,ht⟩:=h.up;rw[facST_eq ht];exact lu_left_sz h.hl zo ht hD hf a (plc_mem.2 ⟨ha,ha2⟩)
theorem sl_litG {α:Type} {f:α→List Value} {k:Nat} {w:World} {b n:Nat} {cs:Array Value} {te:TypeId} {L:List α} (hk:∀x,(f x).length=k) (h:Bx w b cs te) (hcs:cs.toList=flat f L) (hl:L.length=n):Sl f k w (some ⟨b,0,none⟩) n n L:=by
 subst hl;refine⟨rfl,by rw[flat_len hk],_,_,rfl,(fun h=>(by cases h)),fun a ha j u hu=>?_⟩;cases ha;rw[add_off,rC];refine h.cell j u ?_;rw[←hcs] at hu;simpa using hu
theorem cn_mk {w:World} {n c:Nat} {L:List Tm} (h1:Sl Tm.cs 5 w A n c L) (h2:OnT w L (fun _=>M)) (h3:A=none→c=0):CN w ⟨A,n,c,L⟩ M:=⟨h1,h2,h3⟩
theorem cns_nil (w:World) (M:Nat):∀u∈([]:List Vc),CN w u M:=fun u hu=>by cases hu
theorem cns_cons {w:World} {v:Vc} (h:CN w v M) (hs:∀u∈CL,CN w u M):∀u∈v :: CL,CN w u M:=fun u hu=>by
 rcases xB.1 hu with rfl | hu
 ·exact h
 ·exact hs u hu
theorem cm_lit {w:World} {b n:Nat} {cs:Array Value} {te:TypeId} (CL:List Vc) (h:Bx w b cs te) (hcs:cs.toList=flat Vc.cs CL) (hl:CL.length=n) (hs:∀u∈CL,CN w u M) (C:List (List (Int×Rat))) (hC:CL.map (fun v=>prs v.L)=C):CM w (some ⟨b,0,none⟩) n n C M:=⟨CL,sl_litG Vc.cs_len h hcs hl,hs,hC⟩
theorem nv_nil (w:World) (M:Nat):NV w none 0 0 [] M:=⟨[],Sl.nil _,OnT.nil _ _,rfl,fun _=>rfl⟩
theorem wtot_on {w:World} {L:List Tm} {n:Nat} (h:OnT w L (fun _=>M)) (hn:L.length*M=n):wtot (prs L)≤n:=by
 have h1:=wtot_le (m:=M) (L:=prs L) fun x hx=>by
  obtain⟨t,ht,rfl⟩:=prs_mem hx;exact(h t ht).2.2
 rwa [zAh,hn] at h1
theorem CM.dg {w:World} {n c k:Nat} {C:List (List (Int×Rat))} (h:CM w A n c C M) (hk:(∀x∈C,x.length≤k)∧k*M=m):∀x∈C,x.length≤k∧wtot x≤m:=fun x hx=>by
 obtain⟨CL,h1,h2,rfl⟩:=h;refine⟨hk.1 x hx,?_⟩;obtain⟨v,hv,rfl⟩:=yB.1 hx;refine nA (wtot_on (h2 v hv).2.1 rfl) ?_;have h3:=hk.1 _ hx;rw[zAh] at h3;rw[←hk.2];exact cB _ h3
theorem CW.dotK {w:World} {n c WT N K:Nat} {C:List (List (Int×Rat))} (h:CW w A n c C M) (hW:wtot P≤WT) (hN:P.length≤N) (hK:1+WT+N*(M+1)≤K):∀x∈C,sz (pdot (nrm P) x)≤K:=fun x hx=>by
 obtain⟨CL,h1,h2,rfl⟩:=h;obtain⟨v,hv,rfl⟩:=yB.1 hx;have h3:=pdot_tot (K:=M+1) (h2 v hv).getsz (nrm P);have h4:=wtot_nrm P;have h5:=cB (M+1) (nA (nrm_len P) hN);omega
theorem factorBad {w:World} {n c:Nat} {C:List (List (Int×Rat))} (h:CM w A n c C M) (hC:∀x∈C,x.length≤1000) (hn:n≤256) (hM:facM M n≤3600000012) (hr:rightC (n:Int) C=false) (z:Int) (hz:(n:Int)=z) (hT:Hid (Tab w)) :
  Calls Tryz.prog 10 #[.slice A n c,.int .i64 z] w fun e w'=>e=.returned (.tuple #[.pointer none,.int .i64 2])∧Below w.heap.size w w':=by
 subst hz;refine(factorC h hC hn hM hT).mono fun e w' ⟨h1,h2⟩=>?_;rcases h2 with h2 | ⟨h2,_⟩
 ·exact⟨h2.2,h1⟩
 ·rw[hr] at h2;cases h2
theorem factorSing {w:World} {n c:Nat} {C:List (List (Int×Rat))} (h:CM w A n c C M) (hC:∀x∈C,x.length≤1000) (hn:n≤256) (hM:facM M n≤3600000012) (hr:rightC (n:Int) C=true) (hs:(facUp (facT C n) n).isNone=true) (z:Int) (hz:(n:Int)=z) (hT:Hid (Tab w)) :
  Calls Tryz.prog 10 #[.slice A n c,.int .i64 z] w fun e w'=>e=.returned (.tuple #[.pointer none,.int .i64 12])∧Below w.heap.size w w':=by
 subst hz;refine(factorC h hC hn hM hT).mono fun e w' ⟨h1,h2⟩=>?_;rcases h2 with h2 | ⟨_,h3 | ⟨fb,_,_,h4⟩⟩
 ·rw[hr] at h2;cases h2.1
 ·exact⟨h3.2,h1⟩
 ·obtain⟨t,ht⟩:=h4.up;rw[ht] at hs;cases hs
theorem factorOk {w:World} {n c:Nat} {C:List (List (Int×Rat))} (h:CM w A n c C M) (hC:∀x∈C,x.length≤1000) (hn:n≤256) (hM:facM M n≤3600000012) (hr:rightC (n:Int) C=true) (hs:(facUp (facT C n) n).isSome=true) (z:Int) (hz:(n:Int)=z) (hT:Hid (Tab w)) :
  Calls Tryz.prog 10 #[.slice A n c,.int .i64 z] w fun e w'=>∃fb,e=.returned (.tuple #[.pointer (some ⟨fb,0,none⟩),.int .i64 0])∧LuAt w' fb n M C∧Below w.heap.size w w':=by
 subst hz;refine(factorC h hC hn hM hT).mono fun e w' ⟨h1,h2⟩=>?_;rcases h2 with h2 | ⟨_,h3 | ⟨fb,h3,_,h4⟩⟩
 ·rw[hr] at h2;cases h2.1
 ·rw[h3.1] at hs;cases hs
 ·exact⟨fb,h3,h4,h1⟩
end Go.Proofs.YtfpbmpllildbaaaGreatDoor
