import Derived.Test.YteggjbgbknkoiaaGreatDoorYLu9
import Derived.Test.YteggjbgbknkoiaaGreatDoorYLu5
namespace Go.Proofs.YteggjbgbknkoiaaGreatDoor
open Go.RowKit Tw
variable {CL:List Vc} {M S fb m:Nat} {A:Option Addr}
theorem right_cn {w:World} {C:List (List (Int×Rat))} {k:Int} (h:∀v∈CL,CN w v M) (hC:CL.map (fun v=>prs v.L)=C):(CL.all fun v=>rightB v.L k)=rightC k C:=by
 subst hC;rw[Bool.eq_iff_iff,rightC_iff,cE];refine⟨fun ha c hc=>?_,fun hr v hv=>?_⟩
 ·obtain⟨v,hv,rfl⟩:=rC.1 hc;have h1:=rightB_nrm (ha v hv);refine⟨h1.1,fun x hx=>?_⟩;obtain⟨t,ht,rfl⟩:=prs_mem hx;exact⟨(h1.2 t ht).1,(h1.2 t ht).2.1⟩
 ·have h1:=hr _ (wD (f:=fun v:Vc=>prs v.L) hv);refine rightB_of h1.1 fun t ht=>?_;have h2:=h1.2 (t.at_,t.x.q) (wD (f:=fun t:Tm=>(t.at_,t.x.q)) ht);exact⟨h2.1,h2.2,((h v hv).2.1 t ht).2.1⟩
structure LuAt (w:World) (fb n m:Nat) (C:List (List (Int×Rat))):Prop where
 lu:LuM w fb n (facST C n) (facK m)
 up:∃t,facUp (facT C n) n=some t
 hl:C.length=n
theorem LuAt.below {w w':World} {n:Nat} {C:List (List (Int×Rat))} (h:LuAt w fb n m C) (hb:Below w.heap.size w w':=by go_grown):LuAt w' fb n m C:=⟨h.lu.below hb,h.up,h.hl⟩
theorem LuAt.inv {w:World} {n:Nat} {C:List (List (Int×Rat))} (h:LuAt w fb n m C):(∀st∈facST C n,GoodSt n st)∧(facST C n).Pairwise ApartSt∧(∀j,j<n→∃st∈facST C n,st.row=(j:Int))∧(facST C n).length=n:=by
 obtain⟨t,ht⟩:=h.up;obtain⟨h1,h2,_⟩:=fac_sys (lu_start h.hl) rfl n ht;rw[facST_eq ht];exact⟨h1.good,h1.apart,fun j hj=>h1.allRows h2 j hj,h2⟩
def TellsFC (w:World) (n m:Nat) (C:List (List (Int×Rat))) (r:Bool) (e:Ending) (w':World):Prop :=
 Below w.heap.size w w'∧((r=false∧e=.returned (.tuple #[.pointer none,.int .i64 2]))∨(r=true∧((facUp (facT C n) n=none∧e=.returned (.tuple #[.pointer none,.int .i64 12]))∨
  ∃fb,e=.returned (.tuple #[.pointer (some ⟨fb,0,none⟩),.int .i64 0])∧w.heap.size≤fb∧LuAt w' fb n m C)))
theorem TellsFac.fc {w w':World} {n:Nat} {e:Ending} (h:TellsFac w n m CL e w') (hl:CL.length=n):TellsFC w n m (CL.map fun v=>prs v.L) (CL.all fun v=>rightB v.L (n:Int)) e w':=by
 obtain⟨h1,h2⟩:=h;refine⟨h1,?_⟩;rcases h2 with h2 | ⟨h2,h3 | ⟨t,fb,h3,h4,h5,h6⟩⟩
 ·exact .inl h2
 ·exact .inr ⟨h2,.inl h3⟩
 ·have h7:facUp (facT (CL.map fun v=>prs v.L) n) n=some t:=h3;exact .inr ⟨h2,.inr ⟨fb,h4,h5,by rw[facST_eq h7];exact h6,⟨t,h7⟩,by rw[xB];exact hl⟩⟩
theorem factorC {w:World} {n c:Nat} {C:List (List (Int×Rat))} (h:CM w A n c C M) (hC:∀x∈C,x.length≤1000) (hn:n≤256) (hM:facM M n≤3600000012) (hT:Hid (Tab w)) :
  Calls Tryz.prog 6 #[.slice A n c,.int .i64 (n:Int)] w (TellsFC w n M C (rightC (n:Int) C)):=by
 obtain⟨CL,h1,h2,rfl⟩:=h;refine(factor_q (m:=M) h1 (zh fun v hv=>?_) hn hM hT).mono fun e w' k=>?_
 ·obtain⟨h3,h4,h5⟩:=h2 v hv;refine⟨h3,h4.fr fun _=>aA _,?_,h5⟩;have h6:=hC _ (wD (f:=fun v:Vc=>prs v.L) hv);rw[prs_len,h3.1] at h6;exact h6
 ·have h3:=k.fc h1.1;rwa [right_cn h2 rfl] at h3
theorem facK_half (m:Nat) {i n:Nat} (h:i<n):facK m i≤facM m n / 2:=by
 have h1:4*facM m i+12≤facM m n:=facM_mono m (show i+1≤n from h);have h2:facK m i=2*facM m i+4:=rfl;omega
theorem pow_two_mono {i n:Nat} (S:Nat) (h:i≤n):2 ^ i*S≤2 ^ n*S:=wB _ (cD zo h)
theorem ftranC {w:World} {n bn bc KX:Nat} {C:List (List (Int×Rat))} {X:Option Addr} {P:List (Int×Rat)} (h:LuAt w fb n m C) (hb:GV w X bn bc P S) (hS2:2≤S) (hbn:bn≤1000) (hn:n≤256) (hfit:fitsB n (nrm P)=true)
  (hN1:2 ^ n*S+facM m n≤18000000000) (hN2:2 ^ n*S+facM m n+n*(facM m n / 2+KX)≤35000000000) (hN3:facM m n≤8000000000) (hKX:Hid (∀a,0≤a→a<(n:Int)→sz (back (fwd (facST C n) (pget P)) (facST C n) a)+1≤KX)) (hKX2:KX≤14000000000) (hKX1:2≤KX) (hT:Hid (Tab w)) :
  Calls Tryz.prog 8 #[.pointer (some ⟨fb,0,none⟩),.slice X bn bc] w (TellsLX w (FtranP n (facST C n) P) (KX+2)):=by
 obtain⟨h1,h2,h3,h4⟩:=h.inv;have hS:S≤2 ^ n*S:=Nat.le_mul_of_pos_left S (jG (by simp));refine ftran_q (KS:=2 ^ n*S+facM m n) h.lu (zh h1) (zh h2) hb zo hS2 hbn hn (zh hfit) (fun i=>2 ^ i*S+facM m i) (by show S≤2 ^ 0*S+facM m 0;omega) (zh fun i hi=>?_) (aA _) hKX hKX2 hKX1 hT;have k1:facM m (i+1)=4*facM m i+12:=rfl;have k2:facK m i=2*facM m i+4:=rfl;have k3:2 ^ (i+1)*S=2*(2 ^ i*S):=by rw[aC,mB (2 ^ i) 2,jB]
 have k4:=pow_two_mono S (show i+1≤n from hi);have k5:=facM_mono m (show i+1≤n from hi);have k6:=facK_half m hi;have k7:n*(facK m i+KX)≤n*(facM m n / 2+KX):=fC _ zo;refine⟨?_,?_,?_,?_⟩
 ·show 2*(2 ^ i*S+facM m i)+facK m i≤2 ^ (i+1)*S+facM m (i+1);omega
 ·show 2*(2 ^ i*S+facM m i)+facK m i≤20000000000;omega
 ·omega
 ·omega
theorem ftranC_no {w:World} {n bn bc:Nat} {C:List (List (Int×Rat))} {X:Option Addr} {P:List (Int×Rat)} (h:LuAt w fb n m C) (hb:GV w X bn bc P S) (hS:S≤18000000000) (hS2:2≤S) (hbn:bn≤1000) (hn:n≤256) (hfit:fitsB n (nrm P)=false) (hT:Hid (Tab w)) :
  Calls Tryz.prog 8 #[.pointer (some ⟨fb,0,none⟩),.slice X bn bc] w fun e w'=>e=.returned (.tuple #[.slice none 0 0,.int .i64 2])∧Below w.heap.size w w':=ftran_no h.lu hb hS hS2 hbn hn hfit hT
theorem LuAt.sz {w:World} {n D:Nat} {C:List (List (Int×Rat))} (h:LuAt w fb n m C) (hD:∀j∈plc n,∀a∈plc n,Go.Proofs.YteggjbgbknkoiaaGreatDoor.sz (mA C j a)≤D) {f:Int→Rat} (hf:∀j∈plc n,Go.Proofs.YteggjbgbknkoiaaGreatDoor.sz (f j)≤S) (a:Int) (ha:0≤a) (ha2:a<(n:Int)):Go.Proofs.YteggjbgbknkoiaaGreatDoor.sz (back (fwd (facST C n) f) (facST C n) a)≤solG D S (n-1):=by
 obtain⟨t,ht⟩:=h.up;rw[facST_eq ht];exact lu_sz h.hl zo ht hD hf a (plc_mem.2 ⟨ha,ha2⟩)
theorem sl_litG {α:Type} {f:α→List Value} {k:Nat} {w:World} {b n:Nat} {cs:Array Value} {te:TypeId} {L:List α} (hk:∀x,(f x).length=k) (h:Bx w b cs te) (hcs:cs.toList=flat f L) (hl:L.length=n):Sl f k w (some ⟨b,0,none⟩) n n L:=by
 subst hl;refine⟨rfl,by rw[flat_len hk],_,_,rfl,(fun h=>(by cases h)),fun a ha j u hu=>?_⟩;cases ha;rw[add_off,kC];refine h.cell j u ?_;rw[←hcs] at hu;simpa using hu
theorem cn_mk {w:World} {n c:Nat} {L:List Tm} (h1:Sl Tm.cs 5 w A n c L) (h2:OnT w L (fun _=>M)) (h3:A=none→c=0):CN w ⟨A,n,c,L⟩ M:=⟨h1,h2,h3⟩
theorem cns_nil (w:World) (M:Nat):∀u∈([]:List Vc),CN w u M:=fun u hu=>by cases hu
theorem cns_cons {w:World} {v:Vc} (h:CN w v M) (hs:∀u∈CL,CN w u M):∀u∈v :: CL,CN w u M:=fun u hu=>by
 rcases rB.1 hu with rfl | hu
 ·exact h
 ·exact hs u hu
theorem cm_lit {w:World} {b n:Nat} {cs:Array Value} {te:TypeId} (CL:List Vc) (h:Bx w b cs te) (hcs:cs.toList=flat Vc.cs CL) (hl:CL.length=n) (hs:∀u∈CL,CN w u M) (C:List (List (Int×Rat))) (hC:CL.map (fun v=>prs v.L)=C):CM w (some ⟨b,0,none⟩) n n C M:=⟨CL,sl_litG Vc.cs_len h hcs hl,hs,hC⟩
theorem nv_nil (w:World) (M:Nat):NV w none 0 0 [] M:=⟨[],Sl.nil _,OnT.nil _ _,rfl,fun _=>rfl⟩
theorem wtot_on {w:World} {L:List Tm} {n:Nat} (h:OnT w L (fun _=>M)) (hn:L.length*M=n):wtot (prs L)≤n:=by
 have h1:=wtot_le (m:=M) (L:=prs L) fun x hx=>by
  obtain⟨t,ht,rfl⟩:=prs_mem hx;exact(h t ht).2.2
 rwa [prs_len,hn] at h1
theorem CM.dg {w:World} {n c k:Nat} {C:List (List (Int×Rat))} (h:CM w A n c C M) (hk:(∀x∈C,x.length≤k)∧k*M=m):∀x∈C,x.length≤k∧wtot x≤m:=fun x hx=>by
 obtain⟨CL,h1,h2,rfl⟩:=h;refine⟨hk.1 x hx,?_⟩;obtain⟨v,hv,rfl⟩:=rC.1 hx;refine wA (wtot_on (h2 v hv).2.1 rfl) ?_;have h3:=hk.1 _ hx;rw[prs_len] at h3;rw[←hk.2];exact wB _ h3
theorem factorBad {w:World} {n c:Nat} {C:List (List (Int×Rat))} (h:CM w A n c C M) (hC:∀x∈C,x.length≤1000) (hn:n≤256) (hM:facM M n≤3600000012) (hr:rightC (n:Int) C=false) (z:Int) (hz:(n:Int)=z) (hT:Hid (Tab w)) :
  Calls Tryz.prog 6 #[.slice A n c,.int .i64 z] w fun e w'=>e=.returned (.tuple #[.pointer none,.int .i64 2])∧Below w.heap.size w w':=by
 subst hz;refine(factorC h hC hn hM hT).mono fun e w' ⟨h1,h2⟩=>?_;rcases h2 with h2 | ⟨h2,_⟩
 ·exact⟨h2.2,h1⟩
 ·rw[hr] at h2;cases h2
theorem factorSing {w:World} {n c:Nat} {C:List (List (Int×Rat))} (h:CM w A n c C M) (hC:∀x∈C,x.length≤1000) (hn:n≤256) (hM:facM M n≤3600000012) (hr:rightC (n:Int) C=true) (hs:(facUp (facT C n) n).isNone=true) (z:Int) (hz:(n:Int)=z) (hT:Hid (Tab w)) :
  Calls Tryz.prog 6 #[.slice A n c,.int .i64 z] w fun e w'=>e=.returned (.tuple #[.pointer none,.int .i64 12])∧Below w.heap.size w w':=by
 subst hz;refine(factorC h hC hn hM hT).mono fun e w' ⟨h1,h2⟩=>?_;rcases h2 with h2 | ⟨_,h3 | ⟨fb,_,_,h4⟩⟩
 ·rw[hr] at h2;cases h2.1
 ·exact⟨h3.2,h1⟩
 ·obtain⟨t,ht⟩:=h4.up;rw[ht] at hs;cases hs
theorem factorOk {w:World} {n c:Nat} {C:List (List (Int×Rat))} (h:CM w A n c C M) (hC:∀x∈C,x.length≤1000) (hn:n≤256) (hM:facM M n≤3600000012) (hr:rightC (n:Int) C=true) (hs:(facUp (facT C n) n).isSome=true) (z:Int) (hz:(n:Int)=z) (hT:Hid (Tab w)) :
  Calls Tryz.prog 6 #[.slice A n c,.int .i64 z] w fun e w'=>∃fb,e=.returned (.tuple #[.pointer (some ⟨fb,0,none⟩),.int .i64 0])∧LuAt w' fb n M C∧Below w.heap.size w w':=by
 subst hz;refine(factorC h hC hn hM hT).mono fun e w' ⟨h1,h2⟩=>?_;rcases h2 with h2 | ⟨_,h3 | ⟨fb,h3,_,h4⟩⟩
 ·rw[hr] at h2;cases h2.1
 ·rw[h3.1] at hs;cases hs
 ·exact⟨fb,h3,h4,h1⟩
end Go.Proofs.YteggjbgbknkoiaaGreatDoor
