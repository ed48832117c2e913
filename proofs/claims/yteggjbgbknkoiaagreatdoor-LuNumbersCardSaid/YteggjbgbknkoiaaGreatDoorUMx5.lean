import Derived.Test.YteggjbgbknkoiaaGreatDoorULu10
import Derived.Test.YteggjbgbknkoiaaGreatDoorULu5
set_option maxHeartbeats 16000000
set_option maxRecDepth 100000
namespace Go.Proofs.YteggjbgbknkoiaaGreatDoor
open Go.RowKit Tw
variable {CL:List Vc} {KX M S bc bn fb m:Nat} {A X:Option Addr} {P:List (Int×Rat)}
theorem right_cn {w:World} {C:List (List (Int×Rat))} {k:Int} (h:∀v∈CL,CN w v M) (hC:CL.map (fun v=>prs v.L)=C):(CL.all fun v=>rightB v.L k)=rightC k C:=by
 subst hC;rw[Bool.eq_iff_iff,rightC_iff,wD];refine⟨fun ha c hc=>?_,fun hr v hv=>?_⟩
 ·obtain⟨v,hv,rfl⟩:=tC.1 hc;have h1:=rightB_nrm (ha v hv);refine⟨h1.1,fun x hx=>?_⟩;obtain⟨t,ht,rfl⟩:=prs_mem hx;exact⟨(h1.2 t ht).1,(h1.2 t ht).2.1⟩
 ·have h1:=hr _ (qF (f:=fun v:Vc=>prs v.L) hv);refine rightB_of h1.1 fun t ht=>?_;have h2:=h1.2 (t.at_,t.x.q) (qF (f:=fun t:Tm=>(t.at_,t.x.q)) ht);exact⟨h2.1,h2.2,((h v hv).2.1 t ht).2.1⟩
structure LuAt (w:World) (fb n m:Nat) (C:List (List (Int×Rat))):Prop where
 lu:LuM w fb n (facST C n) (facK m)
 up:∃t,facUp (facT C n) n=some t
 hl:C.length=n
theorem LuAt.below {w w':World} {n:Nat} {C:List (List (Int×Rat))} (h:LuAt w fb n m C) (hb:Below w.heap.size w w':=by go_grown):LuAt w' fb n m C:=⟨h.lu.below hb,h.up,h.hl⟩
theorem LuAt.inv {w:World} {n:Nat} {C:List (List (Int×Rat))} (h:LuAt w fb n m C):(∀st∈facST C n,GoodSt n st)∧(facST C n).Pairwise ApartSt∧(∀j,j<n→∃st∈facST C n,st.row=(j:Int))∧(facST C n).length=n:=by
 obtain⟨t,ht⟩:=h.up;obtain⟨h1,h2,_⟩:=fac_sys (lu_start h.hl) rfl n ht;rw[facST_eq ht];exact⟨h1.good,h1.apart,fun j hj=>h1.allRows h2 j hj,h2⟩
def TellsFC (w:World) (n m:Nat) (C:List (List (Int×Rat))) (r:Bool) (e:Ending) (w':World):Prop :=
 Below w.heap.size w w'∧((r=false∧e=.returned (.tuple #[.pointer none,.int .i64 2]))∨(r=true∧((facUp (facT C n) n=none∧e=.returned (.tuple #[.pointer none,.int .i64 12]))∨
  ∃fb,e=.returned (.tuple #[.pointer (some ⟨fb,0,none⟩),.int .i64 0])∧w.heap.size≤fb∧LuAt w' fb n m C)))
theorem TellsFac.fc {w w':World} {n:Nat} {e:Ending} (h:TellsFac w n m CL e w') (hl:CL.length=n):TellsFC w n m (CL.map fun v=>prs v.L) (CL.all fun v=>rightB v.L (n:Int)) e w':=by
 obtain⟨h1,h2⟩:=h;refine⟨h1,?_⟩;rcases h2 with h2 | ⟨h2,h3 | ⟨t,fb,h3,h4,h5,h6⟩⟩
 ·exact .inl h2
 ·exact .inr ⟨h2,.inl h3⟩
 ·have h7:facUp (facT (CL.map fun v=>prs v.L) n) n=some t:=h3;exact .inr ⟨h2,.inr ⟨fb,h4,h5,by rw[facST_eq h7];exact h6,⟨t,h7⟩,by rw[cB];exact hl⟩⟩
theorem factorC {w:World} {n c:Nat} {C:List (List (Int×Rat))} (h:CM w A n c C M) (hC:∀x∈C,x.length≤12) (hn:n≤12) (hM:facM M n≤3600000012) (hT:Hid (Tab w)) :
  Calls Tryz.prog 6 #[.slice A n c,.int .i64 (n:Int)] w (TellsFC w n M C (rightC (n:Int) C)):=by
 obtain⟨CL,h1,h2,rfl⟩:=h;refine(factor_q (m:=M) h1 (zh fun v hv=>?_) hn hM hT).mono fun e w' k=>?_
 ·obtain⟨h3,h4,h5⟩:=h2 v hv;refine⟨h3,h4.fr fun _=>cA _,?_,h5⟩;have h6:=hC _ (qF (f:=fun v:Vc=>prs v.L) hv);rw[prs_len,h3.1] at h6;exact h6
 ·have h3:=k.fc h1.1;rwa [right_cn h2 rfl] at h3
theorem facK_half (m:Nat) {i n:Nat} (h:i<n):facK m i≤facM m n / 2:=by
 have h1:4*facM m i+12≤facM m n:=facM_mono m (show i+1≤n from h);have h2:facK m i=2*facM m i+4:=rfl;omega
theorem pow_two_mono {i n:Nat} (S:Nat) (h:i≤n):2 ^ i*S≤2 ^ n*S:=rB _ (mC zo h)
theorem ftranC {w:World} {n:Nat} {C:List (List (Int×Rat))} (h:LuAt w fb n m C) (hb:GV w X bn bc P S) (hS2:2≤S) (hbn:bn≤12) (hn:n≤12) (hfit:fitsB n (nrm P)=true)
  (hN1:2 ^ n*S+facM m n≤18000000000) (hN2:2 ^ n*S+facM m n+n*(facM m n / 2+KX)≤35000000000) (hN3:facM m n≤8000000000) (hKX:Hid (∀a,0≤a→a<(n:Int)→sz (back (fwd (facST C n) (pget P)) (facST C n) a)+1≤KX)) (hKX2:KX≤14000000000) (hKX1:2≤KX) (hT:Hid (Tab w)) :
  Calls Tryz.prog 8 #[.pointer (some ⟨fb,0,none⟩),.slice X bn bc] w (TellsLX w (FtranP n (facST C n) P) (KX+2)):=by
 obtain⟨h1,h2,h3,h4⟩:=h.inv;have hS:S≤2 ^ n*S:=Nat.le_mul_of_pos_left S (kF (by simp));refine ftran_q (KS:=2 ^ n*S+facM m n) h.lu (zh h1) (zh h2) hb zo hS2 hbn hn (zh hfit) (fun i=>2 ^ i*S+facM m i) (by show S≤2 ^ 0*S+facM m 0;omega) (zh fun i hi=>?_) (cA _) hKX hKX2 hKX1 hT;have k1:facM m (i+1)=4*facM m i+12:=rfl;have k2:facK m i=2*facM m i+4:=rfl;have k3:2 ^ (i+1)*S=2*(2 ^ i*S):=by rw[dB,tA (2 ^ i) 2,wA]
 have k4:=pow_two_mono S (show i+1≤n from hi);have k5:=facM_mono m (show i+1≤n from hi);have k6:=facK_half m hi;have k7:n*(facK m i+KX)≤n*(facM m n / 2+KX):=qB _ zo;refine⟨?_,?_,?_,?_⟩
 ·show 2*(2 ^ i*S+facM m i)+facK m i≤2 ^ (i+1)*S+facM m (i+1);omega
 ·show 2*(2 ^ i*S+facM m i)+facK m i≤20000000000;omega
 ·omega
 ·omega
theorem btranC {w:World} {n KF:Nat} {C:List (List (Int×Rat))} (h:LuAt w fb n m C) (hb:GV w X bn bc P S) (hS2:2≤S) (hbn:bn≤12) (hn:n≤12) (hfit:fitsB n (nrm P)=true)
  (hN1:2 ^ n*S+2*facM m n≤14000000000) (hN2:2 ^ n*S+2*facM m n+n*(facM m n / 2+KF)≤35000000000) (hKF:Hid (∀a,0≤a→a<(n:Int)→sz (btranF (facST C n) (pget P) a)+1≤KF)) (hKZ:KF≤2 ^ n*S+2*facM m n) (hKF1:2≤KF) (hT:Hid (Tab w)) :
  Calls Tryz.prog 9 #[.pointer (some ⟨fb,0,none⟩),.slice X bn bc] w (TellsLX w (BtranP n (facST C n) P) (KF+2)):=by
 obtain⟨h1,h2,h3,h4⟩:=h.inv;have hS:S≤2 ^ n*S:=Nat.le_mul_of_pos_left S (kF (by simp));refine btran_q (KZ:=2 ^ n*S+2*facM m n) h.lu (zh h1) (zh h2) (zh h3) hb zo hS2 hbn hn (zh hfit) (fun i=>2 ^ i*S+2*facM m i) (by show S≤2 ^ 0*S+2*facM m 0;omega) (zh fun i hi=>?_) hKF hKZ hN1 hKF1 hT;have k1:facM m (i+1)=4*facM m i+12:=rfl;have k2:facK m i=2*facM m i+4:=rfl;have k3:2 ^ (i+1)*S=2*(2 ^ i*S):=by rw[dB,tA (2 ^ i) 2,wA]
 have k4:=pow_two_mono S (show i+1≤n from hi);have k5:=facM_mono m (show i+1≤n from hi);have k6:=facK_half m hi;have k7:n*(facK m i+KF)≤n*(facM m n / 2+KF):=qB _ zo;refine⟨?_,?_,?_,?_,?_⟩
 ·show 2*(2 ^ i*S+2*facM m i)+2*facK m i≤2 ^ (i+1)*S+2*facM m (i+1);omega
 ·show 2*(2 ^ i*S+2*facM m i)+2*facK m i≤20000000000;omega
 ·show 2 ^ i*S+2*facM m i+facK m i≤_;omega
 ·omega
 ·omega
theorem btranC_no {w:World} {n:Nat} {C:List (List (Int×Rat))} (h:LuAt w fb n m C) (hb:GV w X bn bc P S) (hS:S≤18000000000) (hS2:2≤S) (hbn:bn≤12) (hn:n≤12) (hfit:fitsB n (nrm P)=false) (hT:Hid (Tab w)) :
  Calls Tryz.prog 9 #[.pointer (some ⟨fb,0,none⟩),.slice X bn bc] w fun e w'=>e=.returned (.tuple #[.slice none 0 0,.int .i64 2])∧Below w.heap.size w w':=btran_no h.lu hb hS hS2 hbn hn hfit hT
theorem LuAt.sz {w:World} {n D:Nat} {C:List (List (Int×Rat))} (h:LuAt w fb n m C) (hD:∀j∈plc n,∀a∈plc n,Go.Proofs.YteggjbgbknkoiaaGreatDoor.sz (mA C j a)≤D) {f:Int→Rat} (hf:∀j∈plc n,Go.Proofs.YteggjbgbknkoiaaGreatDoor.sz (f j)≤S) (a:Int) (ha:0≤a) (ha2:a<(n:Int)):Go.Proofs.YteggjbgbknkoiaaGreatDoor.sz (back (fwd (facST C n) f) (facST C n) a)≤solG D S (n-1):=by
 obtain⟨t,ht⟩:=h.up;rw[facST_eq ht];exact lu_sz h.hl zo ht hD hf a (plc_mem.2 ⟨ha,ha2⟩)
theorem sl_litG {α:Type} {f:α→List Value} {k:Nat} {w:World} {b n:Nat} {cs:Array Value} {te:TypeId} {L:List α} (hk:∀x,(f x).length=k) (h:Bx w b cs te) (hcs:cs.toList=flat f L) (hl:L.length=n):Sl f k w (some ⟨b,0,none⟩) n n L:=by
 subst hl;refine⟨rfl,by rw[flat_len hk],_,_,rfl,(fun h=>(by cases h)),fun a ha j u hu=>?_⟩;cases ha;rw[add_off,xB];refine h.cell j u ?_;rw[←hcs] at hu;simpa using hu
theorem cn_mk {w:World} {n c:Nat} {L:List Tm} (h1:Sl Tm.cs 5 w A n c L) (h2:OnT w L (fun _=>M)) (h3:A=none→c=0):CN w ⟨A,n,c,L⟩ M:=⟨h1,h2,h3⟩
theorem cns_nil (w:World) (M:Nat):∀u∈([]:List Vc),CN w u M:=fun u hu=>by cases hu
theorem cns_cons {w:World} {v:Vc} (h:CN w v M) (hs:∀u∈CL,CN w u M):∀u∈v :: CL,CN w u M:=fun u hu=>by
 rcases sB.1 hu with rfl | hu
 ·exact h
 ·exact hs u hu
theorem cm_lit {w:World} {b n:Nat} {cs:Array Value} {te:TypeId} (CL:List Vc) (h:Bx w b cs te) (hcs:cs.toList=flat Vc.cs CL) (hl:CL.length=n) (hs:∀u∈CL,CN w u M) (C:List (List (Int×Rat))) (hC:CL.map (fun v=>prs v.L)=C):CM w (some ⟨b,0,none⟩) n n C M:=⟨CL,sl_litG Vc.cs_len h hcs hl,hs,hC⟩
theorem cm_nil (w:World) (M:Nat):CM w none 0 0 [] M:=⟨[],Sl.nil _,cns_nil _ _,rfl⟩
theorem gv_nil (w:World) (M:Nat):GV w none 0 0 [] M:=⟨[],Sl.nil _,(fun t ht=>by cases ht),rfl,fun _=>nA _,fun _=>rfl⟩
theorem wtot_on {w:World} {L:List Tm} {n:Nat} (h:OnT w L (fun _=>M)) (hn:L.length*M=n):wtot (prs L)≤n:=by
 have h1:=wtot_le (m:=M) (L:=prs L) fun x hx=>by
  obtain⟨t,ht,rfl⟩:=prs_mem hx;exact(h t ht).2.2
 rwa [prs_len,hn] at h1
theorem CM.dg {w:World} {n c k:Nat} {C:List (List (Int×Rat))} (h:CM w A n c C M) (hk:(∀x∈C,x.length≤k)∧k*M=m):∀x∈C,x.length≤k∧wtot x≤m:=fun x hx=>by
 obtain⟨CL,h1,h2,rfl⟩:=h;refine⟨hk.1 x hx,?_⟩;obtain⟨v,hv,rfl⟩:=tC.1 hx;refine kA (wtot_on (h2 v hv).2.1 rfl) ?_;have h3:=hk.1 _ hx;rw[prs_len] at h3;rw[←hk.2];exact rB _ h3
theorem rng_all {n:Nat} {F:Int→Rat} (h:((List.range n).all fun i=>decide (sz (F (i:Int))+1≤KX))=true):∀a,0≤a→a<(n:Int)→sz (F a)+1≤KX:=fun a h0 h1=>by
 have h2:=wD.1 h a.toNat (xF.2 zo);rw[xD,sF h0] at h2;exact h2
theorem factorBad {w:World} {n c:Nat} {C:List (List (Int×Rat))} (h:CM w A n c C M) (hC:∀x∈C,x.length≤12) (hn:n≤12) (hM:facM M n≤3600000012) (hr:rightC (n:Int) C=false) (z:Int) (hz:(n:Int)=z) (hT:Hid (Tab w)) :
  Calls Tryz.prog 6 #[.slice A n c,.int .i64 z] w fun e w'=>e=.returned (.tuple #[.pointer none,.int .i64 2])∧Below w.heap.size w w':=by
 subst hz;refine(factorC h hC hn hM hT).mono fun e w' ⟨h1,h2⟩=>?_;rcases h2 with h2 | ⟨h2,_⟩
 ·exact⟨h2.2,h1⟩
 ·rw[hr] at h2;cases h2
theorem factorSing {w:World} {n c:Nat} {C:List (List (Int×Rat))} (h:CM w A n c C M) (hC:∀x∈C,x.length≤12) (hn:n≤12) (hM:facM M n≤3600000012) (hr:rightC (n:Int) C=true) (hs:(facUp (facT C n) n).isNone=true) (z:Int) (hz:(n:Int)=z) (hT:Hid (Tab w)) :
  Calls Tryz.prog 6 #[.slice A n c,.int .i64 z] w fun e w'=>e=.returned (.tuple #[.pointer none,.int .i64 12])∧Below w.heap.size w w':=by
 subst hz;refine(factorC h hC hn hM hT).mono fun e w' ⟨h1,h2⟩=>?_;rcases h2 with h2 | ⟨_,h3 | ⟨fb,_,_,h4⟩⟩
 ·rw[hr] at h2;cases h2.1
 ·exact⟨h3.2,h1⟩
 ·obtain⟨t,ht⟩:=h4.up;rw[ht] at hs;cases hs
theorem factorOk {w:World} {n c:Nat} {C:List (List (Int×Rat))} (h:CM w A n c C M) (hC:∀x∈C,x.length≤12) (hn:n≤12) (hM:facM M n≤3600000012) (hr:rightC (n:Int) C=true) (hs:(facUp (facT C n) n).isSome=true) (z:Int) (hz:(n:Int)=z) (hT:Hid (Tab w)) :
  Calls Tryz.prog 6 #[.slice A n c,.int .i64 z] w fun e w'=>∃fb,e=.returned (.tuple #[.pointer (some ⟨fb,0,none⟩),.int .i64 0])∧LuAt w' fb n M C∧Below w.heap.size w w':=by
 subst hz;refine(factorC h hC hn hM hT).mono fun e w' ⟨h1,h2⟩=>?_;rcases h2 with h2 | ⟨_,h3 | ⟨fb,h3,_,h4⟩⟩
 ·rw[hr] at h2;cases h2.1
 ·rw[h3.1] at hs;cases hs
 ·exact⟨fb,h3,h4,h1⟩
theorem ftranCX {w:World} {n:Nat} {C:List (List (Int×Rat))} (h:LuAt w fb n m C) (hb:GV w X bn bc P S) (hS2:2≤S) (hbn:bn≤12) (hn:n≤12) (hfit:fitsB n (nrm P)=true)
  (hN1:2 ^ n*S+2*facM m n≤14000000000) (hN2:2 ^ n*S+2*facM m n+n*(facM m n / 2+KX)≤35000000000) (hN3:facM m n≤3600000012) (hKX:Hid (∀a,0≤a→a<(n:Int)→sz (back (fwd (facST C n) (pget P)) (facST C n) a)+1≤KX)) (_:KX≤2 ^ n*S+2*facM m n) (hKX1:2≤KX) (hT:Hid (Tab w)) :
  Calls Tryz.prog 8 #[.pointer (some ⟨fb,0,none⟩),.slice X bn bc] w (TellsLX w (FtranP n (facST C n) P) (KX+2)):=ftranC h hb hS2 hbn hn hfit zo zo zo hKX zo hKX1 hT
theorem btranCX {w:World} {n:Nat} {C:List (List (Int×Rat))} (h:LuAt w fb n m C) (hb:GV w X bn bc P S) (hS2:2≤S) (hbn:bn≤12) (hn:n≤12) (hfit:fitsB n (nrm P)=true)
  (hN1:2 ^ n*S+2*facM m n≤14000000000) (hN2:2 ^ n*S+2*facM m n+n*(facM m n / 2+KX)≤35000000000) (_:facM m n≤3600000012) (hKX:Hid (∀a,0≤a→a<(n:Int)→sz (btranF (facST C n) (pget P) a)+1≤KX)) (hKZ:KX≤2 ^ n*S+2*facM m n) (hKX1:2≤KX) (hT:Hid (Tab w)) :
  Calls Tryz.prog 9 #[.pointer (some ⟨fb,0,none⟩),.slice X bn bc] w (TellsLX w (BtranP n (facST C n) P) (KX+2)):=btranC h hb hS2 hbn hn hfit hN1 hN2 hKX hKZ hKX1 hT
theorem sizeC {w:World} {n:Nat} {K:Nat→Nat} {ST:List StepF} (h:LuM w fb n ST K) (z:Int) (hz:(n:Int)=z):Calls Tryz.prog 10 #[.pointer (some ⟨fb,0,none⟩)] w fun e w'=>e=.returned (.int .i64 z)∧Below w.heap.size w w':=by
 subst hz;exact size_q h
theorem term7_q {w:World} (at_ n:Int) (hn:Hid (-9223372036854775808≤n∧n≤9223372036854775807)) (hT:Hid (Tab w)):Calls Tryz.prog 7 #[.int .i64 at_,.int .i64 n] w (TellsT w at_ (qof n 1)):=by
 obtain⟨W,hW,x0,hB⟩:=zAe w #[.int .i64 0,.bool false,.slice none 0 0,.bool false,.slice none 0 0] 32;have HX0:=zh x0;clear x0;have Bz:=zr W;go_enter Tryz.func7,Tryz.ntmps7
 go_wp2_with fail
 rw[←hW];clear hW;go_wp2_with fail
 with_reducible refine(of_q n 1 hn (zh zo) (zt hT hB Bz)).mono ?_
 rintro e w1 ⟨s1,A1,c1,l1,s1r,A1r,c1r,l1r,rfl,h1,q⟩;replace q:=zq (a:=W) q;replace Bz:=bT Bz q;clear q;obtain⟨pa0,pa1,pa2,pa3,pa4,-⟩:=(zxb HX0 Bz).cz;obtain⟨y0,fa0,fa1,fa2,fa3,fa4,-⟩:=(zxb HX0 Bz).fz;go_wp2_with fail
 (try simp only[Exit.inBlock,Exit.then])
 refine bodyPost_ret (by simp[results,Tryz.results7,go_sem,pa0,pa1,pa2,pa3,pa4];try rfl) rfl ?_;obtain⟨V1,hW,x,kk,far,bel⟩:=store5 (.int .i64 at_) (.bool s1) (.slice A1 l1 c1) (.bool s1r) (.slice A1r l1r c1r) (zxb HX0 Bz) nofun nofun nofun nofun nofun;rw[←hW];clear hW;replace h1:=h1.k kk;replace hB:=bel w.heap.size w zo (bT hB Bz);replace HX0:=zh x;clear x kk far bel Bz;have Bz:=zr V1;have hF:=bT (c:=V1) hB Bz;exact⟨_,_,_,_,_,_,_,_,rfl,RN.below h1,bT hF⟩
theorem awake7_q {w:World} (hT:Hid (Tab w)):Calls Tryz.prog 16 #[] w fun e w'=>e=.returned (.bool true)∧Below w.heap.size w w':=by
 have hB:=Below.refl w.heap.size w;have Bz:=zr w;go_enter Tryz.func16,Tryz.ntmps16
 go_wp2_with fail
 with_reducible refine(term7_q (0) (2) (zh zo) (zt hT hB Bz)).mono ?_
 rintro e w1 ⟨s1,A1,c1,l1,s1r,A1r,c1r,l1r,rfl,h1,q⟩;replace q:=zq (a:=w) q;replace Bz:=bT Bz q;clear q;go_wp2_with fail
 obtain⟨V1,hW,x0,hN⟩:=zAe w1 #[.int .i64 0,.bool s1,.slice A1 l1 c1,.bool s1r,.slice A1r l1r c1r] 32;rw[←hW];clear hW;obtain⟨v0,hb0⟩:=ze w1.heap.size;rw[←hb0] at x0 ⊢;have ow_0:w.heap.size≤v0:=zi (zw hB Bz);replace h1:=h1.below hN;replace hB:=bT (bT hB Bz) hN;have HX0:=zh x0;clear x0 hN Bz hb0;have Bz:=zr V1;with_reducible refine(term7_q (0) (1) (zh zo) (zt hT hB Bz)).mono ?_
 rintro e w2 ⟨s2,A2,c2,l2,s2r,A2r,c2r,l2r,rfl,h2,q⟩;replace q:=zq (a:=V1) q;replace h1:=h1.below q;replace Bz:=bT Bz q;clear q;go_wp2_with fail
 with_reducible refine(term7_q (1) (1) (zh zo) (zt hT hB Bz)).mono ?_
 rintro e w3 ⟨s3,A3,c3,l3,s3r,A3r,c3r,l3r,rfl,h3,q⟩;replace q:=zq (a:=w2) q;replace h1:=h1.below q;replace h2:=h2.below q;replace Bz:=bT Bz q;clear q;go_wp2_with fail
 obtain⟨V2,hW,x1,hN⟩:=zAe w3 #[.int .i64 0,.bool s2,.slice A2 l2 c2,.bool s2r,.slice A2r l2r c2r,.int .i64 1,.bool s3,.slice A3 l3 c3,.bool s3r,.slice A3r l3r c3r] 32;have hs1:V2.heap.size=w3.heap.size+1:=by rw[hW];simp
 rw[←hW];clear hW;obtain⟨v1,hb1⟩:=ze w3.heap.size;rw[←hb1] at x1 hs1 ⊢;have ow_1:w.heap.size≤v1:=zi (zw hB Bz);replace h1:=h1.below hN;replace h2:=h2.below hN;replace h3:=h3.below hN;replace hB:=bT (bT hB Bz) hN;replace HX0:=zba HX0 Bz hN;have HX1:=zh x1;clear x1 hN Bz hb1;have Bz:=zr V2;obtain⟨V3,hW,x2,hN⟩:=zAe V2 #[.slice (some ⟨v0,0,none⟩) 1 1,.slice (some ⟨v1,0,none⟩) 2 2] 35;have hs2:V3.heap.size=V2.heap.size+1:=by rw[hW];simp
 rw[←hW];clear hW;rw[hs1] at x2 hs2;obtain⟨v2,hb2⟩:=ze (v1+1);rw[←hb2] at x2 hs2  ⊢;have ow_2:w.heap.size≤v2:=zi (zw hB Bz);replace h1:=h1.below hN;replace h2:=h2.below hN;replace h3:=h3.below hN;replace hB:=bT (bT hB Bz) hN;replace HX0:=zba HX0 Bz hN;replace HX1:=zba HX1 Bz hN;have HX2:=zh x2;clear x2 hN Bz hb2;have Bz:=zr V3;clear hs1;with_reducible refine(factorOk (C:=[[(0,qof (2) 1)],[(0,qof (1) 1),(1,qof (1) 1)]]) (cm_lit (n:=2) (M:=2) [⟨some ⟨v0,0,none⟩,1,1,[⟨0,⟨s1,A1,c1,l1,s1r,A1r,c1r,l1r,qof (2) 1,true⟩⟩]⟩,⟨some ⟨v1,0,none⟩,2,2,[⟨0,⟨s2,A2,c2,l2,s2r,A2r,c2r,l2r,qof (1) 1,true⟩⟩,⟨1,⟨s3,A3,c3,l3,s3r,A3r,c3r,l3r,qof (1) 1,true⟩⟩]⟩] (HX2.out.below (bT Bz)) rfl rfl (cns_cons (v:=⟨some ⟨v0,0,none⟩,1,1,[⟨0,⟨s1,A1,c1,l1,s1r,A1r,c1r,l1r,qof (2) 1,true⟩⟩]⟩) (cn_mk (sl_lit (HX0.out.below (bT Bz)) rfl rfl) (OnT.c 0 (RN.below h1) (sz_one zd zd zd) (OnT.nil _ _)) (fun h=>(by cases h))) (cns_cons (v:=⟨some ⟨v1,0,none⟩,2,2,[⟨0,⟨s2,A2,c2,l2,s2r,A2r,c2r,l2r,qof (1) 1,true⟩⟩,⟨1,⟨s3,A3,c3,l3,s3r,A3r,c3r,l3r,qof (1) 1,true⟩⟩]⟩) (cn_mk (sl_lit (HX1.out.below (bT Bz)) rfl rfl) (OnT.c 0 (RN.below h2) (sz_one zd zd zd) (OnT.c 1 (RN.below h3) (sz_one zd zd zd) (OnT.nil _ _))) (fun h=>(by cases h))) (cns_nil _ _))) [[(0,qof (2) 1)],[(0,qof (1) 1),(1,qof (1) 1)]] rfl) (by decide +kernel) zd (by decide +kernel) (by decide +kernel) (by decide +kernel) 2 rfl (zt hT hB Bz)).mono ?_
 rintro e w4 ⟨fb4,rfl,h4,q⟩;replace q:=zq (a:=V3) q;replace Bz:=bT Bz q;clear q;go_wp2_with fail
 with_reducible refine(term7_q (0) (3) (zh zo) (zt hT hB Bz)).mono ?_
 rintro e w5 ⟨s5,A5,c5,l5,s5r,A5r,c5r,l5r,rfl,h5,q⟩;replace q:=zq (a:=w4) q;replace h4:=h4.below q;replace Bz:=bT Bz q;clear q;go_wp2_with fail
 with_reducible refine(term7_q (1) (1) (zh zo) (zt hT hB Bz)).mono ?_
 rintro e w6 ⟨s6,A6,c6,l6,s6r,A6r,c6r,l6r,rfl,h6,q⟩;replace q:=zq (a:=w5) q;replace h5:=h5.below q;replace h4:=h4.below q;replace Bz:=bT Bz q;clear q;go_wp2_with fail
 obtain⟨V4,hW,x3,hN⟩:=zAe w6 #[.int .i64 0,.bool s5,.slice A5 l5 c5,.bool s5r,.slice A5r l5r c5r,.int .i64 1,.bool s6,.slice A6 l6 c6,.bool s6r,.slice A6r l6r c6r] 32;rw[←hW];clear hW;obtain⟨v3,hb3⟩:=ze w6.heap.size;rw[←hb3] at x3 ⊢;have ow_3:w.heap.size≤v3:=zi (zw hB Bz);replace h5:=h5.below hN;replace h6:=h6.below hN;replace h4:=h4.below hN;replace hB:=bT (bT hB Bz) hN;replace HX0:=zba HX0 Bz hN;replace HX1:=zba HX1 Bz hN;replace HX2:=zba HX2 Bz hN;have HX3:=zh x3;clear x3 hN Bz hb3;have Bz:=zr V4;with_reducible refine(ftranCX (KX:=40) h4 ((gv_lit (n:=2) [⟨0,⟨s5,A5,c5,l5,s5r,A5r,c5r,l5r,qof (3) 1,true⟩⟩,⟨1,⟨s6,A6,c6,l6,s6r,A6r,c6r,l6r,qof (1) 1,true⟩⟩] [(0,qof (3) 1),(1,qof (1) 1)] rfl (HX3.out.below (bT Bz)) rfl rfl (OnT.c 0 (RN.below h5) (sz_one zd zd zd) (OnT.c 1 (RN.below h6) (sz_one zd zd zd) (OnT.nil _ _)))).mono (by decide:6≤6)) zd zd zd (by decide +kernel) (by decide +kernel) (by decide +kernel) (by decide +kernel) (zh (rng_all (by decide +kernel))) (by decide +kernel) zd (zt hT hB Bz)).mono ?_
 rintro e w7 ⟨A7,n7,c7,rfl,h7,q⟩;replace q:=zq (a:=V4) q;replace h4:=h4.below q;replace Bz:=bT Bz q;clear q;have l7:n7≤2:=by rw[←h7.len];decide +kernel
 go_wp2_with fail
 with_reducible refine(term7_q (0) (2) (zh zo) (zt hT hB Bz)).mono ?_
 rintro e w8 ⟨s8,A8,c8,l8,s8r,A8r,c8r,l8r,rfl,h8,q⟩;replace q:=zq (a:=w7) q;replace h4:=h4.below q;replace h7:=h7.below q;replace Bz:=bT Bz q;clear q;go_wp2_with fail
 with_reducible refine(term7_q (1) (2) (zh zo) (zt hT hB Bz)).mono ?_
 rintro e w9 ⟨s9,A9,c9,l9,s9r,A9r,c9r,l9r,rfl,h9,q⟩;replace q:=zq (a:=w8) q;replace h8:=h8.below q;replace h4:=h4.below q;replace h7:=h7.below q;replace Bz:=bT Bz q;clear q;go_wp2_with fail
 obtain⟨V5,hW,x4,hN⟩:=zAe w9 #[.int .i64 0,.bool s8,.slice A8 l8 c8,.bool s8r,.slice A8r l8r c8r,.int .i64 1,.bool s9,.slice A9 l9 c9,.bool s9r,.slice A9r l9r c9r] 32;rw[←hW];clear hW;obtain⟨v4,hb4⟩:=ze w9.heap.size;rw[←hb4] at x4 ⊢;have ow_4:w.heap.size≤v4:=zi (zw hB Bz);replace h8:=h8.below hN;replace h9:=h9.below hN;replace h4:=h4.below hN;replace h7:=h7.below hN;replace hB:=bT (bT hB Bz) hN;replace HX0:=zba HX0 Bz hN;replace HX1:=zba HX1 Bz hN;replace HX2:=zba HX2 Bz hN;replace HX3:=zba HX3 Bz hN;have HX4:=zh x4;clear x4 hN Bz hb4;have Bz:=zr V5;with_reducible refine(btranCX (KX:=40) h4 ((gv_lit (n:=2) [⟨0,⟨s8,A8,c8,l8,s8r,A8r,c8r,l8r,qof (2) 1,true⟩⟩,⟨1,⟨s9,A9,c9,l9,s9r,A9r,c9r,l9r,qof (2) 1,true⟩⟩] [(0,qof (2) 1),(1,qof (2) 1)] rfl (HX4.out.below (bT Bz)) rfl rfl (OnT.c 0 (RN.below h8) (sz_one zd zd zd) (OnT.c 1 (RN.below h9) (sz_one zd zd zd) (OnT.nil _ _)))).mono (by decide:6≤6)) zd zd zd (by decide +kernel) (by decide +kernel) (by decide +kernel) (by decide +kernel) (zh (rng_all (by decide +kernel))) (by decide +kernel) zd (zt hT hB Bz)).mono ?_
 rintro e w10 ⟨A10,n10,c10,rfl,h10,q⟩;replace q:=zq (a:=V5) q;replace h4:=h4.below q;replace h7:=h7.below q;replace Bz:=bT Bz q;clear q;have l10:n10≤2:=by rw[←h10.len];decide +kernel
 go_wp2_with fail
 with_reducible refine(order_q (LuAt.below h4).lu zd).mono ?_
 rintro e w11 ⟨ra11,ca11,rfl,h11,h11r,q⟩;replace q:=zq (a:=w10) q;replace h4:=h4.below q;replace h10:=h10.below q;replace h7:=h7.below q;replace Bz:=bT Bz q;clear q;go_wp2_with fail
 with_reducible refine(term7_q (0) (1) (zh zo) (zt hT hB Bz)).mono ?_
 rintro e w12 ⟨s12,A12,c12,l12,s12r,A12r,c12r,l12r,rfl,h12,q⟩;replace q:=zq (a:=w11) q;replace h11r:=h11r.below q;replace h11:=h11.below q;replace h4:=h4.below q;replace h10:=h10.below q;replace h7:=h7.below q;replace Bz:=bT Bz q;clear q;go_wp2_with fail
 with_reducible refine(term7_q (1) (1) (zh zo) (zt hT hB Bz)).mono ?_
 rintro e w13 ⟨s13,A13,c13,l13,s13r,A13r,c13r,l13r,rfl,h13,q⟩;replace q:=zq (a:=w12) q;replace h12:=h12.below q;replace h11r:=h11r.below q;replace h11:=h11.below q;replace h4:=h4.below q;replace h10:=h10.below q;replace h7:=h7.below q;replace Bz:=bT Bz q;clear q;go_upto_region 8 with(fail)
 obtain⟨V6,hW,x5,hN⟩:=zAe w13 #[.int .i64 0,.bool s12,.slice A12 l12 c12,.bool s12r,.slice A12r l12r c12r,.int .i64 1,.bool s13,.slice A13 l13 c13,.bool s13r,.slice A13r l13r c13r] 32;rw[←hW];clear hW;obtain⟨v5,hb5⟩:=ze w13.heap.size;rw[←hb5] at x5 ⊢;have ow_5:w.heap.size≤v5:=zi (zw hB Bz);replace h12:=h12.below hN;replace h13:=h13.below hN;replace h11r:=h11r.below hN;replace h11:=h11.below hN;replace h4:=h4.below hN;replace h10:=h10.below hN;replace h7:=h7.below hN;replace hB:=bT (bT hB Bz) hN;replace HX0:=zba HX0 Bz hN;replace HX1:=zba HX1 Bz hN;replace HX2:=zba HX2 Bz hN;replace HX3:=zba HX3 Bz hN;replace HX4:=zba HX4 Bz hN;have HX5:=zh x5;clear x5 hN Bz hb5;have Bz:=zr V6;go_wp2_with fail
 with_reducible refine(sameVec_q (P:=(FtranP 2 (facST [[(0,qof (2) 1)],[(0,qof (1) 1),(1,qof (1) 1)]] 2) [(0,qof (3) 1),(1,qof (1) 1)])) (Q:=[(0,qof (1) 1),(1,qof (1) 1)]) (NV.below h7) (nv_lit (n:=2) [⟨0,⟨s12,A12,c12,l12,s12r,A12r,c12r,l12r,qof (1) 1,true⟩⟩,⟨1,⟨s13,A13,c13,l13,s13r,A13r,c13r,l13r,qof (1) 1,true⟩⟩] [(0,qof (1) 1),(1,qof (1) 1)] rfl (HX5.out.below (bT Bz)) rfl rfl (OnT.c 0 (RN.below h12) (sz_one zd zd zd) (OnT.c 1 (RN.below h13) (sz_one zd zd zd) (OnT.nil _ _)))) zd zd zo zo true (zh (by decide +kernel))).mono ?_
 rintro e w14 ⟨rfl,q⟩;replace q:=zq (a:=V6) q;replace h12:=h12.below q;replace h13:=h13.below q;replace h11r:=h11r.below q;replace h11:=h11.below q;replace h4:=h4.below q;replace h10:=h10.below q;replace Bz:=bT Bz q;clear q;go_wp2_with fail
 with_reducible refine(sameVec_q (P:=(BtranP 2 (facST [[(0,qof (2) 1)],[(0,qof (1) 1),(1,qof (1) 1)]] 2) [(0,qof (2) 1),(1,qof (2) 1)])) (Q:=[(0,qof (1) 1),(1,qof (1) 1)]) (NV.below h10) (nv_lit (n:=2) [⟨0,⟨s12,A12,c12,l12,s12r,A12r,c12r,l12r,qof (1) 1,true⟩⟩,⟨1,⟨s13,A13,c13,l13,s13r,A13r,c13r,l13r,qof (1) 1,true⟩⟩] [(0,qof (1) 1),(1,qof (1) 1)] rfl (HX5.out.below (bT Bz)) rfl rfl (OnT.c 0 (RN.below h12) (sz_one zd zd zd) (OnT.c 1 (RN.below h13) (sz_one zd zd zd) (OnT.nil _ _)))) zd zd zo zo true (zh (by decide +kernel))).mono ?_
 rintro e w15 ⟨rfl,q⟩;replace q:=zq (a:=w14) q;replace h11r:=h11r.below q;replace h11:=h11.below q;replace h4:=h4.below q;replace Bz:=bT Bz q;clear q;go_wp2_with fail
 obtain⟨V7,hW,x6,hN⟩:=zAe w15 #[.int .i64 0,.int .i64 1] 3;rw[←hW];clear hW;obtain⟨v6,hb6⟩:=ze w15.heap.size;rw[←hb6] at x6 ⊢;have ow_6:w.heap.size≤v6:=zi (zw hB Bz);replace h11r:=h11r.below hN;replace h11:=h11.below hN;replace h4:=h4.below hN;replace hB:=bT (bT hB Bz) hN;replace HX0:=zba HX0 Bz hN;replace HX1:=zba HX1 Bz hN;replace HX2:=zba HX2 Bz hN;replace HX3:=zba HX3 Bz hN;replace HX4:=zba HX4 Bz hN;replace HX5:=zba HX5 Bz hN;have HX6:=zh x6;clear x6 hN Bz hb6;have Bz:=zr V7;with_reducible refine(sameInts_q (L:=((facST [[(0,qof (2) 1)],[(0,qof (1) 1),(1,qof (1) 1)]] 2).map fun s=>s.row)) (M:=([0,1]:List Int)) (Sl.below h11) (sl_litG (L:=[0,1]) (n:=2) ics_len (HX6.out.below (bT Bz)) rfl rfl) zd zd true (zh (by decide +kernel))).mono ?_
 rintro e w16 ⟨rfl,q⟩;replace q:=zq (a:=V7) q;replace h11r:=h11r.below q;replace h4:=h4.below q;replace Bz:=bT Bz q;clear q;go_wp2_with fail
 obtain⟨V8,hW,x7,hN⟩:=zAe w16 #[.int .i64 0,.int .i64 1] 3;rw[←hW];clear hW;obtain⟨v7,hb7⟩:=ze w16.heap.size;rw[←hb7] at x7 ⊢;have ow_7:w.heap.size≤v7:=zi (zw hB Bz);replace h11r:=h11r.below hN;replace h4:=h4.below hN;replace hB:=bT (bT hB Bz) hN;replace HX0:=zba HX0 Bz hN;replace HX1:=zba HX1 Bz hN;replace HX2:=zba HX2 Bz hN;replace HX3:=zba HX3 Bz hN;replace HX4:=zba HX4 Bz hN;replace HX5:=zba HX5 Bz hN;replace HX6:=zba HX6 Bz hN;have HX7:=zh x7;clear x7 hN Bz hb7;have Bz:=zr V8;with_reducible refine(sameInts_q (L:=((facST [[(0,qof (2) 1)],[(0,qof (1) 1),(1,qof (1) 1)]] 2).map fun s=>s.col)) (M:=([0,1]:List Int)) (Sl.below h11r) (sl_litG (L:=[0,1]) (n:=2) ics_len (HX7.out.below (bT Bz)) rfl rfl) zd zd true (zh (by decide +kernel))).mono ?_
 rintro e w17 ⟨rfl,q⟩;replace q:=zq (a:=V8) q;replace h4:=h4.below q;replace Bz:=bT Bz q;clear q;go_wp2_with fail
 with_reducible refine(sizeC (LuAt.below h4).lu 2 rfl).mono ?_
 rintro e w18 ⟨rfl,q⟩;replace q:=zq (a:=w17) q;replace Bz:=bT Bz q;clear q;go_wp2_with fail
 go_ret
 have hF:=bT (c:=w18) hB Bz;exact⟨rfl,bT hF⟩
end Go.Proofs.YteggjbgbknkoiaaGreatDoor
