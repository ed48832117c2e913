import Derived.Test.YtfpbmpllildbaaaGreatDoorYSo7
set_option maxHeartbeats 4000000
set_option maxRecDepth 100000
namespace Go.Proofs.YtfpbmpllildbaaaGreatDoor
open Go.RowKit Tw
variable {P:List (Int×Rat)} {K M b:Nat} {A:Option Addr} {L:List Tm} {te:TypeId}
def TellsW (w:World) (P:List (Int×Rat)) (K N:Nat) (e:Ending) (w':World):Prop:=∃A n c,e=.returned (.slice A n c)∧NV w' A n c P K∧n≤N∧Below w.heap.size w w'
def TellsNum (w:World) (q:Rat) (K:Nat) (e:Ending) (w':World):Prop:=∃s A c l s' A' c' l',e=.returned (.agg #[.bool s,.slice A l c,.bool s',.slice A' l' c'])∧RN w' s A c l s' A' c' l' q∧sz q≤K∧Below w.heap.size w w'
theorem TellsV.w {w w':World} {N:Nat} {e:Ending} (h:TellsV w P M e w') (hK:M≤K) (hN:P.length≤N):TellsW w P K N e w':=by
 obtain⟨A,n,c,rfl,h1,h2⟩:=h;exact⟨A,n,c,rfl,h1.mono hK,by have:=h1.len;omega,h2⟩
theorem TellsR.num {w w':World} {q:Rat} {e:Ending} (h:TellsR w q e w') (hK:sz q≤K):TellsNum w q K e w':=by
 obtain⟨s,A,c,l,s',A',c',l',rfl,h1,h2⟩:=h;exact⟨s,A,c,l,s',A',c',l',rfl,h1,hK,h2⟩
theorem GV.size {w:World} {n c N:Nat} (h:GV w A n c P M) (hn:n≤N):P.length≤N:=by rw[h.len];exact hn
theorem GV.getsz {w:World} {n c:Nat} (h:GV w A n c P M) (a:Int):sz (pget P a)≤M+1:=by
 obtain⟨L,_,h2,rfl,h4,_⟩:=h;have:=get_sz h2 a;have:=h4 a;omega
theorem normW {w:World} {X:Option Addr} {n cx:Nat} (M N:Nat) (h:GV w X n cx P M) (hn:n≤N) (hM:M≤19000000000) (hN:N≤1000) (hT:Hid (Tab w)):Calls Tryz.prog 42 #[.slice X n cx] w (TellsW w (nrm P) M N) :=
 (normV_q h hM zo hT).mono fun _ _ k=>k.w (cA _) (nA (nrm_len _) (h.size hn))
def TellsT (w:World) (at_:Int) (q:Rat) (e:Ending) (w':World):Prop:=∃s A c l s' A' c' l',e=.returned (.agg #[.int .i64 at_,.bool s,.slice A l c,.bool s',.slice A' l' c'])∧RN w' s A c l s' A' c' l' q∧Below w.heap.size w w'
theorem OnT.c {w:World} {s s':Bool} {A':Option Addr} {c l c' l':Nat} {q:Rat} (at_:Int) (h:RN w s A c l s' A' c' l' q) (hs:sz q≤1) (hL:OnT w L (fun _=>2)):OnT w (⟨at_,⟨s,A,c,l,s',A',c',l',q,true⟩⟩ :: L) (fun _=>2):=fun t ht=>by
 rcases xB.1 ht with rfl | ht
 ·exact⟨h,rfl,by simp only;omega⟩
 ·exact hL t ht
theorem wsum_small {w:World} (h:OnT w L (fun _=>2)) (a:Int):wsum L a≤3*L.length:=by
 induction L with
 | nil=>exact cA _
 | cons x L ih =>
  have h1:=ih fun t ht=>h t (uA _ ht);have h2:=h.dg x tA;have h3:=(h x tA).2.2;simp only[wsum,wC] at h3 ⊢
  split<;>omega
theorem sl_lit {w:World} {n:Nat} {cs:Array Value} (h:Bx w b cs te) (hcs:cs.toList=flat Tm.cs L) (hl:L.length=n):Sl Tm.cs 5 w (some ⟨b,0,none⟩) n n L:=by
 subst hl;refine⟨rfl,by rw[flat_len Tm.cs_len],_,_,rfl,(fun h=>(by cases h)),fun a ha j u hu=>?_⟩;cases ha;rw[add_off,rC];refine h.cell j u ?_;rw[←hcs] at hu;simpa using hu
theorem nv_lit {w:World} {n:Nat} {cs:Array Value} (L:List Tm) (P:List (Int×Rat)) (hp:prs L=P) (h:Bx w b cs te) (hcs:cs.toList=flat Tm.cs L) (hl:L.length=n) (hon:OnT w L (fun _=>2)):NV w (some ⟨b,0,none⟩) n n P 2:=⟨L,sl_lit h hcs hl,hon,hp,(fun h=>(by cases h))⟩
theorem gv_lit {w:World} {n:Nat} {cs:Array Value} (L:List Tm) (P:List (Int×Rat)) (hp:prs L=P) (h:Bx w b cs te) (hcs:cs.toList=flat Tm.cs L) (hl:L.length=n) (hon:OnT w L (fun _=>2)):GV w (some ⟨b,0,none⟩) n n P (3*n):=⟨L,sl_lit h hcs hl,hon.ok,hp,fun a=>by rw[←hl];exact wsum_small hon a,(fun h=>(by cases h))⟩
def TM1 (w W:World) (C:List (List (Int×Rat))) (X:List (Int×Rat)) (MM n gk:Nat) (s5 s13:Value) (wr:World):Prop :=
 ∃(i k:Nat) (H:Option Addr) (hc:Nat) (O:List Tm),s5=.slice H k hc∧s13=.int .i64 (i:Int)∧i≤n∧n-i=gk∧
  OwnR wr W.heap.size 32 5 (.slice H k hc) k (flat Tm.cs O)∧prs O=timesP C (X.take i)∧OnT wr O (fun _=>MM)∧Below w.heap.size w wr∧Below W.heap.size W wr
def TM2 (w W:World) (cs:Array Value) (v0:Nat) (Z:List (Int×Rat)) (T:List Tm) (q:Rat) (MM n gk:Nat) (s5 s33:Value) (wr:World):Prop :=
 ∃(j k:Nat) (H:Option Addr) (hc:Nat) (O:List Tm),s5=.slice H k hc∧s33=.int .i64 (j:Int)∧j≤n∧n-j≤gk∧
  OwnR wr W.heap.size 32 5 (.slice H k hc) k (flat Tm.cs O)∧prs O=Z++(prs (T.take j)).map (fun c=>(c.1,c.2*q))∧OnT wr O (fun _=>MM)∧Bx wr v0 cs 32∧Below w.heap.size w wr∧Below W.heap.size W wr∧some v0≠(Value.slice H k hc).ownBlock
def wpl:List (Int×Rat)→Int→Nat
 | [],_=>0
 | x :: L,a=>(if x.1=a then sz x.2+2 else 0)+wpl L a
theorem wpl_append (L M:List (Int×Rat)) (a:Int):wpl (L++M) a=wpl L a+wpl M a:=by
 induction L with
 | nil=>show wpl M a=0+wpl M a;omega
 | cons x L ih =>
  show(if x.1=a then sz x.2+2 else 0)+wpl (L++M) a=(if x.1=a then sz x.2+2 else 0)+wpl L a+wpl M a
  omega
theorem wsum_pl {w:World} {b:Int→Nat} (a:Int):∀{L:List Tm},OnT w L b→wsum L a≤wpl (prs L) a
 | [],_=>zA _
 | t :: L,h=>by
  have h1:=wsum_pl a (L:=L) fun y hy=>h y (uA _ hy);have h2:=h.dg t (tA ..);show(if t.at_=a then dgT t+2 else 0)+wsum L a≤(if t.at_=a then sz t.x.q+2 else 0)+wpl (prs L) a
  split<;>omega
theorem wpl_none {a:Int} (h:∀x∈P,x.1≠a):wpl P a=0:=by
 induction P with
 | nil=>rfl
 | cons x P ih =>
  show(if x.1=a then sz x.2+2 else 0)+wpl P a=0
  rw[yA (h x tA),ih fun y hy=>h y (uA _ hy)]
theorem wpl_one {c:List (Int×Rat)} {mc:Nat} (hr:Rise c) (h:∀x∈c,sz x.2+1≤mc) (q:Rat) (a:Int):wpl (c.map fun x=>(x.1,x.2*q)) a≤mc+sz q+1:=by
 induction c with
 | nil=>exact zA _
 | cons x c ih =>
  have⟨h1,h2⟩:=List.pairwise_cons.1 hr;show(if x.1=a then sz (x.2*q)+2 else 0)+wpl (c.map fun x=>(x.1,x.2*q)) a≤_
  by_cases e:x.1=a
  ·rw[bB e,wpl_none fun y hy=>by
    obtain⟨z,hz,rfl⟩:=yB.1 hy;have:=h1 z hz;show z.1≠a
    omega]
   have h3:=h x tA;have h4:=sz_mul (cA (sz x.2)) (cA (sz q));omega
  ·rw[yA e];have:=ih h2 fun y hy=>h y (uA _ hy);omega
theorem wpl_times {C:List (List (Int×Rat))} {mc:Nat} (hC:∀c∈C,Rise c∧∀x∈c,sz x.2+1≤mc) (a:Int):∀X:List (Int×Rat),(∀x∈X,sz x.2≤K)→wpl (timesP C X) a≤X.length*(mc+K+1)
 | [],_=>by rw[List.length_nil,gG];exact cA _
 | t :: X,h=>by
  have ih:=wpl_times hC a X fun x hx=>h x (uA _ hx);have hk:wpl (if 0≤t.1∧t.1<(C.length:Int) then(C.getD t.1.toNat []).map fun c=>(c.1,c.2*t.2) else []) a≤mc+K+1:=by
   split
   case isTrue h2 =>
    have hi:t.1.toNat<C.length:=zo;rw[dA,aA hi];have hc:=hC _ (zF hi);have h1:=wpl_one hc.1 hc.2 t.2 a;have h3:=h t tA;show wpl ((C[t.1.toNat]'hi).map fun c=>(c.1,c.2*t.2)) a≤_
    omega
   case isFalse=>exact zA _
  rw[timesP_cons,wpl_append,wC,aC,yD];omega
theorem timesG_q {w:World} {X:Option Addr} {nx cx n c:Nat} {CL:List Vc} (M MC kc mc:Nat) (h:Sl Vc.cs 1 w A n c CL) (hcl:Hid (∀v∈CL,GV w v.A v.n v.c (prs v.L) MC∧v.n≤kc∧wtot (prs v.L)≤mc)) (hx0:GV w X nx cx P M)
  (hM:M≤9000000000) (hMC:MC≤9000000000) (hnx:nx≤1000) (hkc:kc≤1000) (hn:n≤1000000) (D:Nat) (hD:Hid (∀a,wpl (timesP (CL.map fun v=>prs v.L) (nrm P)) a≤D)) (hD2:D≤18000000000) (hT:Hid (Tab w)) :
  Calls Tryz.prog 43 #[.slice A n c,.slice X nx cx] w (TellsVO w (nrm (timesP (CL.map fun v=>prs v.L) (nrm P))) D):=by
 have H:=zh h;have HLN:=zh h.1;have hx:=zh hx0;have HPL:=zh hx0.len;have hM:M≤19000000000:=zo;have hnx:nx≤1000000:=zo;clear h hx0;have hB:=Below.refl w.heap.size w;have Bz:=zr w;go_enter Tryz.func43,Tryz.ntmps43
 go_wp2_with fail
 with_reducible refine(normV_q (hx.out.below (bT hB (bT (b:=w) Bz))) hM hnx (zt hT hB Bz)).mono ?_
 rintro e w1 ⟨A1,n1,c1,rfl,h1,z⟩;replace z:=zq (a:=w) z;replace Bz:=bT Bz z;clear z;go_wp2_with fail
 obtain⟨L,x1,x2,x3,x4⟩:=h1;have HS:=zh x1;have HL1:=zh x1.1;have HON:=zh x2;have HPX:=zh x3;have hn1:n1≤nx:=by
  have h1:=nrm_len P;rw[←HPX.out,zAh,HL1.out,HPL.out] at h1;exact h1
 have HB1:=zh (bT hB Bz);have hWs:=Bz.size;clear x1 x2 x3 x4 hB Bz;go_loopg [5,13] n1 (fun gk s5 s13 wr=>TM1 w w1 (CL.map fun v=>prs v.L) (nrm P) (MC+M+2) n1 gk s5 s13 wr)
 case atStart=>exact⟨0,0,_,_,[],rfl,rfl,zA _,rfl,OwnR.nil _ _ _ _,rfl,OnT.nil _ _,HB1.out,Below.refl _ _⟩
 case round =>
  clear HB1;obtain⟨i,k,Hd,hc,O,rfl,rfl,hi,hgk,ho,hp,hon,hB,hBW⟩:=hrel;have HP:=zh hp;have HGK:=zh hgk;clear hp hgk;by_cases hlt:i<n1
  ·obtain⟨b,off,rfl,hel⟩:=HS.out.at Tm.cs_len zo zo;obtain⟨x,hx'⟩:∃x,L[i]?=some x:=⟨L[i]'(by rw[HL1.out];exact hlt),aA _⟩;have hnd:=hel i x hx';have hsn:=timesP_snoc (CL.map fun v=>prs v.L) (X:=nrm P) (i:=i) (t:=(x.at_,x.x.q)) (by rw[←HPX.out];exact prs_get hx');rw[nB,HLN.out] at hsn;have i1:(i:Int)<(n1:Int):=zo;have i2:(0:Int)≤(i:Int):=zo;clear hel;by_cases g1:x.at_<0
   ·have HP2:Hid (prs O=timesP (CL.map fun v=>prs v.L) ((nrm P).take (i+1))):=zh (by rw[hsn,yA (fun h=>by have:=h.1;simp only at this;omega),wE,HP.out]);clear hsn hx';have Bz:=zr wr;obtain⟨pA0,pA1,pA2,pA3,pA4,-⟩:=(hnd.below (bT hBW Bz)).ez;go_upto_region 5 with(fail)
    obtain⟨V11,hW,x0,hN⟩:=zAd wr #[.int .i64 x.at_,.bool x.x.s,.slice x.x.A x.x.l x.x.c,.bool x.x.s',.slice x.x.A' x.x.l' x.x.c'] 32;rw[←hW];clear hW;obtain⟨v0,hb0⟩:=ze wr.heap.size;rw[←hb0] at x0 ⊢;have ow_0:w.heap.size≤v0:=zi (zww hB Bz);replace hon:=hon.below hN;replace ho:=ho.below hN;replace hB:=bT (bT hB Bz) hN;replace hBW:=bT (bT hBW Bz) hN;have HX0:=zh x0;clear x0 hN Bz hb0;have Bz:=zr V11;clear pA0 pA1 pA2 pA3 pA4;have pa0:=(zx HX0 Bz).cell 0 (.int .i64 x.at_) rfl;go_wp2_with fail
    go_roundg (n1-(i+1))
    case measure=>have:=HGK.out;omega
    case rel=>exact⟨i+1,k,_,_,O,rfl,by go_num,zo,zo,OwnR.below ho,HP2.out,OnT.below hon,bT (bT hB Bz),bT (bT hBW Bz)⟩
   by_cases g2:(n:Int)≤x.at_
   ·have HP2:Hid (prs O=timesP (CL.map fun v=>prs v.L) ((nrm P).take (i+1))):=zh (by rw[hsn,yA (fun h=>by have:=h.2;simp only at this;omega),wE,HP.out]);clear hsn hx';have Bz:=zr wr;obtain⟨pA0,pA1,pA2,pA3,pA4,-⟩:=(hnd.below (bT hBW Bz)).ez;go_upto_region 5 with(fail)
    obtain⟨V11,hW,x0,hN⟩:=zAd wr #[.int .i64 x.at_,.bool x.x.s,.slice x.x.A x.x.l x.x.c,.bool x.x.s',.slice x.x.A' x.x.l' x.x.c'] 32;rw[←hW];clear hW;obtain⟨v0,hb0⟩:=ze wr.heap.size;rw[←hb0] at x0 ⊢;have ow_0:w.heap.size≤v0:=zi (zww hB Bz);replace hon:=hon.below hN;replace ho:=ho.below hN;replace hB:=bT (bT hB Bz) hN;replace hBW:=bT (bT hBW Bz) hN;have HX0:=zh x0;clear x0 hN Bz hb0;have Bz:=zr V11;clear pA0 pA1 pA2 pA3 pA4;have pa0:=(zx HX0 Bz).cell 0 (.int .i64 x.at_) rfl;go_wp2_with fail
    go_roundg (n1-(i+1))
    case measure=>have:=HGK.out;omega
    case rel=>exact⟨i+1,k,_,_,O,rfl,by go_num,zo,zo,OwnR.below ho,HP2.out,OnT.below hon,bT (bT hB Bz),bT (bT hBW Bz)⟩
   obtain⟨u,hu⟩:∃u,CL[x.at_.toNat]?=some u:=⟨CL[x.at_.toNat]'(by rw[HLN.out];omega),aA _⟩;obtain⟨d,offd,rfl,held⟩:=H.out.at Vc.cs_len zo zo;have hnd2:ElA w d (offd+x.at_.toNat) u.cs:=by have:=held x.at_.toNat u hu;rwa [bD] at this
   have i3:(0:Int)≤x.at_:=zo;have i4:x.at_<(n:Int):=zo;have hcu:=hcl.out u (eA hu);clear held;have HV00:Hid (some wr.heap.size≠(Value.slice Hd k hc).ownBlock):=zh (ho.off' (cA _));have Bz:=zr wr;obtain⟨pA0,pA1,pA2,pA3,pA4,-⟩:=(hnd.below (bT hBW Bz)).ez;go_upto_region 5 with(fail)
   obtain⟨V11,hW,x0,hN⟩:=zAd wr #[.int .i64 x.at_,.bool x.x.s,.slice x.x.A x.x.l x.x.c,.bool x.x.s',.slice x.x.A' x.x.l' x.x.c'] 32;rw[←hW];clear hW;obtain⟨v0,hb0⟩:=ze wr.heap.size;rw[←hb0] at x0 ⊢;have ow_0:w.heap.size≤v0:=zi (zww hB Bz);replace hon:=hon.below hN;replace ho:=ho.below hN;replace hB:=bT (bT hB Bz) hN;replace hBW:=bT (bT hBW Bz) hN;have HX0:=zh x0;have HV0:Hid (some v0≠(Value.slice Hd k hc).ownBlock):=by rw[hb0];exact HV00
   clear x0 hN Bz hb0 HV00;have Bz:=zr V11;clear pA0 pA1 pA2 pA3 pA4;have pa0:=(zx HX0 Bz).cell 0 (.int .i64 x.at_) rfl;have pB0:=(hnd2.below (bT hB Bz)).c0 (u:=.slice u.A u.n u.c) rfl;go_wp2_with fail
   have XX0:=zh (zx HX0 Bz);have HBB:=zh (bT hB Bz);have HBV:=zh (bT hBW Bz);have HO1:=zh (ho.below Bz);have HN1:=zh (hon.below Bz);obtain⟨⟨T,t1,t2,t3,t4,t5⟩,hunk,hmc⟩:=hcu;have HT:=zh t1;have HTL:=zh t1.1;have HTK:=zh t2;have HTP:=zh t3;have HTW:=zh t4;have HRX:=zh (HON.out.ok x (eA hx'));have hdx:=HON.out.dg x (eA hx');have hsx:sz x.x.q+1≤M:=(HON.out x (eA hx')).2.2;have HSN:=zh hsn;have hxv:v0<V11.heap.size:=zi XX0.out.lt;clear t1 t2 t3 t4 t5 hB Bz hBW ho hon hx' hsn HX0 hnd hnd2;go_loopg [5,33] u.n (fun gk s5 s33 wr=>TM2 w w1 #[.int .i64 x.at_,.bool x.x.s,.slice x.x.A x.x.l x.x.c,.bool x.x.s',.slice x.x.A' x.x.l' x.x.c'] v0 (timesP (CL.map fun v=>prs v.L) ((nrm P).take i)) T x.x.q (MC+M+2) u.n gk s5 s33 wr)
   case atStart=>exact⟨0,k,_,_,O,rfl,rfl,zA _,cA _,HO1.out,by rw[HP.out];exact(wE _).symm,HN1.out,XX0.out,HBB.out,HBV.out,HV0.out⟩
   case round =>
    clear XX0 HO1 HN1 HBB HBV HP;obtain⟨j,k,Hd,hc,O,rfl,rfl,hj,hgj,ho,hp,hon,hx0,hB,hBW,hv0⟩:=hrel;have HP:=zh hp;have HX0:=zh hx0;clear hp hx0;by_cases hlu:j<u.n
    ·obtain⟨eb,offe,he,hel⟩:=HT.out.at Tm.cs_len zo zo;rw[he];obtain⟨y,hy⟩:∃y,T[j]?=some y:=⟨T[j]'(by rw[HTL.out];exact hlu),aA _⟩;have hndy:=hel j y hy;have hfy:=HTK.out y (eA hy);have hry:R wr y.x.s y.x.A y.x.c y.x.l y.x.s' y.x.A' y.x.c' y.x.l' y.x.q (dgT y):=(hfy.below hB).r;have hrx:R wr x.x.s x.x.A x.x.c x.x.l x.x.s' x.x.A' x.x.c' x.x.l' x.x.q (dgT x):=(HRX.out.below hBW).r;have hdy:dgT y+2≤MC:=nA (wsum_mem (eA hy)) (HTW.out _);have hsz:sz (y.x.q*x.x.q)≤(dgT y+1)+sz x.x.q:=sz_mul hfy.szd (cA _);have HS1:Hid (sz (y.x.q*x.x.q)+1≤MC+M+2):=zh zo;have HP2:Hid (∀r:Fr,r.q=y.x.q*x.x.q→prs (O++[⟨y.at_,r⟩])=timesP (CL.map fun v=>prs v.L) ((nrm P).take i)++(prs (T.take (j+1))).map (fun c=>(c.1,c.2*x.x.q))):=zh (fun r hr=>by
      rw[take_snoc hy,zAi,zAi,fF,←mE,←HP.out];congr 1
      show [((y.at_,r.q):Int×Rat)]=[(y.at_,y.x.q*x.x.q)]
      rw[hr])
     have hkb:k≤20000000000:=by
      have h1:=timesP_len (C:=CL.map fun v=>prs v.L) (k:=kc) (fun c hc=>by
       obtain⟨v,hv,rfl⟩:=yB.1 hc;have h2:=hcl.out v hv;have:=h2.1.len;omega) ((nrm P).take i)
      have h2:((nrm P).take i).length≤1000000:=by have h8:(nrm P).length≤P.length:=nrm_len _;have h9:=HPL.out;rw[mB];omega
      have h3:=cB kc h2;have h4:O.length=k:=ho.eltn elt_term zo;have h5:=congrArg List.length HP.out;rw[zAh,gC,nB,zAh,mB,h4] at h5;omega
     have j1:(j:Int)<(u.n:Int):=zo;have j2:(0:Int)≤(j:Int):=zo;clear hel hy hfy hsz;have Bz:=zr wr;have pA0:=(hndy.below (bT hB Bz)).c0 (u:=.int .i64 y.at_) rfl;have pA1:=(hndy.below (bT hB Bz)).at 1 (.bool y.x.s) rfl;have pA2:=(hndy.below (bT hB Bz)).at 2 (.slice y.x.A y.x.l y.x.c) rfl;have pA3:=(hndy.below (bT hB Bz)).at 3 (.bool y.x.s') rfl;have pA4:=(hndy.below (bT hB Bz)).at 4 (.slice y.x.A' y.x.l' y.x.c') rfl;go_upto_region 9 with(fail)
     obtain⟨V21,hW,x1,hN⟩:=zAd wr #[.int .i64 y.at_,.bool y.x.s,.slice y.x.A y.x.l y.x.c,.bool y.x.s',.slice y.x.A' y.x.l' y.x.c'] 32;rw[←hW];clear hW;obtain⟨v1,hb1⟩:=ze wr.heap.size;rw[←hb1] at x1 ⊢;have ow_1:w.heap.size≤v1:=zi (zww hB Bz);have nv1_own:=OwnR.off' (b:=v1) ho zo;replace hon:=hon.below hN;replace ho:=ho.below hN;replace hrx:=hrx.below hN;replace hry:=hry.below hN;replace hB:=bT (bT hB Bz) hN;replace hBW:=bT (bT hBW Bz) hN;replace HX0:=zba HX0 Bz hN;have HX1:=zh x1;clear x1 hN Bz hb1;have Bz:=zr V21;clear pA0 pA1 pA2 pA3 pA4;obtain⟨-,pa1,pa2,pa3,pa4,-⟩:=(zx HX0 Bz).cz;obtain⟨pb0,pb1,pb2,pb3,pb4,-⟩:=(zx HX1 Bz).cz;go_wp2_with fail
     (try simp only[vA,vBa,vC])
     refine zl (.pure 0 (.pure 1 (.take 2 (.pure 3 (.take 4 (.pure 5 (.take 6 (.only 7 (.pure 8 (.only 9 (.only 10 (.pure 11 .done)))))))))))) [10] (zsa pa1 (zsa pa2 (zsa pa3 (zsa pa4 (zsa pb0 (zsa pb1 (zsa pb2 (zsa pb3 (zIa pb4))))))))) ?_;iterate 7 ((first|refine zV ?_|refine zUa ?_);try simp only[uW,uX,uY,uZ])
     refine zC 44 rfl rfl (fun K hK=>?_);go_simp
     with_reducible refine(mul_q (R.below hry) (R.below hrx) zo (zt hT hB Bz)).mono ?_
     rintro e w11 ⟨s11,A11,c11,l11,s11r,A11r,c11r,l11r,rfl,h11,z⟩;replace z:=zq (a:=V21) z;replace hon:=hon.below z;replace ho:=ho.below z;replace Bz:=bT Bz z;clear z;clear pa1 pa2 pa3 pa4 pb0 pb1 pb2 pb3 pb4;obtain⟨-,pa1,pa2,pa3,pa4,-⟩:=(zx HX0 Bz).cz;obtain⟨pb0,pb1,pb2,pb3,pb4,-⟩:=(zx HX1 Bz).cz;refine hK.out _ _ ⟨pa1,pa2,pa3,pa4,pb0,pb1,pb2,pb3,pb4⟩ (fun _=>?_);try simp only[uW,uX,uY,uZ]
     clear hK K;refine zV ?_;try simp only[uW,uX,uY,uZ]
     refine zC 46 rfl rfl (fun K hK=>?_);go_simp
     refine hK.out _ _ ⟨(zAc pa1),(zAc pa2),(zAc pa3),(zAc pa4),(zAc pb0),(zAc pb1),(zAc pb2),(zAc pb3),(zAc pb4)⟩ (fun _=>?_);try simp only[uW,uX,uY,uZ]
     clear hK K;refine zAb (o:=⟨some 47,_,_,_,_,_⟩) rfl rfl zd (fun K hK=>?_);obtain⟨V22,hW,x2,hN⟩:=zAd w11 #[.int .i64 y.at_,.bool s11,.slice A11 l11 c11,.bool s11r,.slice A11r l11r c11r] 32;rw[←hW];clear hW;obtain⟨v2,hb2⟩:=ze w11.heap.size;rw[←hb2] at x2 ⊢;have ow_2:w.heap.size≤v2:=zi (zww hB Bz);have nv2_own:=OwnR.off' (b:=v2) ho zo;replace h11:=h11.below hN;replace hon:=hon.below hN;replace ho:=ho.below hN;replace hB:=bT (bT hB Bz) hN;replace hBW:=bT (bT hBW Bz) hN;replace HX0:=zba HX0 Bz hN;replace HX1:=zba HX1 Bz hN;have HX2:=zh x2;clear x2 hN Bz hb2;have Bz:=zr V22;clear pa1 pa2 pa3 pa4 pb0 pb1 pb2 pb3 pb4;have hdr:V22.drew.heap.size=V22.heap.size:=rfl;have hdr2:V22.drew.drew.heap.size=V22.heap.size:=rfl;refine Elt.wp elt_term _ _ rfl (w1.heap.size) (.slice Hd k hc) (k) (O) rfl ho (.slice (some ⟨v2,0,none⟩) 1 1) (1) ([⟨y.at_,⟨s11,A11,c11,l11,s11r,A11r,c11r,l11r,y.x.q*x.x.q,true⟩⟩]) rfl (From.one (HX2.out.below (bT Bz)) (⟨y.at_,⟨s11,A11,c11,l11,s11r,A11r,c11r,l11r,y.x.q*x.x.q,true⟩⟩) rfl (elt_term.len _)) zo (zj hBW.size Bz.size) ?_;intro H12 c12 w12 ho12 hg12;refine hK.out _ _ ?_;try simp only[uW,uX,uY,uZ]
     clear hK K;replace hB:=(bT (bT hB Bz)).trans (hg12.below (zi (zww hB Bz)) (fun g hg=>by have:=ho.base g hg;omega));replace hBW:=(bT (bT hBW Bz)).trans (hg12.below (zj hBW.size Bz.size) (fun g hg=>by have:=ho.base g hg;omega));have hv1:=hg12.ne (zx HX0 Bz).lt hv0;replace HX0:=zh (hg12.bx (zx HX0 Bz) hv0);clear HX1;clear HX2;clear hdr hdr2;replace h11:=h11.k hg12.k;replace hon:=hon.k hg12.k;clear hg12 Bz;have Bz:=zr w12;obtain⟨-,pa1,pa2,pa3,pa4,-⟩:=(zx HX0 Bz).cz;refine zV ?_;try simp only[uW,uX,uY,uZ]
     refine zAa ?_;go_wp2_with fail
     rw[←he];go_roundg (u.n-(j+1))
     case measure=>omega
     case rel=>exact⟨j+1,k+1,_,_,_,rfl,by go_num,zo,zo,OwnR.below ho12,HP2.out _ rfl,(OnT.below hon).snoc (RN.below h11) rfl HS1.out,HX0.out.below (bT Bz),bT (bT hB Bz),bT (bT hBW Bz),hv1⟩
    ·have hju:j=u.n:=zo;subst hju;have j1:¬(u.n:Int)<(u.n:Int):=zo;have HP2:Hid (prs O=timesP (CL.map fun v=>prs v.L) ((nrm P).take (i+1))):=zh (by
      rw[HSN.out,bB ⟨i3,i4⟩,HP.out,qA (l:=T) (by rw[HTL.out];exact cA _),HTP.out,dA,jB,hu];rfl)
     go_wp2_with fail
     go_roundg (n1-(i+1))
     case measure=>have:=HGK.out;omega
     case rel=>exact⟨i+1,k,_,_,O,rfl,by go_num,zo,zo,ho.below (by go_grown),HP2.out,OnT.below hon,bT hB,bT hBW⟩
  ·obtain rfl:i=n1:=zo;have i1:¬(i:Int)<(i:Int):=zo;have hpf:prs O=timesP (CL.map fun v=>prs v.L) (nrm P):=by
    rw[HP.out,qA];rw[←HPX.out,zAh,HL1.out];exact cA _
   have hol:=ho.eltn elt_term zo;have hc0:=ho.slice;have hnp:(nrm P).length≤nx:=by rw[←HPX.out,zAh,HL1.out];exact hn1
   have hkk:k≤1000000:=by
    have h0:k=(timesP (CL.map fun v=>prs v.L) (nrm P)).length:=by rw[←hpf,zAh,hol]
    have h4:=timesP_len (C:=CL.map fun v=>prs v.L) (k:=kc) (fun c hc=>by
     obtain⟨v,hv,rfl⟩:=yB.1 hc;have h2:=hcl.out v hv;have:=h2.1.len;omega) (nrm P)
    have h5:=vE (nA hnp (show nx≤1000 by omega)) (show kc≤1000 by omega);omega
   have hgv:GV wr Hd k hc (timesP (CL.map fun v=>prs v.L) (nrm P)) D:=⟨O,ho.sl' elt_term hol,hon.ok,hpf,fun a=>nA (wsum_pl a hon) (by rw[hpf];exact hD.out a),fun hn0=>by
    obtain⟨_,_,e9,h9,_⟩:=hc0;cases e9;exact(h9 hn0).2⟩
   have hnq:=normO_q hgv zo zo (zh (hT.out.below hB));clear hgv hol hc0 ho hon hpf;go_wp2_with fail
   with_reducible refine hnq.mono ?_
   rintro e w3 ⟨A3,n3,c3,L3,rfl,h3,h3b,h3c,b3⟩;have H3:=zh h3;have H3b:=zh h3b;have H3c:=zh h3c;clear h3 h3b h3c hnq;go_wp2_with fail
   go_ret
   exact⟨A3,n3,c3,L3,rfl,H3.out.rebase hB.size,H3b.out,H3c.out,bT hB b3⟩
end Go.Proofs.YtfpbmpllildbaaaGreatDoor
