import Derived.Test.YtfpbmpllildbaaaGreatDoorYSo8
import Derived.Test.YtfpbmpllildbaaaGreatDoorYMxR
set_option maxHeartbeats 8000000
set_option maxRecDepth 100000
namespace Go.Proofs.YtfpbmpllildbaaaGreatDoor
open Go.RowKit Tw
theorem elt_frs:Elt Fr.cs 4 82 30:=Elt.of (.agg #[.bool false,.slice none 0 0,.bool false,.slice none 0 0]) 64 Tryz.underlying82 (by kernel_rfl) zo (by kernel_rfl) (nou_list (by kernel_rfl)) Fr.cs_len
 (fun x u hu=>by simp[Fr.cs] at hu;rcases hu with rfl | rfl | rfl | rfl<;>rfl) (fun x u hu n=>by simp[Fr.cs] at hu;rcases hu with rfl | rfl | rfl | rfl<;>simp)
theorem fr_zero {i:TypeInfo} {z:Value} (h:Tryz.prog.info? 30=some i) (hz:i.zero=some z):z.cells.toList=Fr.cs zFr:=by
 have h1:(Tryz.prog.info? 30).map (fun i=>i.zero)=some (some (.agg #[.bool false,.slice none 0 0,.bool false,.slice none 0 0])):=by kernel_rfl
 rw[h,eF,hz] at h1;obtain rfl:z=.agg #[.bool false,.slice none 0 0,.bool false,.slice none 0 0]:=by simpa using h1
 rfl
theorem fr_store {w:World} {B g n cap i:Nat} {L:List Fr} (h:OwnR w B 30 4 (.slice (some ⟨g,0,none⟩) n cap) n (flat Fr.cs L)) {y:Fr} (hy:L[i]?=some y) (x:Fr) :
  ∃V,V=(((w.setCell ⟨g,i*4,none⟩ (.bool x.s)).setCell ⟨g,i*4+1,none⟩ (.slice x.A x.l x.c)).setCell ⟨g,i*4+2,none⟩ (.bool x.s')).setCell ⟨g,i*4+3,none⟩ (.slice x.A' x.l' x.c')∧
   OwnR V B 30 4 (.slice (some ⟨g,0,none⟩) n cap) n (flat Fr.cs (L.set i x))∧Grew w V (.slice (some ⟨g,0,none⟩) n cap) (.slice (some ⟨g,0,none⟩) n cap):=by
 have:=elt_frs.sets h hy (y:=x) [(0,.bool x.s),(1,.slice x.A x.l x.c),(2,.bool x.s'),(3,.slice x.A' x.l' x.c')] (fun p hp=>by simp at hp;rcases hp with rfl | rfl | rfl | rfl<;>exact⟨by simp,by simp⟩) rfl;exact⟨_,rfl,this⟩
theorem fr_0 {w:World} {B g n cap i:Nat} {L:List Fr} (h:OwnR w B 30 4 (.slice (some ⟨g,0,none⟩) n cap) n (flat Fr.cs L)) {y:Fr} (hy:L[i]?=some y):w.cell? ⟨g,i*4,none⟩=some (.bool y.s) :=
 elt_frs.cell h hy (j:=0) (u:=.bool y.s) zo rfl
def AllFr (w:World) (K:Nat) (L:List Fr):Prop:=∀x∈L,FrOk w K x
theorem AllFr.below {w w':World} {K:Nat} {L:List Fr} (h:AllFr w K L) (hb:Below w.heap.size w w':=by go_grown):AllFr w' K L:=fun x hx=>(h x hx).below hb
theorem AllFr.k {w w':World} {K:Nat} {L:List Fr} (h:AllFr w K L) (hb:K64 w w'):AllFr w' K L:=fun x hx=>(h x hx).k hb
theorem AllFr.set {w:World} {K:Nat} {L:List Fr} (h:AllFr w K L) (i:Nat) {x:Fr} (hx:FrOk w K x):AllFr w K (L.set i x):=fun y hy=>by
 rcases kC hy with hy | rfl
 ·exact h y hy
 ·exact hx
theorem dotG {w:World} {X Y:Option Addr} {n cx m cy M M' K:Nat} {P Q:List (Int×Rat)} (h:GV w X n cx P M) (h':GV w Y m cy Q M') (hM0:n*(M+M'+3)≤15000000000) (hM:M≤15000000000) (hM':M'≤15000000000) (hn:n≤1000000) (hm:m≤1000000) (hs:sz (pdot P Q)≤K) (hT:Hid (Tab w)) :
  Calls Tryz.prog 93 #[.slice X n cx,.slice Y m cy] w (TellsNum w (pdot P Q) K):=(dotV_q h h' hM0 hM hM' hn hm hT).mono fun _ _ k=>k.num hs
def LF1 (w W:World) (g n K:Nat) (P:List (Int×Rat)) (CL:List Vc) (gk:Nat) (s:Value) (wr:World):Prop:=∃(i:Nat) (D:List Fr),i≤n∧n-i=gk∧s=.int .i64 (i:Int)∧OwnR wr W.heap.size 30 4 (.slice (some ⟨g,0,none⟩) n n) n (flat Fr.cs D)∧AllFr wr K D∧
 (D.take i).map (fun x=>x.q)=(CL.take i).map (fun v=>pdot P (prs v.L))∧Below w.heap.size w wr∧Below W.heap.size W wr
theorem leftW {w:World} {X A:Option Addr} {nx cx n c:Nat} {P:List (Int×Rat)} {CL:List Vc} (M MC N K:Nat) (hx:GV w X nx cx P M) (hnx:nx≤N) (h:Sl Vc.cs 1 w A n c CL) (hcl:Hid (∀v∈CL,GV w v.A v.n v.c (prs v.L) MC∧v.n≤1000)) (hn:n≤1000000)
  (hK:Hid (∀v∈CL,sz (pdot (nrm P) (prs v.L))≤K)) (hK0:1≤K) (hK1:N*(M+1+MC+3)≤15000000000) (hK2:K≤15000000000) (hM:M≤14000000000) (hMC:MC≤14000000000) (hN:N≤1000) (hT:Hid (Tab w)) :
  Calls Tryz.prog 44 #[.slice X nx cx,.slice A n c] w (TellsV w (nrm (idxP (CL.map fun v=>pdot P (prs v.L)))) (K+2)):=by
 have H:=zh h;have HLN:=zh h.1;have hnq:=normW M N hx hnx zo hN hT;clear h hx;go_enter Tryz.func44,Tryz.ntmps44
 go_wp2_with fail
 with_reducible refine hnq.mono ?_
 rintro e w1 ⟨A1,n1,c1,rfl,h1,hn1,b1⟩;have H1:=zh h1;clear hnq h1;go_wp2_with (at_make;refine And.left (b:=True) ?_)
 refine⟨?_,trivial⟩;refine Elt.makeN elt_frs zFr (fun i z h1 h2=>fr_zero h1 h2) rfl _ _ rfl .i64 .i64 n rfl rfl zo w1.heap.size (cA _) ?_;intro g w2 ho2 b2;have HO2:=zh ho2;have HBW:=zh b2;have HB2:=zh (bT b1 b2);have hWs:=b1.size;clear ho2 b1 b2;go_wp2_with fail
 go_loopg [15] n (fun gk s wr=>LF1 w w1 g n K (nrm P) CL gk s wr)
 case atStart=>exact⟨0,_,zA _,rfl,rfl,HO2.out.below (by go_grown),fun x hx=>by rw[uD hx];exact zFr_ok _ zo,by simp,bT HB2.out,bT HBW.out⟩
 case round =>
  clear HO2 HBW HB2;obtain⟨i,D,hi,hgk,rfl,ho,hfr,hdq,hB,hBW⟩:=hrel;have HGK:=zh hgk;have HDL:=zh (ho.eltn elt_frs zo);clear hgk;by_cases hlt:i<n
  ·obtain⟨b,off,rfl,hel⟩:=H.out.at Vc.cs_len zo zo;obtain⟨v,hv⟩:∃v,CL[i]?=some v:=⟨CL[i]'(by rw[HLN.out];exact hlt),aA _⟩;have hnd:ElA w b (off+i) v.cs:=by have:=hel i v hv;rwa [bD] at this
   have hcv:=hcl.out v (eA hv);have HV:=zh hcv.1;have hvn:=hcv.2;have HKV:=zh (hK.out v (eA hv));have hm1:n1*(M+1+MC+3)≤15000000000:=nA (cB _ hn1) hK1;obtain⟨y,hy⟩:∃y,D[i]?=some y:=⟨D[i]'(by rw[HDL.out];exact hlt),aA _⟩;have HY:=zh hy;have HDQ:Hid (∀r:Fr,r.q=pdot (nrm P) (prs v.L)→((D.set i r).take (i+1)).map (fun x=>x.q)=(CL.take (i+1)).map (fun v=>pdot (nrm P) (prs v.L))):=zh (fun r hr=>by
    rw[take_snoc (x:=r) (by rw[tC (by rw[HDL.out];omega)]),List.take_set_of_le (cA i),take_snoc hv,fF,fF,hdq];simp[hr])
   have i1:(i:Int)<(n:Int):=zo;have i2:(0:Int)≤(i:Int):=zo;clear hel hv hy hcv hdq;have Bz:=zr wr;have pA0:=(hnd.below (bT hB Bz)).c0 (u:=.slice v.A v.n v.c) rfl;go_wp2_with fail
   with_reducible refine(dotG (K:=K) ((H1.out.below (bT hBW (bT (b:=wr) Bz))).gv (nrm_nrm _).rise) (HV.out.below (bT hB (bT (b:=wr) Bz))) hm1 zo zo zo zo HKV.out (zt hT hB Bz)).mono ?_
   rintro e w11 ⟨s11,A11,c11,l11,s11r,A11r,c11r,l11r,rfl,h11,z11,J⟩;replace J:=zq (a:=wr) J;replace hfr:=hfr.below J;replace ho:=ho.below J;replace Bz:=bT Bz J;clear J;clear pA0;have pB0:=fr_0 ho HY.out;have pB1:=elt_frs.cell ho HY.out (j:=1) (u:=.slice y.A y.l y.c) zo rfl;have pB2:=elt_frs.cell ho HY.out (j:=2) (u:=.bool y.s') zo rfl;have pB3:=elt_frs.cell ho HY.out (j:=3) (u:=.slice y.A' y.l' y.c') zo rfl;have fB0:=ho.frozen (i*4);have fB1:=ho.frozen (i*4+1);have fB2:=ho.frozen (i*4+2);have fB3:=ho.frozen (i*4+3);have y51:=ho.blk.1;go_upto_region 7 with(fail)
   obtain⟨V11,hV,ho2,hg2⟩:=fr_store ho HY.out ⟨s11,A11,c11,l11,s11r,A11r,c11r,l11r,pdot (nrm P) (prs v.L),true⟩;rw[←hV];clear hV;replace hB:=(bT hB Bz).trans (hg2.below (zi (zww hB Bz)) (fun g' hg'=>by have:=ho.base g' hg';omega));replace hBW:=(bT hBW Bz).trans (hg2.below (zj hBW.size Bz.size) (fun g' hg'=>ho.base g' hg'));replace hfr:=hfr.k hg2.k;replace h11:=h11.k hg2.k;clear ho;have ho:=ho2;clear ho2 hg2 Bz;have Bz:=zr V11;clear pB0 pB1 pB2 pB3 fB0 fB1 fB2 fB3 y51;go_wp2_with fail
   go_roundg (n-(i+1))
   case measure=>have:=HGK.out;omega
   case rel=>exact⟨i+1,_,zo,rfl,by go_num,OwnR.below ho,(AllFr.below hfr).set i ((RN.below h11).fr z11),HDQ.out _ rfl,bT (bT hB Bz),bT (bT hBW Bz)⟩
  ·obtain rfl:i=n:=zo;have i1:¬(i:Int)<(i:Int):=zo;have hoq:=ofV_q (ho.sl' elt_frs HDL.out) (zh hfr) zo hn (zh (hT.out.below hB));have HDE:Hid (D.map (fun x=>x.q)=CL.map fun v=>pdot P (prs v.L)):=zh (by
    rw[qA (by rw[HDL.out];exact cA _),qA (by rw[HLN.out];exact cA _)] at hdq;rw[hdq];exact List.map_congr_left fun v _=>pdot_nrm _ _)
   rw[HDE.out] at hoq;clear ho hfr hdq;go_wp2_with fail
   with_reducible refine hoq.mono ?_
   rintro e w3 ⟨A3,n3,c3,rfl,h3,b3⟩;have H3:=zh h3;clear h3 hoq;go_wp2_with fail
   go_ret
   exact⟨A3,n3,c3,rfl,H3.out,bT hB b3⟩
def AllRn (w:World) (K:Nat) (L:List Fr):Prop:=∀x∈L,RN w x.s x.A x.c x.l x.s' x.A' x.c' x.l' x.q∧x.ex=true∧sz x.q+1≤K
theorem AllRn.below {w w':World} {K:Nat} {L:List Fr} (h:AllRn w K L) (hb:Below w.heap.size w w':=by go_grown):AllRn w' K L:=fun x hx=>⟨(h x hx).1.below hb,(h x hx).2⟩
theorem AllRn.k {w w':World} {K:Nat} {L:List Fr} (h:AllRn w K L) (hb:K64 w w'):AllRn w' K L:=fun x hx=>⟨(h x hx).1.k hb,(h x hx).2⟩
theorem AllRn.set {w:World} {K:Nat} {L:List Fr} (h:AllRn w K L) (i:Nat) {x:Fr} (hx:RN w x.s x.A x.c x.l x.s' x.A' x.c' x.l' x.q∧x.ex=true∧sz x.q+1≤K):AllRn w K (L.set i x):=fun y hy=>by
 rcases kC hy with hy | rfl
 ·exact h y hy
 ·exact hx
theorem AllRn.put {w:World} {K:Nat} {s s':Bool} {A A':Option Addr} {c l c' l':Nat} {q:Rat} (h:RN w s A c l s' A' c' l' q) (hs:sz q+1≤K):RN w s A c l s' A' c' l' q∧true=true∧sz q+1≤K:=⟨h,rfl,hs⟩
theorem AllRn.zeros (w:World) (m:Nat) {K:Nat} (hK:2≤K):AllRn w K (List.replicate m zFr):=fun x hx=>by
 rw[uD hx];refine⟨(zFr_ok w (m:=1) zo).rn.1 rfl,rfl,?_⟩;have:=sz_zero;show sz 0+1≤K
 omega
def denseF (P:List (Int×Rat)) (m:Nat):List Rat:=(List.range m).map fun(i:Nat)=>pget P (i:Int)
def DnsE (D:List Fr) (T:List Tm):Prop:=∀(i:Nat) y,D[i]?=some y→y.q=pget (prs T) (i:Int)
theorem DnsE.start (m:Nat):DnsE (List.replicate m zFr) []:=fun i y hy=>by rw[uD (eA hy)];rfl
theorem dns_get {T:List Tm} {j:Nat} {x:Tm} (hx:T[j]?=some x) (a:Int):pget (prs (T.take (j+1))) a=pget (prs (T.take j)) a+if x.at_=a then x.x.q else 0:=by
 rw[take_snoc hx,zAi,pget_append];congr 1
 exact pget_one (x.at_,x.x.q) a
theorem DnsE.skip {D:List Fr} {T:List Tm} {j:Nat} {x:Tm} (h:DnsE D (T.take j)) (hx:T[j]?=some x) (ho:x.at_<0∨(D.length:Int)≤x.at_):DnsE D (T.take (j+1)):=fun i y hy=>by
 have hi:=(qB.1 hy).1;rw[dns_get hx,yA zo,yC];exact h i y hy
theorem DnsE.step {D:List Fr} {T:List Tm} {j a:Nat} {x:Tm} {y:Fr} (h:DnsE D (T.take j)) (hr:Rise (prs T)) (hx:T[j]?=some x) (ha:x.at_=(a:Int)) (hy:D[a]?=some y) (r:Fr) (hq:r.q=x.x.q):DnsE (D.set a r) (T.take (j+1)):=fun i z hz=>by
 have hal:=(qB.1 hy).1;by_cases e:i=a
 ·subst e;rw[tC hal,Option.some.injEq] at hz;subst hz;have h2:Rise (prs (T.take (j+1))):=by rw[←prs_take];exact List.Pairwise.sublist (List.take_sublist _ _) hr
  have h3:(x.at_,x.x.q)∈prs (T.take (j+1)):=by rw[take_snoc hx,zAi];exact List.mem_append_right _ (qC.2 rfl)
  rw[←ha,h2.get h3,hq]
 ·rw[eD (fun e2=>e e2.symm)] at hz;rw[dns_get hx,yA zo,yC];exact h i z hz
theorem DnsE.done {D:List Fr} {T:List Tm} {m:Nat} (h:DnsE D T) (hl:D.length=m):D.map (fun x=>x.q)=denseF (prs T) m:=by
 apply gE
 intro i;unfold denseF
 rw[jB,jB];by_cases hi:i<m
 ·rw[cF hi,aA zo];simp only[eF]
  rw[h i _ (aA zo)]
 ·rw[dB zo,dB (by rw[pF];omega)];rfl
theorem denseF_nrm (P:List (Int×Rat)) (m:Nat):denseF (nrm P) m=denseF P m:=by
 unfold denseF
 exact List.map_congr_left fun i _=>nrm_get P i
def TellsFs (w:World) (l:List Rat) (K:Nat) (e:Ending) (w':World):Prop:=∃A n c L,e=.returned (.slice A n c)∧Sl Fr.cs 4 w' A n c L∧AllRn w' K L∧L.map (fun x=>x.q)=l∧Below w.heap.size w w'
def TellsFsO (w:World) (m:Nat) (l:List Rat) (K:Nat) (e:Ending) (w':World):Prop:=∃g L,e=.returned (.slice (some ⟨g,0,none⟩) m m)∧OwnR w' w.heap.size 30 4 (.slice (some ⟨g,0,none⟩) m m) m (flat Fr.cs L)∧AllRn w' K L∧L.map (fun x=>x.q)=l∧Below w.heap.size w w'
theorem TellsFsO.s {w w':World} {m K:Nat} {l:List Rat} {e:Ending} (h:TellsFsO w m l K e w'):TellsFs w l K e w':=by
 obtain⟨g,L,h1,h2,h3⟩:=h;exact⟨_,_,_,L,h1,h2.sl' elt_frs (h2.eltn elt_frs zo),h3⟩
def DS1 (w:World) (g m M nm:Nat) (X:Value) (T:List Tm) (gk:Nat) (s:Value) (wr:World):Prop :=
 ∃(j:Nat) (D:List Fr),j≤nm∧nm-j=gk∧s=.int .i64 (j:Int)∧OwnR wr w.heap.size 30 4 (.slice (some ⟨g,0,none⟩) m m) m (flat Fr.cs D)∧OwnR wr w.heap.size 32 5 X nm (flat Tm.cs T)∧AllRn wr M D∧DnsE D (T.take j)∧OnT wr T (fun _=>M)∧Below w.heap.size w wr
theorem dense_no {w:World} {X:Option Addr} {nx cx:Nat} (k:Int) (g1:k<1):Calls Tryz.prog 46 #[.slice X nx cx,.int .i64 k] w fun e w'=>e=.returned (.slice none 0 0)∧Below w.heap.size w w':=by
 go_enter Tryz.func46,Tryz.ntmps46
 go_wp2_with fail
 go_ret
 exact⟨rfl,Below.refl _ _⟩
theorem denseO_q {w:World} {X:Option Addr} {nx cx m M:Nat} {P:List (Int×Rat)} (h:GV w X nx cx P M) (hM:M≤18000000000) (hM2:2≤M) (hnx:nx≤1000000) (hm1:1≤m) (hm:m≤65536) (hT:Hid (Tab w)) :
  Calls Tryz.prog 46 #[.slice X nx cx,.int .i64 (m:Int)] w (TellsFsO w m (denseF P m) M):=by
 have HX:=zh h;have HPL:=zh h.len;have g1:¬(m:Int)<1:=zo;have g2:(m:Int)≤65536:=zo;clear h;go_enter Tryz.func46,Tryz.ntmps46
 go_wp2_with (at_make;refine And.left (b:=True) ?_)
 refine⟨?_,trivial⟩;refine Elt.makeN elt_frs zFr (fun i z h1 h2=>fr_zero h1 h2) rfl _ _ rfl .i64 .i64 m (by rw[show min (m:Int) 65536=(m:Int) by omega];rfl) (by rw[show min (m:Int) 65536=(m:Int) by omega];rfl) zo w.heap.size (cA _) ?_;intro g w1 ho1 b1;have HO1:=zh ho1;have hnq:=normO_q (HX.out.below b1) zo hnx (zh (hT.out.below b1));have HB1:=zh b1;clear ho1 b1;go_wp2_with fail
 with_reducible refine hnq.mono ?_
 rintro e w2 ⟨Am,nm,cm,T,rfl,ho2,on2,ep,b2⟩;have HAP:Ap (.slice Am nm cm) (.slice (some ⟨g,0,none⟩) m m):=by
  cases e:(Value.slice Am nm cm).ownBlock with
  | none=>exact .inl e
  | some b =>
   refine .inr fun e2=>?_;rw[e] at e2;have h1:=ho2.base b e;have h2:=HO1.out.lt b e2.symm;omega
 have HO2:=zh (ho2.rebase HB1.out.size);have HO3:=zh (HO1.out.below b2);have HN2:=zh on2;have HEP:=zh ep;have HRI:Hid (Rise (prs T)):=zh (by rw[ep];exact(nrm_nrm P).rise);have HTL:=zh (ho2.eltn elt_vec zo);have HB2:=zh (bT HB1.out b2);have hnm:nm≤1000000:=by
  have h1:=nrm_len P;rw[←ep,zAh,ho2.eltn elt_vec zo] at h1;have:=HPL.out;omega
 clear hnq ho2 on2 ep b2 HO1 HB1;go_wp2_with fail
 go_loopg [16] nm (fun gk s wr=>DS1 w g m M nm (.slice Am nm cm) T gk s wr)
 case atStart=>exact⟨0,_,zA _,rfl,rfl,HO3.out,HO2.out,AllRn.zeros _ _ hM2,by rw[cE];exact DnsE.start m,HN2.out,HB2.out⟩
 case round =>
  clear HO2 HO3 HN2 HB2;obtain⟨j,D0,hj,hgj,rfl,ho,ht,hfr,hd,hon,hB⟩:=hrel;have HGJ:=zh hgj;have HD:=zh hd;have HDL:=zh (ho.eltn elt_frs zo);clear hgj hd;by_cases hlj:j<nm
  ·obtain⟨eb,offe,rfl,hel⟩:=(ht.sl' elt_vec HTL.out).at Tm.cs_len zo zo;obtain⟨x,hx⟩:∃x,T[j]?=some x:=⟨T[j]'(by rw[HTL.out];exact hlj),aA _⟩;have hnd:=hel j x hx;have HXI:=zh hx;have HXN:=zh (hon x (eA hx));have apT:=HAP;have j1:(j:Int)<(nm:Int):=zo;have j2:(0:Int)≤(j:Int):=zo;clear hel hx;by_cases k1:x.at_<0
   ·have HD2:=zh (HD.out.skip HXI.out (.inl k1));have g3:¬0≤x.at_:=zo;have Bz:=zr wr;obtain⟨pA0,pA1,pA2,pA3,pA4,-⟩:=(hnd.below Bz).ez;go_upto_region 7 with(fail)
    obtain⟨V11,hW,x0,hN⟩:=zAd wr #[.int .i64 x.at_,.bool x.x.s,.slice x.x.A x.x.l x.x.c,.bool x.x.s',.slice x.x.A' x.x.l' x.x.c'] 32;rw[←hW];clear hW;obtain⟨v0,hb0⟩:=ze wr.heap.size;rw[←hb0] at x0 ⊢;have ow_0:w.heap.size≤v0:=zi (zww hB Bz);replace hfr:=hfr.below hN;replace hon:=hon.below hN;replace ho:=ho.below hN;replace ht:=ht.below hN;replace hB:=bT (bT hB Bz) hN;have HX0:=zh x0;clear x0 hN Bz hb0;have Bz:=zr V11;clear pA0 pA1 pA2 pA3 pA4;have pa0:=(zx HX0 Bz).cell 0 (.int .i64 x.at_) rfl;go_wp2_with fail
    go_roundg (nm-(j+1))
    case measure=>have:=HGJ.out;omega
    case rel=>exact⟨j+1,_,zo,rfl,by go_num,OwnR.below ho,OwnR.below ht,AllRn.below hfr,HD2.out,OnT.below hon,bT (bT hB Bz)⟩
   ·by_cases k2:(m:Int)≤x.at_
    ·have HD2:=zh (HD.out.skip HXI.out (.inr (by rw[HDL.out];exact k2)));have g3:0≤x.at_:=zo;have g4:¬x.at_<(m:Int):=zo;have Bz:=zr wr;obtain⟨pA0,pA1,pA2,pA3,pA4,-⟩:=(hnd.below Bz).ez;go_upto_region 7 with(fail)
     obtain⟨V11,hW,x0,hN⟩:=zAd wr #[.int .i64 x.at_,.bool x.x.s,.slice x.x.A x.x.l x.x.c,.bool x.x.s',.slice x.x.A' x.x.l' x.x.c'] 32;rw[←hW];clear hW;obtain⟨v0,hb0⟩:=ze wr.heap.size;rw[←hb0] at x0 ⊢;have ow_0:w.heap.size≤v0:=zi (zww hB Bz);replace hfr:=hfr.below hN;replace hon:=hon.below hN;replace ho:=ho.below hN;replace ht:=ht.below hN;replace hB:=bT (bT hB Bz) hN;have HX0:=zh x0;clear x0 hN Bz hb0;have Bz:=zr V11;clear pA0 pA1 pA2 pA3 pA4;have pa0:=(zx HX0 Bz).cell 0 (.int .i64 x.at_) rfl;go_wp2_with fail
     go_roundg (nm-(j+1))
     case measure=>have:=HGJ.out;omega
     case rel=>exact⟨j+1,_,zo,rfl,by go_num,OwnR.below ho,OwnR.below ht,AllRn.below hfr,HD2.out,OnT.below hon,bT (bT hB Bz)⟩
    ·have g3:0≤x.at_:=zo;have g4:x.at_<(m:Int):=zo;obtain⟨y,hy⟩:∃y,D0[x.at_.toNat]?=some y:=⟨D0[x.at_.toNat]'(by rw[HDL.out];omega),aA _⟩;have HY:=zh hy;have HD2:Hid (∀r:Fr,r.q=x.x.q→DnsE (D0.set x.at_.toNat r) (T.take (j+1))):=zh (fun r hr=>HD.out.step HRI.out HXI.out zo HY.out r hr);have hxr:=HXN.out.1;clear hy;have Bz:=zr wr;obtain⟨pA0,pA1,pA2,pA3,pA4,-⟩:=(hnd.below Bz).ez;go_upto_region 7 with(fail)
     obtain⟨V11,hW,x0,hN⟩:=zAd wr #[.int .i64 x.at_,.bool x.x.s,.slice x.x.A x.x.l x.x.c,.bool x.x.s',.slice x.x.A' x.x.l' x.x.c'] 32;rw[←hW];clear hW;obtain⟨v0,hb0⟩:=ze wr.heap.size;rw[←hb0] at x0 ⊢;have ow_0:w.heap.size≤v0:=zi (zww hB Bz);replace hfr:=hfr.below hN;replace hon:=hon.below hN;replace ho:=ho.below hN;replace ht:=ht.below hN;replace hxr:=hxr.below hN;replace hB:=bT (bT hB Bz) hN;have HX0:=zh x0;clear x0 hN Bz hb0;have Bz:=zr V11;clear pA0 pA1 pA2 pA3 pA4;obtain⟨pa0,pa1,pa2,pa3,pa4,-⟩:=(zx HX0 Bz).cz;have pB0:=fr_0 ho HY.out;have pB1:=elt_frs.cell ho HY.out (j:=1) (u:=.slice y.A y.l y.c) zo rfl;have pB2:=elt_frs.cell ho HY.out (j:=2) (u:=.bool y.s') zo rfl;have pB3:=elt_frs.cell ho HY.out (j:=3) (u:=.slice y.A' y.l' y.c') zo rfl;have fB0:=ho.frozen (x.at_.toNat*4);have fB1:=ho.frozen (x.at_.toNat*4+1);have fB2:=ho.frozen (x.at_.toNat*4+2);have fB3:=ho.frozen (x.at_.toNat*4+3);have y51:=ho.blk.1;go_upto_region 9 with(fail)
     obtain⟨V12,hV,ho2,hg2⟩:=fr_store ho HY.out ⟨x.x.s,x.x.A,x.x.c,x.x.l,x.x.s',x.x.A',x.x.c',x.x.l',x.x.q,true⟩;rw[←hV];clear hV;replace hB:=(bT hB Bz).trans (hg2.below (zi (zww hB Bz)) (fun g' hg'=>by have:=ho.base g' hg';omega));have ht2:=ht.grown hg2 apT;replace hfr:=AllRn.set hfr x.at_.toNat (x:=⟨x.x.s,x.x.A,x.x.c,x.x.l,x.x.s',x.x.A',x.x.c',x.x.l',x.x.q,true⟩) (AllRn.put (RN.below hxr) HXN.out.2.2);clear HX0;replace hfr:=hfr.k hg2.k;replace hon:=hon.k hg2.k;clear ho ht;have ho:=ho2;have ht:=ht2;clear ho2 hg2 ht2 Bz;have Bz:=zr V12;clear pa0 pa1 pa2 pa3 pa4 pB0 pB1 pB2 pB3 fB0 fB1 fB2 fB3 y51;go_wp2_with fail
     go_roundg (nm-(j+1))
     case measure=>have:=HGJ.out;omega
     case rel=>exact⟨j+1,_,zo,rfl,by go_num,OwnR.below ho,OwnR.below ht,AllRn.below hfr,HD2.out _ rfl,OnT.below hon,bT (bT hB Bz)⟩
  ·obtain rfl:j=nm:=zo;have j1:¬(j:Int)<(j:Int):=zo;have HDN:Hid (D0.map (fun x=>x.q)=denseF P m):=zh (by
    have h9:=HD.out;rw[qA (by rw[HTL.out];exact cA _)] at h9;rw[h9.done HDL.out,HEP.out,denseF_nrm])
   have HSL:=zh ho;have HFR:=zh hfr;clear ho ht hfr hon;go_wp2_with fail
   go_ret
   exact⟨_,D0,rfl,HSL.out,HFR.out,HDN.out,hB⟩
theorem store3 {w:World} {b:Nat} {t:TypeId} {u0 u1 u2:Value} (v0 v1 v2:Value) (h0:Bx w b #[u0,u1,u2] t) (n0:∀n,u0≠.int .u64 n) (n1:∀n,u1≠.int .u64 n) (n2:∀n,u2≠.int .u64 n) :
  ∃W,W=((w.setCell ⟨b,0,none⟩ v0).setCell ⟨b,1,none⟩ v1).setCell ⟨b,2,none⟩ v2∧Bx W b #[v0,v1,v2] t∧K64 w W∧(∀b' cs t',b'≠b→Bx w b' cs t'→Bx W b' cs t')∧(∀B w0,B≤b→Below B w0 w→Below B w0 W):=by
 have h1:Bx (w.setCell ⟨b,0,none⟩ v0) b #[v0,u1,u2] t:=h0.set 0 v0;have h2:Bx ((w.setCell ⟨b,0,none⟩ v0).setCell ⟨b,1,none⟩ v1) b #[v0,v1,u2] t:=h1.set 1 v1;have h3:Bx (((w.setCell ⟨b,0,none⟩ v0).setCell ⟨b,1,none⟩ v1).setCell ⟨b,2,none⟩ v2) b #[v0,v1,v2] t:=h2.set 2 v2;have k0:K64 (w) (w.setCell ⟨b,0,none⟩ v0):=K64.box h0 (i:=0) rfl n0 v0;have k1:K64 (w.setCell ⟨b,0,none⟩ v0) ((w.setCell ⟨b,0,none⟩ v0).setCell ⟨b,1,none⟩ v1):=K64.box h1 (i:=1) rfl n1 v1;have k2:K64 ((w.setCell ⟨b,0,none⟩ v0).setCell ⟨b,1,none⟩ v1) (((w.setCell ⟨b,0,none⟩ v0).setCell ⟨b,1,none⟩ v1).setCell ⟨b,2,none⟩ v2):=K64.box h2 (i:=2) rfl n2 v2;exact⟨_,rfl,h3,((k0.trans k1).trans k2),fun b' cs t' hb hx=>(((hx.far hb v0).far hb v1).far hb v2),fun B w0 hB hb=>(((hb.setCell hB v0).setCell hB v1).setCell hB v2)⟩
def bls (b:Bool):List Value:=[.bool b]
theorem bls_len (b:Bool):(bls b).length=1:=rfl
theorem elt_bls:Elt bls 1 91 4:=Elt.of (.bool false) 1 Tryz.underlying91 (by kernel_rfl) zo (by kernel_rfl) (nou_list (by kernel_rfl)) bls_len (fun x u hu=>by simp[bls] at hu;subst hu;rfl) (fun x u hu n=>by simp[bls] at hu;subst hu;simp)
theorem bl_zero {i:TypeInfo} {z:Value} (h:Tryz.prog.info? 4=some i) (hz:i.zero=some z):z.cells.toList=bls false:=by
 have h1:(Tryz.prog.info? 4).map (fun i=>i.zero)=some (some (.bool false)):=by kernel_rfl
 rw[h,eF,hz] at h1;obtain rfl:z=.bool false:=by simpa using h1
 rfl
theorem bl_store {w:World} {B g n cap i:Nat} {L:List Bool} (h:OwnR w B 4 1 (.slice (some ⟨g,0,none⟩) n cap) n (flat bls L)) {y:Bool} (hy:L[i]?=some y) (x:Bool) :
  ∃V,V=w.setCell ⟨g,i,none⟩ (.bool x)∧OwnR V B 4 1 (.slice (some ⟨g,0,none⟩) n cap) n (flat bls (L.set i x))∧Grew w V (.slice (some ⟨g,0,none⟩) n cap) (.slice (some ⟨g,0,none⟩) n cap):=by
 have:=elt_bls.sets h hy (y:=x) [(0,.bool x)] (fun p hp=>by simp at hp;subst hp;exact⟨by simp,by simp⟩) rfl;refine⟨_,rfl,?_⟩;have e:setsW w g (i*1) [(0,.bool x)]=w.setCell ⟨g,i,none⟩ (.bool x):=by simp[setsW]
 rw[e] at this;exact this
theorem bl_cell {w:World} {B g n cap i:Nat} {L:List Bool} (h:OwnR w B 4 1 (.slice (some ⟨g,0,none⟩) n cap) n (flat bls L)) {y:Bool} (hy:L[i]?=some y):w.cell? ⟨g,i,none⟩=some (.bool y):=by
 have:=elt_bls.cell h hy (j:=0) (u:=.bool y) zo rfl;simpa using this
theorem Sl.grown {α:Type} {f:α→List Value} {k:Nat} {w w':World} {n c:Nat} {A:Option Addr} {L:List α} {row:Option Nat} (h:Sl f k w A n c L) (hg:w.grownBy w' row) (ha:∀a,A=some a→some a.block≠row):Sl f k w' A n c L:=by
 obtain⟨h1,h2,A',c',e,h3,h4⟩:=h;cases e;exact⟨h1,h2,A,c,rfl,h3,fun a ea j u hu=>hg.cell (h4 a ea j u hu) (by rw[show(a.add j).block=a.block from by unfold Addr.add;split<;>rfl];exact ha a ea)⟩
def VOff (g:Nat) (v:Vc):Prop:=∀a,v.A=some a→a.block≠g
theorem CN.grown {w w':World} {g M:Nat} {v:Vc} {x y:Value} (h:CN w v M) (hg:Grew w w' x y) (hx:x.ownBlock=some g) (hv:VOff g v):CN w' v M :=
 ⟨h.1.grown hg.by_ fun a ha e=>hv a ha (by rw[hx] at e;exact Option.some.inj e),h.2.1.k hg.k,h.2.2⟩
theorem VOff.new {w:World} {g:Nat} {A:Option Addr} {n c:Nat} {L:List Tm} (hg:g<w.heap.size) (h:∀a,A=some a→w.heap.size≤a.block):VOff g ⟨A,n,c,L⟩:=fun a ha e=>by have:=h a ha;omega
structure RS (w:World) (B g n:Nat) (V:List Vc) (M:Nat):Prop where
 out:OwnR w B 35 1 (.slice (some ⟨g,0,none⟩) n n) n (flat Vc.cs V)
 cn:∀v∈V,CN w v M∧VOff g v
theorem RS.below {w w':World} {B g n M:Nat} {V:List Vc} (h:RS w B g n V M) (hb:Below w.heap.size w w':=by go_grown):RS w' B g n V M:=⟨h.out.below hb,fun v hv=>⟨(h.cn v hv).1.below hb,(h.cn v hv).2⟩⟩
theorem RS.len {w:World} {B g n M:Nat} {V:List Vc} (h:RS w B g n V M):V.length=n:=h.out.eltn elt_vcs zo
theorem RS.lt {w:World} {B g n M:Nat} {V:List Vc} (h:RS w B g n V M):g<w.heap.size:=h.out.lt g rfl
theorem RS.base {w:World} {B g n M:Nat} {V:List Vc} (h:RS w B g n V M):B≤g:=h.out.base g rfl
theorem RS.sl {w:World} {B g n M:Nat} {V:List Vc} (h:RS w B g n V M):Sl Vc.cs 1 w (some ⟨g,0,none⟩) n n V:=h.out.sl' elt_vcs h.len
theorem RS.grown {w w':World} {B g n M:Nat} {V:List Vc} {x y:Value} (h:RS w B g n V M) (hg:Grew w w' x y) (hx:∀b,x.ownBlock=some b→b≠g∧∀v∈V,VOff b v):RS w' B g n V M:=by
 refine⟨h.out.grown hg ?_,fun v hv=>⟨?_,(h.cn v hv).2⟩⟩
 ·cases e:x.ownBlock with
  | none=>exact .inr (by intro c;cases c)
  | some b=>exact .inr (by intro c;exact(hx b e).1 (Option.some.inj c).symm)
 ·cases e:x.ownBlock with
  | none=>exact⟨(h.cn v hv).1.1.grown hg.by_ (by rw[e];intro a _ c;cases c),(h.cn v hv).1.2.1.k hg.k,(h.cn v hv).1.2.2⟩
  | some b=>exact(h.cn v hv).1.grown hg e ((hx b e).2 v hv)
theorem RS.store {w:World} {B g n M i:Nat} {V:List Vc} (h:RS w B g n V M) {y:Vc} (hy:V[i]?=some y) {x:Vc} (hx:CN w x M) (ho:VOff g x) :
  ∃W,W=w.setCell ⟨g,i,none⟩ (.slice x.A x.n x.c)∧RS W B g n (V.set i x) M∧Grew w W (.slice (some ⟨g,0,none⟩) n n) (.slice (some ⟨g,0,none⟩) n n):=by
 obtain⟨W,hW,h1,h2⟩:=vc_store h.out hy x;refine⟨W,hW,⟨h1,fun v hv=>?_⟩,h2⟩;rcases kC hv with hv | rfl
 ·exact⟨(h.cn v hv).1.grown h2 rfl (h.cn v hv).2,(h.cn v hv).2⟩
 ·exact⟨hx.grown h2 rfl ho,ho⟩
structure KP (Z:Nat→Prop) (w w':World):Prop where
 size:w.heap.size≤w'.heap.size
 k:K64 w w'
 blk:∀b,b<w.heap.size→¬Z b→w'.heap[b]?=w.heap[b]?
section
variable {Z:Nat→Prop} {w0 w w':World}
theorem KP.refl (Z:Nat→Prop) (w:World):KP Z w w:=⟨cA _,K64.below (Below.refl _ _),fun _ _ _=>rfl⟩
theorem KP.below (h:KP Z w0 w) (hb:Below w.heap.size w w':=by go_grown):KP Z w0 w' :=
 ⟨nA h.size hb.size,h.k.trans (K64.below hb),fun b hl hz=>(hb.block b (eB hl h.size)).trans (h.blk b hl hz)⟩
theorem KP.trans {w'':World} (h:KP Z w w') (h':KP Z w' w''):KP Z w w'' :=
 ⟨nA h.size h'.size,h.k.trans h'.k,fun b hl hz=>(h'.blk b (eB hl h.size) hz).trans (h.blk b hl hz)⟩
theorem KP.mono {Z':Nat→Prop} (h:KP Z w w') (hz:∀b,b<w.heap.size→Z b→Z' b):KP Z' w w':=⟨h.size,h.k,fun b hl hn=>h.blk b hl fun c=>hn (hz b hl c)⟩
theorem KP.of_below (Z:Nat→Prop) (hb:Below w.heap.size w w'):KP Z w w':=(KP.refl Z w).below hb
theorem KP.after (hb:Below w0.heap.size w0 w) (h:KP Z w w'):KP Z w0 w' :=
 ⟨nA hb.size h.size,(K64.below hb).trans h.k,fun b hl hz=>(h.blk b (eB hl hb.size) hz).trans (hb.block b hl)⟩
theorem KP.grew {x y:Value} (h:KP Z w0 w) (hg:Grew w w' x y) (hx:∀b,x.ownBlock=some b→b<w0.heap.size→Z b):KP Z w0 w' :=
 ⟨nA h.size hg.size,h.k.trans hg.k,fun b hl hz=>(hg.by_.block b (eB hl h.size) (fun e=>hz (hx b e.symm hl))).trans (h.blk b hl hz)⟩
theorem KP.set {c:Nat} (h:KP Z w0 w) (hs:w.heap.size≤w'.heap.size) (hk:K64 w w') (ho:∀k,k≠c→w'.heap[k]?=w.heap[k]?) (hc:c<w0.heap.size→Z c):KP Z w0 w' :=
 ⟨nA h.size hs,h.k.trans hk,fun b hl hz=>(ho b (fun e=>hz (by subst e;exact hc hl))).trans (h.blk b hl hz)⟩
theorem KP.bx (h:KP Z w w') {b:Nat} {cs:Array Value} {t:TypeId} (hb:Bx w b cs t) (hz:¬Z b):Bx w' b cs t:=(h.blk b hb.lt hz).trans hb
theorem KP.own (h:KP Z w w') {B n size:Nat} {e:TypeId} {v:Value} {xs:List Value} (ho:OwnR w B e size v n xs) (hz:∀b,v.ownBlock=some b→¬Z b):OwnR w' B e size v n xs:=by
 obtain⟨h1,h2 | ⟨g,cap,cur,rfl,a2,a3,a4⟩⟩:=ho
 ·exact⟨h1,.inl h2⟩
 ·exact⟨h1,.inr ⟨g,cap,cur,rfl,a2,h.bx a3 (hz g rfl),a4⟩⟩
theorem cell_heap {w w':World} {p:Addr} (h:w'.heap[p.block]?=w.heap[p.block]?):w'.cell? p=w.cell? p:=by
 unfold World.cell?
 rw[h]
theorem KP.cell (h:KP Z w w') {p:Addr} {u:Value} (hp:w.cell? p=some u) (hz:¬Z p.block):w'.cell? p=some u :=
 (cell_heap (h.blk p.block (World.block_lt_of_cell? w p hp) hz)).trans hp
theorem KP.ela (h:KP Z w w') {b off:Nat} {cs:List Value} (hs:ElA w b off cs) (hz:¬Z b):ElA w' b off cs:=fun i u hu=>h.cell (hs i u hu) hz
theorem KP.sl {α:Type} {f:α→List Value} {k:Nat} {A:Option Addr} {n c:Nat} {L:List α} (h:KP Z w w') (hs:Sl f k w A n c L) (hz:∀a,A=some a→¬Z a.block):Sl f k w' A n c L:=by
 obtain⟨h1,h2,A',c',e,h3,h4⟩:=hs;cases e;exact⟨h1,h2,A,c,rfl,h3,fun a ea j u hu=>h.cell (h4 a ea j u hu) (by rw[show(a.add j).block=a.block from by unfold Addr.add;split<;>rfl];exact hz a ea)⟩
end
def OVs (w:World) (B M:Nat) (V:List Vc):Prop:=∀v∈V,OwnR w B 32 5 (vsl v) v.n (flat Tm.cs v.L)∧OnT w v.L (fun _=>M)
theorem OVs.below {w w':World} {B M:Nat} {V:List Vc} (h:OVs w B M V) (hb:Below w.heap.size w w':=by go_grown):OVs w' B M V:=fun v hv=>⟨(h v hv).1.below hb,(h v hv).2.below hb⟩
theorem OVs.kp {Z:Nat→Prop} {w w':World} {B M:Nat} {V:List Vc} (h:OVs w B M V) (hk:KP Z w w') (hz:∀v∈V,∀b,(vsl v).ownBlock=some b→¬Z b):OVs w' B M V :=
 fun v hv=>⟨hk.own (h v hv).1 (hz v hv),(h v hv).2.k hk.k⟩
theorem OVs.mono {w:World} {B M M':Nat} {V:List Vc} (h:OVs w B M V) (hM:M≤M'):OVs w B M' V:=fun v hv=>⟨(h v hv).1,(h v hv).2.mono fun _ _=>hM⟩
theorem own_cn {w:World} {B M:Nat} {v:Vc} (h1:OwnR w B 32 5 (vsl v) v.n (flat Tm.cs v.L)) (h2:OnT w v.L (fun _=>M)):CN w v M:=by
 refine⟨h1.sl' elt_vec (h1.eltn elt_vec zo),h2,fun e=>?_⟩;obtain⟨H,c,e9,h9,_⟩:=h1.slice;unfold vsl at e9
 cases e9;exact(h9 e).2
theorem OVs.cn {w:World} {B M:Nat} {V:List Vc} (h:OVs w B M V) {v:Vc} (hv:v∈V):CN w v M:=own_cn (h v hv).1 (h v hv).2
theorem own_lt {w:World} {B M b:Nat} {V:List Vc} (h:OVs w B M V) {v:Vc} (hv:v∈V) (hb:(vsl v).ownBlock=some b):b<w.heap.size:=(h v hv).1.lt b hb
def ApV (X:Value) (V:List Vc):Prop:=∀v∈V,Ap (vsl v) X
theorem Ap.block {u v:Value} (h:Ap u v) {b:Nat} (hu:u.ownBlock=some b):v.ownBlock≠some b:=fun e=>by
 rcases h with h | h
 ·rw[hu] at h;cases h
 ·exact h (hu.trans e.symm)
theorem Ap.ne {u v:Value} (h:Ap u v) {b:Nat} (hv:v.ownBlock=some b):some b≠u.ownBlock:=fun e=>by
 rcases h with h | h
 ·rw[←e] at h;cases h
 ·exact h (e.symm.trans hv.symm)
theorem Ap.old {w w':World} {B n k B' n' k':Nat} {e e':TypeId} {u v:Value} {xs ys:List Value} (hu:OwnR w B e k u n xs) (hv:OwnR w' B' e' k' v n' ys) (h:w.heap.size≤B'):Ap u v:=by
 cases e1:u.ownBlock with
 | none=>exact .inl e1
 | some b=>exact .inr fun e2=>by have h1:=hu.lt b e1;have h2:=hv.base b (e2.symm.trans e1);omega
structure RO (w:World) (B g n:Nat) (V:List Vc) (M:Nat):Prop where
 out:OwnR w B 35 1 (.slice (some ⟨g,0,none⟩) n n) n (flat Vc.cs V)
 row:OVs w B M V
 ap:ApV (.slice (some ⟨g,0,none⟩) n n) V
section
variable {w w':World} {B g n M:Nat} {V:List Vc}
theorem RO.len (h:RO w B g n V M):V.length=n:=h.out.eltn elt_vcs zo
theorem RO.base (h:RO w B g n V M):B≤g∧g<w.heap.size:=⟨h.out.base g rfl,h.out.lt g rfl⟩
theorem RO.below (h:RO w B g n V M) (hb:Below w.heap.size w w':=by go_grown):RO w' B g n V M:=⟨h.out.below hb,h.row.below hb,h.ap⟩
theorem RO.mono {M':Nat} (h:RO w B g n V M) (hM:M≤M'):RO w B g n V M':=⟨h.out,h.row.mono hM,h.ap⟩
theorem RO.sl (h:RO w B g n V M):Sl Vc.cs 1 w (some ⟨g,0,none⟩) n n V:=h.out.sl' elt_vcs h.len
theorem RO.kp {Z:Nat→Prop} (h:RO w B g n V M) (hk:KP Z w w') (hg:¬Z g) (hz:∀v∈V,∀b,(vsl v).ownBlock=some b→¬Z b):RO w' B g n V M :=
 ⟨hk.own h.out (fun b e=>by cases e;exact hg),h.row.kp hk hz,h.ap⟩
theorem RO.grown {x y:Value} (h:RO w B g n V M) (hg:Grew w w' x y) (hx:x.ownBlock≠some g) (hv:ApV x V):RO w' B g n V M :=
 ⟨h.out.grown hg (.inr fun e=>hx e.symm),fun v hm=>⟨(h.row v hm).1.grown hg (hv v hm),(h.row v hm).2.k hg.k⟩,h.ap⟩
theorem ApV.grew {x y:Value} (h:ApV x V) (hr:OVs w B M V) (hg:Grew w w' x y):ApV y V:=fun v hm=>hg.ap (hr v hm).1 (h v hm)
theorem RO.far2 {b:Nat} (h:RO w B g n V M) (far:∀b' cs t',b'≠b→Bx w b' cs t'→Bx w' b' cs t') (hk:K64 w w') (hb:b≠g) (hv:∀v∈V,some b≠(vsl v).ownBlock):RO w' B g n V M :=
 ⟨h.out.far2 far (fun e=>hb (Option.some.inj e)),fun v hm=>⟨(h.row v hm).1.far2 far (hv v hm),(h.row v hm).2.k hk⟩,h.ap⟩
theorem RO.store {i:Nat} (h:RO w B g n V M) {y:Vc} (hy:V[i]?=some y) {x:Vc} (hx:OwnR w B 32 5 (vsl x) x.n (flat Tm.cs x.L)) (ho:OnT w x.L (fun _=>M)) (ha:Ap (vsl x) (.slice (some ⟨g,0,none⟩) n n)) :
  ∃W,W=w.setCell ⟨g,i,none⟩ (.slice x.A x.n x.c)∧RO W B g n (V.set i x) M∧Grew w W (.slice (some ⟨g,0,none⟩) n n) (.slice (some ⟨g,0,none⟩) n n):=by
 obtain⟨W,hW,h1,h2⟩:=vc_store h.out hy x;have hm:∀v∈V.set i x,v∈V∨v=x:=fun v hv=>kC hv;refine⟨W,hW,⟨h1,fun v hv=>?_,fun v hv=>?_⟩,h2⟩
 ·rcases hm v hv with hv | rfl
  ·exact⟨(h.row v hv).1.grown h2 (h.ap v hv),(h.row v hv).2.k h2.k⟩
  ·exact⟨hx.grown h2 ha,ho.k h2.k⟩
 ·rcases hm v hv with hv | rfl
  ·exact h.ap v hv
  ·exact ha
theorem TS.ro {X:Value} {nx:Nat} {xs:List Value} (h:TS w B g n X nx xs V M):RO w B g n V M:=⟨h.out,h.row,fun v hv=>(h.og v hv).1.symm⟩
end
theorem own_gv {w:World} {B M n c:Nat} {A:Option Addr} {L:List Tm} {P:List (Int×Rat)} (h1:OwnR w B 32 5 (.slice A n c) n (flat Tm.cs L)) (h2:OnT w L (fun _=>M)) (e:prs L=P) (hr:Rise P):GV w A n c P (M+1):=by
 subst e;exact(own_cn (v:=⟨A,n,c,L⟩) h1 h2).nv.gv hr
theorem OVs.gv {w:World} {B M:Nat} {V:List Vc} (h:OVs w B M V) {v:Vc} (hv:v∈V) (hr:Rise (prs v.L)):GV w v.A v.n v.c (prs v.L) (M+1):=(h.cn hv).nv.gv hr
theorem own_len {w:World} {B n c:Nat} {A:Option Addr} {L:List Tm} (h1:OwnR w B 32 5 (.slice A n c) n (flat Tm.cs L)):(prs L).length=n:=by rw[zAh];exact h1.eltn elt_vec zo
theorem rest_len (P:List (Int×Rat)) (co:Int):(restF P co).length≤P.length+1:=by
 unfold restF
 have h1:=nrm_len ((P.filter fun x=>decide (x.1≠co))++[(co,(0:Rat))]);have h2:=List.length_filter_le (fun x:Int×Rat=>decide (x.1≠co)) P;rw[gC,List.length_singleton] at h1;omega
theorem on_sz {w:World} {M:Nat} {L:List Tm} (h:OnT w L (fun _=>M)) (hr:Rise (prs L)) (hM:2≤M) (a:Int):sz (pget (prs L) a)+1≤M:=by
 by_cases e:pget (prs L) a=0
 ·rw[e];have:=sz_zero;omega
 ·obtain⟨t,ht,rfl⟩:=pget_mem e;rw[hr.get ht];obtain⟨u,hu,rfl⟩:=prs_mem ht;exact(h u hu).2.2
theorem rowB {B g n c:Nat} (h:B≤g):∀t,(Value.slice (some ⟨g,0,none⟩) n c).ownBlock=some t→B≤t:=fun t e=>by cases e;exact h
theorem rowN {b g n c:Nat} (h:b≠g):some b≠(Value.slice (some ⟨g,0,none⟩) n c).ownBlock:=fun e=>h (by cases e;rfl)
def CW (w:World) (A:Option Addr) (n c:Nat) (C:List (List (Int×Rat))) (M:Nat):Prop :=
 ∃CL:List Vc,Sl Vc.cs 1 w A n c CL∧(∀v∈CL,GV w v.A v.n v.c (prs v.L) M)∧CL.map (fun v=>prs v.L)=C
def CM (w:World) (A:Option Addr) (n c:Nat) (C:List (List (Int×Rat))) (M:Nat):Prop :=
 ∃CL:List Vc,Sl Vc.cs 1 w A n c CL∧(∀v∈CL,CN w v M)∧CL.map (fun v=>prs v.L)=C
theorem CW.below {w w':World} {A:Option Addr} {n c M:Nat} {C:List (List (Int×Rat))} (h:CW w A n c C M) (hb:Below w.heap.size w w':=by go_grown):CW w' A n c C M:=by
 obtain⟨CL,h1,h2,h3⟩:=h;exact⟨CL,h1.below hb,fun v hv=>(h2 v hv).below hb,h3⟩
theorem CM.below {w w':World} {A:Option Addr} {n c M:Nat} {C:List (List (Int×Rat))} (h:CM w A n c C M) (hb:Below w.heap.size w w':=by go_grown):CM w' A n c C M:=by
 obtain⟨CL,h1,h2,h3⟩:=h;exact⟨CL,h1.below hb,fun v hv=>(h2 v hv).below hb,h3⟩
theorem CW.len {w:World} {A:Option Addr} {n c M:Nat} {C:List (List (Int×Rat))} (h:CW w A n c C M):C.length=n:=by
 obtain⟨CL,h1,_,rfl⟩:=h;rw[nB,h1.1]
theorem CM.len {w:World} {A:Option Addr} {n c M:Nat} {C:List (List (Int×Rat))} (h:CM w A n c C M):C.length=n:=by
 obtain⟨CL,h1,_,rfl⟩:=h;rw[nB,h1.1]
theorem CM.cw {w:World} {A:Option Addr} {n c M:Nat} {C:List (List (Int×Rat))} (h:CM w A n c C M) (hr:∀x∈C,Rise x):CW w A n c C (M+1):=by
 obtain⟨CL,h1,h2,rfl⟩:=h;exact⟨CL,h1,fun v hv=>(h2 v hv).nv.gv (hr _ (uC (f:=fun v:Vc=>prs v.L) hv)),rfl⟩
theorem idx_len (l:List Rat):(idxP l).length=l.length:=List.length_mapIdx
theorem leftC {w:World} {X A:Option Addr} {nx cx n c:Nat} {P:List (Int×Rat)} {C:List (List (Int×Rat))} (M MC N K NN:Nat) (hx:GV w X nx cx P M) (h:CW w A n c C MC) (hnx:nx≤N) (hC:∀x∈C,x.length≤1000) (hn:n≤NN) (hNN:NN≤1000000)
  (hK:∀x∈C,sz (pdot (nrm P) x)≤K) (hK0:1≤K) (hK1:N*(M+1+MC+3)≤15000000000) (hK2:K≤15000000000) (hM:M≤14000000000) (hMC:MC≤14000000000) (hN:N≤1000) (hT:Hid (Tab w)) :
  Calls Tryz.prog 44 #[.slice X nx cx,.slice A n c] w (TellsW w (nrm (idxP (C.map fun x=>pdot P x))) (K+2) NN):=by
 have hln:=h.len;obtain⟨CL,h1,h2,rfl⟩:=h;have e:(CL.map (fun v=>prs v.L)).map (fun x=>pdot P x)=CL.map fun v=>pdot P (prs v.L):=by rw[List.map_map];rfl
 rw[e];refine(leftW M MC N K hx hnx h1 (zh fun v hv=>?_) zo (zh fun v hv=>hK _ (uC (f:=fun v:Vc=>prs v.L) hv)) hK0 hK1 hK2 hM hMC hN hT).mono fun _ _ k=>k.w (cA _) (nA (nrm_len _) (by rw[idx_len,nB];rw[nB] at hln;omega));have h3:=hC _ (uC (f:=fun v:Vc=>prs v.L) hv);have h4:=(h2 v hv).len;exact⟨h2 v hv,zo⟩
end Go.Proofs.YtfpbmpllildbaaaGreatDoor
