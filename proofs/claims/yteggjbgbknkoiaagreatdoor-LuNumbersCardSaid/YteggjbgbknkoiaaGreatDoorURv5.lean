import Derived.Test.YteggjbgbknkoiaaGreatDoorUPg
import Derived.Test.YteggjbgbknkoiaaGreatDoorUCp0
import Derived.Test.YteggjbgbknkoiaaGreatDoorULu10
set_option maxHeartbeats 16000000
set_option maxRecDepth 100000
namespace Go.Proofs.YteggjbgbknkoiaaGreatDoor
open Go.RowKit Tw
variable {K M b g tc:Nat} {L:List Fr} {x:Fr} {A:Option Addr} {w':World} {H':Value}
theorem AllRn.snoc {w:World} (h:AllRn w K L) (hx:RN w x.s x.A x.c x.l x.s' x.A' x.c' x.l' x.q∧x.ex=true∧sz x.q+1≤K):AllRn w K (L++[x]):=fun y hy=>by
 rcases bC.1 hy with hy | hy
 ·exact h y hy
 ·rw[cC.1 hy];exact hx
def RRi (L Y:List Tm) (kn:Int) (i:Nat):Prop:=∀(j:Nat) x y,j<i→L[j]?=some x→Y[j]?=some y→x.at_=y.at_∧0≤x.at_∧x.at_<kn∧x.x.ex=true∧x.x.q=y.x.q
theorem RRi.step {L Y:List Tm} {kn:Int} {i:Nat} {x y:Tm} (h:RRi L Y kn i) (hx:L[i]?=some x) (hy:Y[i]?=some y) (ha:x.at_=y.at_∧0≤x.at_∧x.at_<kn∧x.x.ex=true∧x.x.q=y.x.q):RRi L Y kn (i+1):=fun j u v hj hu hv=>by
 rcases kB j i with h1 | h1
 ·exact h j u v h1 hu hv
 ·obtain rfl:j=i:=zo;rw[hx,Option.some.injEq] at hu;rw[hy,Option.some.injEq] at hv;rw[←hu,←hv];exact ha
theorem offF_snoc {L':List Fr} {i:Nat} {y:Fr} (q:Rat) (hx:L[i]?=some x) (hy:L'[i]?=some y):(offF (L.map fun x=>x.q) q (L'.map fun x=>x.q)).take (i+1)=(offF (L.map fun x=>x.q) q (L'.map fun x=>x.q)).take i++[x.q-q*y.q]:=by
 have h:(offF (L.map fun x=>x.q) q (L'.map fun x=>x.q))[i]?=some (x.q-q*y.q):=by
  unfold offF
  rw[List.getElem?_zipWith,rA,rA,hx,hy];rfl
 rw[fG,h];rfl
def TellsFO (w:World) (l:List Rat) (n K:Nat) (e:Ending) (w':World):Prop:=∃H c D,e=.returned (.slice H n c)∧OwnR w' w.heap.size 30 4 (.slice H n c) n (flat Fr.cs D)∧AllRn w' K D∧D.map (fun x=>x.q)=l∧Below w.heap.size w w'
def OFr1 (w:World) (tv:Array Value) (l:List Rat) (K n gk:Nat) (s7 s8:Value) (wr:World):Prop :=
 ∃(i:Nat) (H:Option Addr) (hc:Nat) (D:List Fr),s7=.slice H i hc∧s8=.int .i64 (i:Int)∧i≤n∧n-i=gk∧OwnR wr (w.heap.size+1) 30 4 (.slice H i hc) i (flat Fr.cs D)∧D.map (fun x=>x.q)=l.take i∧AllRn wr K D∧Bx wr w.heap.size tv 30∧Below w.heap.size w wr
theorem off_q {w:World} {A' TA TA':Option Addr} {n c n' c' tl tl' tc':Nat} {ts ts':Bool} {L':List Fr} {q:Rat} {K1 K2 mq:Nat} (h:Sl Fr.cs 4 w A n c L) (h':Sl Fr.cs 4 w A' n' c' L') (hL:Hid (AllRn w K1 L)) (hL':Hid (AllRn w K2 L')) (ht0:RN w ts TA tc tl ts' TA' tc' tl' q) (hq:sz q≤mq) (hnn:n≤n') (hn:n≤19)
  (hK:Hid (∀(i:Nat) (x y:Fr),L[i]?=some x→L'[i]?=some y→sz (x.q-q*y.q)+1≤K)) (hm:K1+(mq+K2)≤6900) :
  Calls Tryz.prog 48 #[.slice A n c,.agg #[.bool ts,.slice TA tl tc,.bool ts',.slice TA' tl' tc'],.slice A' n' c'] w (TellsFO w (offF (L.map fun x=>x.q) q (L'.map fun x=>x.q)) n K):=by
 have HS:=zh h;have HS':=zh h';have HLN:=zh h.1;have HLN':=zh h'.1;have HTS:=zh hq;have HT0:=zh ht0;clear h h' ht0;obtain⟨W,hW,x0,hB⟩:=zAe w #[.bool ts,.slice TA tl tc,.bool ts',.slice TA' tl' tc'] 30;have HX0:=zh x0;clear x0;have Bz:=zr W;go_enter Tryz.func48,Tryz.ntmps48
 go_wp2_with fail
 rw[←hW];clear hW;go_wp2_with fail
 clear Bz;go_loopg [7,8] n (fun gk s7 s8 wr=>OFr1 w #[.bool ts,.slice TA tl tc,.bool ts',.slice TA' tl' tc'] (offF (L.map fun x=>x.q) q (L'.map fun x=>x.q)) K n gk s7 s8 wr)
 case atStart=>exact⟨0,none,0,[],rfl,rfl,nA _,rfl,OwnR.nil _ _ _ _,rfl,(fun x hx=>by cases hx),HX0.out.below (by go_grown),bT hB⟩
 case round =>
  clear HX0 hB;obtain⟨i,H,hc,D,rfl,rfl,hi,hgk,ho,hd,hfr,hx0,hB⟩:=hrel;have HGK:=zh hgk;have HD:=zh hd;have HX0:=zh hx0;clear hgk hd hx0;by_cases hlt:i<n
  ·obtain⟨b,off,rfl,hel⟩:=HS.out.at Fr.cs_len zo zo;obtain⟨b',off',rfl,hel'⟩:=HS'.out.at Fr.cs_len zo zo;obtain⟨x,hlx⟩:∃x,L[i]?=some x:=⟨_,aA (by rw[HLN.out];exact hlt)⟩;obtain⟨y,hly⟩:∃y,L'[i]?=some y:=⟨_,aA (by rw[HLN'.out];omega)⟩;have hnd:=hel i x hlx;have hnd':=hel' i y hly;have hx:=(hL.out x (dA hlx)).1.below hB;have hy:=(hL'.out y (dA hly)).1.below hB;have ht:=HT0.out.below hB;have HXS:Hid (sz x.q+1≤K1):=zh (hL.out x (dA hlx)).2.2;have HYS:Hid (sz y.q+1≤K2):=zh (hL'.out y (dA hly)).2.2;have HPS:Hid (sz (q*y.q)≤mq+K2):=zh (sz_mul HTS.out (Nat.le_of_succ_le HYS.out));have HKS:Hid (sz (x.q-q*y.q)+1≤K):=zh (hK.out i x y hlx hly);have HLX:=zh hlx;have HLY:=zh hly;have i1:(i:Int)<(n:Int):=zo;have i2:(0:Int)≤(i:Int):=zo;have i3:(i:Int)<(n':Int):=zo;clear hel hel' hlx hly;have Bz:=zr wr;obtain⟨pa0,pa1,pa2,pa3,-⟩:=(zxb HX0 Bz).cz;obtain⟨pA0,pA1,pA2,pA3,-⟩:=(hnd.below (bT hB Bz)).ez;obtain⟨pB0,pB1,pB2,pB3,-⟩:=(hnd'.below (bT hB Bz)).ez;go_wp2_with fail
   (try simp only[vAa,vBa,vC])
   refine zl (.pure 0 (.pure 1 (.pure 2 (.pure 3 (zz [4,5] (.pure 6 (.pure 7 (.pure 8 (.take 9 (.only 10 (.only 11 (.only 12 (.only 13 (.pure 14 .done)))))))))))))) [13] (zsa pa0 (zsa pa1 (zsa pa2 (zsa pa3 (zsa pA0 (zsa pA1 (zsa pA2 (zsa pA3 (zsa pB0 (zsa pB1 (zsa pB2 (zIa pB3)))))))))))) ?_;iterate 10 ((first|refine zV ?_|refine zUa ?_);try simp only[uW,uX,uY,uZ])
   refine zC 25 rfl rfl (fun K hK=>?_);go_simp
   with_reducible refine(mul_r4 (RN.r' (RN.below ht) HTS.out) (RN.r' (RN.below hy) (Nat.le_of_succ_le HYS.out)) zo).mono ?_
   rintro e w11 ⟨s11,A11,c11,l11,s11r,A11r,c11r,l11r,rfl,h11,z⟩;replace z:=zq (a:=wr) z;replace hfr:=hfr.below z;replace ho:=ho.below z;replace hx:=hx.below z;replace Bz:=bT Bz z;clear z;clear pa0 pa1 pa2 pa3 pA0 pA1 pA2 pA3 pB0 pB1 pB2 pB3;obtain⟨pa0,pa1,pa2,pa3,-⟩:=(zxb HX0 Bz).cz;obtain⟨pA0,pA1,pA2,pA3,-⟩:=(hnd.below (bT hB Bz)).ez;obtain⟨pB0,pB1,pB2,pB3,-⟩:=(hnd'.below (bT hB Bz)).ez;refine hK.out _ _ ⟨pa0,pa1,pa2,pa3,pA0,pA1,pA2,pA3,pB0,pB1,pB2,pB3⟩ (fun _=>?_);try simp only[uW,uX,uY,uZ]
   clear hK K;refine zC 26 rfl rfl (fun K hK=>?_);go_simp
   with_reducible refine(sub_r4 (RN.r' (RN.below hx) (Nat.le_of_succ_le HXS.out)) (RN.r' (RN.below h11) HPS.out) zo HPS.out).mono ?_
   rintro e w12 ⟨s12,A12,c12,l12,s12r,A12r,c12r,l12r,rfl,h12,z⟩;replace z:=zq (a:=w11) z;replace hfr:=hfr.below z;replace ho:=ho.below z;replace Bz:=bT Bz z;clear z;clear pa0 pa1 pa2 pa3 pA0 pA1 pA2 pA3 pB0 pB1 pB2 pB3;obtain⟨pa0,pa1,pa2,pa3,-⟩:=(zxb HX0 Bz).cz;obtain⟨pA0,pA1,pA2,pA3,-⟩:=(hnd.below (bT hB Bz)).ez;obtain⟨pB0,pB1,pB2,pB3,-⟩:=(hnd'.below (bT hB Bz)).ez;refine hK.out _ _ ⟨pa0,pa1,pa2,pa3,pA0,pA1,pA2,pA3,pB0,pB1,pB2,pB3⟩ (fun _=>?_);try simp only[uW,uX,uY,uZ]
   clear hK K;refine zC 27 rfl rfl (fun K hK=>?_);go_simp
   refine hK.out _ _ ⟨(zAd pa0),(zAd pa1),(zAd pa2),(zAd pa3),(zAd pA0),(zAd pA1),(zAd pA2),(zAd pA3),(zAd pB0),(zAd pB1),(zAd pB2),(zAd pB3)⟩ (fun _=>?_);try simp only[uW,uX,uY,uZ]
   clear hK K;refine zAc (o:=⟨some 28,_,_,_,_,_⟩) rfl rfl zd (fun K hK=>?_);obtain⟨V11,hW,x1,hN⟩:=zAe w12 #[.bool s12,.slice A12 l12 c12,.bool s12r,.slice A12r l12r c12r] 30;rw[←hW];clear hW;obtain⟨v1,hb1⟩:=ze w12.heap.size;rw[←hb1] at x1 ⊢;have ow_1:w.heap.size≤v1:=zi (zw hB Bz);have nv1_own:=OwnR.off' (b:=v1) ho zo;replace hfr:=hfr.below hN;replace h12:=h12.below hN;replace ho:=ho.below hN;replace hB:=bT (bT hB Bz) hN;replace HX0:=zba HX0 Bz hN;have HX1:=zh x1;clear x1 hN Bz hb1;have Bz:=zr V11;clear pa0 pa1 pa2 pa3 pA0 pA1 pA2 pA3 pB0 pB1 pB2 pB3;have hdr:V11.drew.heap.size=V11.heap.size:=rfl;have hdr2:V11.drew.drew.heap.size=V11.heap.size:=rfl;refine Elt.wp elt_frs (.tmp 15) (.tmp 27) rfl ((w.heap.size+1)) (.slice H i hc) (i) (D) rfl ho (.slice (some ⟨v1,0,none⟩) 1 1) (1) ([⟨s12,A12,c12,l12,s12r,A12r,c12r,l12r,x.q-q*y.q,true⟩]) rfl (From.one (HX1.out.below (bT Bz)) (⟨s12,A12,c12,l12,s12r,A12r,c12r,l12r,x.q-q*y.q,true⟩) rfl (elt_frs.len _)) zo (by have:=HX0.out.lt;have:=hB.size;have:=Bz.size;omega) ?_;intro H13 c13 w13 ho13 hg13;refine hK.out _ _ ?_;try simp only[uW,uX,uY,uZ]
   clear hK K;replace hB:=(bT (bT hB Bz)).trans (hg13.below (zi (zw hB Bz)) (fun g hg=>by have:=ho.base g hg;omega));replace HX0:=zh (hg13.bx (HX0.out.below (bT Bz)) (ho.off zo));clear HX1;clear hdr hdr2;replace hfr:=hfr.k hg13.k;replace h12:=h12.k hg13.k;clear hg13 Bz;have Bz:=zr w13;obtain⟨pa0,pa1,pa2,pa3,-⟩:=(zxb HX0 Bz).cz;obtain⟨pA0,pA1,pA2,pA3,-⟩:=(hnd.below (bT hB Bz)).ez;obtain⟨pB0,pB1,pB2,pB3,-⟩:=(hnd'.below (bT hB Bz)).ez;refine zV ?_;try simp only[uW,uX,uY,uZ]
   refine zAa ?_;go_wp2_with fail
   go_roundg (n-(i+1))
   case measure=>have:=HGK.out;omega
   case rel=>exact⟨i+1,_,_,_,rfl,by go_num,zo,rfl,OwnR.below ho13,by rw[jF,HD.out,offF_snoc q HLX.out HLY.out];rfl,AllRn.snoc (AllRn.below hfr) (AllRn.put (RN.below h12) HKS.out),HX0.out.below (by go_grown),bT (bT hB Bz)⟩
  ·obtain rfl:i=n:=zo;have i1:¬(i:Int)<(i:Int):=zo;have HO:=zh (ho.rebase (Nat.le_succ w.heap.size));have HFR:=zh hfr;clear ho hfr;go_wp2_with fail
   go_ret
   exact⟨H,hc,D,rfl,HO.out,HFR.out,by rw[HD.out];exact eA (by unfold offF;rw[List.length_zipWith,cB,cB,HLN.out,HLN'.out];omega),hB⟩
structure Fw where
 A:Option Addr
 n:Nat
 c:Nat
 L:List Fr
def Fw.cs (v:Fw):List Value:=[.slice v.A v.n v.c]
theorem Fw.cs_len (v:Fw):v.cs.length=1:=rfl
def Fw.q (v:Fw):List Rat:=v.L.map fun x=>x.q
def zFw:Fw:=⟨none,0,0,[]⟩
theorem elt_fws:Elt Fw.cs 1 82 49:=Elt.of (.slice none 0 0) 24 Tryz.underlying82 (by kernel_rfl) zo (by kernel_rfl) (nou_list (by kernel_rfl)) Fw.cs_len
 (fun x u hu=>by simp[Fw.cs] at hu;subst hu;rfl) (fun x u hu n=>by simp[Fw.cs] at hu;subst hu;simp)
theorem fw_zero {i:TypeInfo} {z:Value} (h:Tryz.prog.info? 49=some i) (hz:i.zero=some z):z.cells.toList=Fw.cs zFw:=by
 have h1:(Tryz.prog.info? 49).map (fun i=>i.zero)=some (some (.slice none 0 0)):=by kernel_rfl
 rw[h,cE,hz] at h1;obtain rfl:z=.slice none 0 0:=by simpa using h1
 rfl
theorem fw_store {w:World} {B n cap i:Nat} {V:List Fw} (h:OwnR w B 49 1 (.slice (some ⟨g,0,none⟩) n cap) n (flat Fw.cs V)) {y:Fw} (hy:V[i]?=some y) (x:Fw) :
  ∃W,W=w.setCell ⟨g,i,none⟩ (.slice x.A x.n x.c)∧OwnR W B 49 1 (.slice (some ⟨g,0,none⟩) n cap) n (flat Fw.cs (V.set i x))∧Grew w W (.slice (some ⟨g,0,none⟩) n cap) (.slice (some ⟨g,0,none⟩) n cap):=by
 have:=elt_fws.sets h hy (y:=x) [(0,.slice x.A x.n x.c)] (fun p hp=>by simp at hp;subst hp;exact⟨by simp,by simp⟩) rfl;have e:setsW w g (i*1) [(0,.slice x.A x.n x.c)]=w.setCell ⟨g,i,none⟩ (.slice x.A x.n x.c):=by simp[setsW]
 rw[e] at this;exact⟨_,rfl,this⟩
theorem fw_cell {w:World} {B n cap i:Nat} {V:List Fw} (h:OwnR w B 49 1 (.slice (some ⟨g,0,none⟩) n cap) n (flat Fw.cs V)) {y:Fw} (hy:V[i]?=some y):w.cell? ⟨g,i,none⟩=some (.slice y.A y.n y.c):=by
 have:=elt_fws.cell h hy (j:=0) (u:=.slice y.A y.n y.c) zo rfl;rwa [wC,jC] at this
def FOk (w:World) (v:Fw) (M:Nat):Prop:=Sl Fr.cs 4 w v.A v.n v.c v.L∧AllRn w M v.L
theorem FOk.below {w:World} {v:Fw} (h:FOk w v M) (hb:Below w.heap.size w w':=by go_grown):FOk w' v M:=⟨h.1.below hb,h.2.below hb⟩
theorem FOk.grow {w:World} {H:Value} {v:Fw} (h:FOk w v M) (h4:∀a,v.A=some a→a.block<w.heap.size∧some a.block≠H.ownBlock) (hg:Grew w w' H H'):FOk w' v M:=by
 obtain⟨⟨l1,l2,A,c,e,l3,l4⟩,h2⟩:=h;cases e;refine⟨⟨l1,l2,_,_,rfl,l3,fun a ha j u hu=>?_⟩,h2.k hg.k⟩;have h5:=l4 a ha j u hu;have h7:(a.add j).block=a.block:=by unfold Addr.add;split<;>rfl
 rw[←h5];exact World.cell?_of_block (by rw[h7];exact hg.by_.block a.block (h4 a ha).1 (h4 a ha).2)
def TRs (w:World) (H:Value) (M:Nat) (V:List Fw):Prop:=∀v∈V,FOk w v M∧∀a,v.A=some a→a.block<w.heap.size∧some a.block≠H.ownBlock
theorem TRs.below {w:World} {H:Value} {V:List Fw} (h:TRs w H M V) (hb:Below w.heap.size w w':=by go_grown):TRs w' H M V:=fun v hv=>⟨(h v hv).1.below hb,fun a ha=>⟨eB ((h v hv).2 a ha).1 hb.size,((h v hv).2 a ha).2⟩⟩
theorem TRs.grow {w:World} {H:Value} {V:List Fw} (h:TRs w H M V) (hg:Grew w w' H H'):TRs w' H' M V:=fun v hv=>⟨(h v hv).1.grow (h v hv).2 hg,fun a ha=>⟨eB ((h v hv).2 a ha).1 hg.size,hg.ne ((h v hv).2 a ha).1 ((h v hv).2 a ha).2⟩⟩
theorem TRs.put {w:World} {B n hc p:Nat} {V:List Fw} {y X:Fw} (h:TRs w (.slice (some ⟨g,0,none⟩) n hc) M V) (ho:OwnR w B 49 1 (.slice (some ⟨g,0,none⟩) n hc) n (flat Fw.cs V)) (hy:V[p]?=some y) (hx:FOk w X M) (hxb:∀a,X.A=some a→a.block<w.heap.size∧a.block≠g) :
  ∃W,W=w.setCell ⟨g,p,none⟩ (.slice X.A X.n X.c)∧OwnR W B 49 1 (.slice (some ⟨g,0,none⟩) n hc) n (flat Fw.cs (V.set p X))∧TRs W (.slice (some ⟨g,0,none⟩) n hc) M (V.set p X)∧Grew w W (.slice (some ⟨g,0,none⟩) n hc) (.slice (some ⟨g,0,none⟩) n hc):=by
 obtain⟨W,hW,h1,h2⟩:=fw_store ho hy X;have hb:∀a,X.A=some a→a.block<w.heap.size∧some a.block≠(Value.slice (some ⟨g,0,none⟩) n hc).ownBlock:=fun a ha=>⟨(hxb a ha).1,fun e=>(hxb a ha).2 (by cases e;rfl)⟩;refine⟨W,hW,h1,fun v hv=>?_,h2⟩;rcases sC hv with h3 | rfl
 ·exact h.grow h2 v h3
 ·exact⟨hx.grow hb h2,fun a ha=>⟨eB (hb a ha).1 h2.size,h2.ne (hb a ha).1 (hb a ha).2⟩⟩
theorem own_fw {w:World} {B n c:Nat} (h1:OwnR w B 30 4 (.slice A n c) n (flat Fr.cs L)) (h2:AllRn w M L):FOk w ⟨A,n,c,L⟩ M∧∀a,A=some a→a.block<w.heap.size∧B≤a.block :=
 ⟨⟨h1.sl' elt_frs (h1.eltn elt_frs zo),h2⟩,fun a ha=>by subst ha;exact⟨h1.lt a.block rfl,h1.base a.block rfl⟩⟩
def tbl (V:List Fw) (i k:Nat):Rat:=(((V.getD i zFw).L.getD k zFr)).q
theorem tbl_at {V:List Fw} {i k:Nat} {v:Fw} (h:V[i]?=some v) (hx:v.L[k]?=some x):tbl V i k=x.q:=by
 unfold tbl
 have e:V.getD i zFw=v:=by rw[bA,h];rfl
 rw[e,bA,hx];rfl
def costF (V:List Fw) (OB OC:List Bool) (n i j:Nat):Int:=((cntQ OC (fun k=>tbl V i k) n:Nat)-1:Int)*((cntQ OB (fun k=>tbl V k j) n:Nat)-1)
theorem sign_qnz {q:Rat} (h:q≠0):(q.num.sign != 0)=true:=by
 rw[bne_iff_ne];intro h2;exact h (Rat.num_eq_zero.1 (aG.1 h2))
theorem sign_qz {q:Rat} (h:q=0):(q.num.sign != 0)=false:=by rw[h];rfl
def CO1 (w:World) (V:List Fw) (OB OC:List Bool) (n i j gk:Nat) (s11 s12 s13:Value) (wr:World):Prop :=
 ∃k:Nat,k≤n∧n-k=gk∧s11=.int .i64 (cntQ OC (fun k=>tbl V i k) k:Nat)∧s12=.int .i64 (cntQ OB (fun k=>tbl V k j) k:Nat)∧s13=.int .i64 (k:Int)∧Below w.heap.size w wr
theorem cost_q {w:World} {T RA CA:Option Addr} {n rc cc:Nat} {V:List Fw} {OB OC:List Bool} (i j:Nat) (h:Sl Fw.cs 1 w T n tc V) (hV:Hid (∀v∈V,FOk w v M∧v.n=n)) (hr:Sl bls 1 w RA n rc OB) (hc:Sl bls 1 w CA n cc OC) (hi:i<n) (hj:j<n) (hn:n≤19) (hM:M≤7000) :
  Calls Tryz.prog 47 #[.slice T n tc,.slice RA n rc,.slice CA n cc,.int .i64 (i:Int),.int .i64 (j:Int)] w fun e w'=>e=.returned (.int .i64 (costF V OB OC n i j))∧Below w.heap.size w w':=by
 have HS:=zh h;have HR:=zh hr;have HCS:=zh hc;clear h hr hc;go_enter Tryz.func47,Tryz.ntmps47
 go_wp2_with fail
 go_loopg [11,12,13] n (fun gk s11 s12 s13 wr=>CO1 w V OB OC n i j gk s11 s12 s13 wr)
 case atStart=>exact⟨0,nA _,rfl,rfl,rfl,rfl,Below.refl _ _⟩
 case round =>
  obtain⟨k,hk,hgk,rfl,rfl,rfl,hB⟩:=hrel;have HGK:=zh hgk;clear hgk;have b1:=cntQ_le OC (fun k=>tbl V i k) k;have b2:=cntQ_le OB (fun k=>tbl V k j) k;obtain⟨p,hp⟩:∃p:Nat,p=cntQ OC (fun k=>tbl V i k) k:=⟨_,rfl⟩;obtain⟨q,hq⟩:∃q:Nat,q=cntQ OB (fun k=>tbl V k j) k:=⟨_,rfl⟩;rw[←hp] at b1 ⊢;rw[←hq] at b2 ⊢;have HP:Hid (cntQ OC (fun k=>tbl V i k) k=p):=zh hp.symm;have HQ:Hid (cntQ OB (fun k=>tbl V k j) k=q):=zh hq.symm;clear hp hq;by_cases hlt:k<n
  ·obtain⟨tb,tp,rfl,hel⟩:=HS.out.at Fw.cs_len zo zo;obtain⟨rb,ro,rfl,hel1⟩:=HR.out.at bls_len zo zo;obtain⟨cb,co,rfl,hel2⟩:=HCS.out.at bls_len zo zo;obtain⟨v,hlv⟩:∃v,V[i]?=some v:=⟨_,aA (by rw[HS.out.1];exact hi)⟩;obtain⟨u,hlu⟩:∃u,V[k]?=some u:=⟨_,aA (by rw[HS.out.1];exact hlt)⟩;obtain⟨oc,hoc⟩:∃o,OC[k]?=some o:=⟨_,aA (by rw[HCS.out.1];exact hlt)⟩;obtain⟨ob,hob⟩:∃o,OB[k]?=some o:=⟨_,aA (by rw[HR.out.1];exact hlt)⟩;have hv:=hel i v hlv;have hu:=hel k u hlu;have hc:=hel2 k oc hoc;have hr:=hel1 k ob hob;rw[wC] at hv hu hc hr;obtain⟨⟨v1,v2⟩,v3⟩:=hV.out v (dA hlv);obtain⟨⟨u1,u2⟩,u3⟩:=hV.out u (dA hlu);obtain⟨x,hlx⟩:∃x,v.L[k]?=some x:=⟨_,aA (by rw[v1.1];omega)⟩;obtain⟨y,hly⟩:∃y,u.L[j]?=some y:=⟨_,aA (by rw[u1.1];omega)⟩;obtain⟨vb,vo,hva,hve⟩:=v1.at Fr.cs_len zo zo;obtain⟨ub,uo,hua,hue⟩:=u1.at Fr.cs_len zo zo;have hx:=hve k x hlx;have hy:=hue j y hly;have fx:=(v2 x (dA hlx)).1.below hB;have fy:=(u2 y (dA hly)).1.below hB;have HZx:Hid (sz x.q≤M):=zh (Nat.le_of_succ_le (v2 x (dA hlx)).2.2);have HZy:Hid (sz y.q≤M):=zh (Nat.le_of_succ_le (u2 y (dA hly)).2.2);have HX:Hid (tbl V i k=x.q):=zh (tbl_at hlv hlx);have HY:Hid (tbl V k j=y.q):=zh (tbl_at hlu hly);have HC1:=zh hoc;have HC2:=zh hob;unfold Fw.cs at hv hu
   unfold bls at hc hr
   rw[hva] at hv;rw[hua] at hu;have i1:(k:Int)<(n:Int):=zo;have i2:(0:Int)≤(k:Int):=zo;have i3:(i:Int)<(n:Int):=zo;have i4:(0:Int)≤(i:Int):=zo;have i5:(k:Int)<(v.n:Int):=zo;have i6:(j:Int)<(u.n:Int):=zo;have i7:(0:Int)≤(j:Int):=zo;clear hel hel1 hel2 hlv hlu hoc hob hlx hly hva hua hve hue v1 v2 u1 u2;obtain⟨a,ha⟩:∃a:Nat,a=if oc=true then(if x.q=0 then 1 else 2) else 0:=⟨_,rfl⟩;obtain⟨b,hb⟩:∃b:Nat,b=if ob=true then(if y.q=0 then 1 else 2) else 0:=⟨_,rfl⟩;have ways:∀(o:Bool) (q:Rat) (a:Nat),(a=if o=true then(if q=0 then 1 else 2) else 0)→(a=0∧o=false)∨(a=1∧o=true∧q=0)∨(a=2∧o=true∧q≠0):=fun o q a h=>by
    cases o
    ·exact .inl ⟨h,rfl⟩
    ·by_cases hq:q=0
     ·rw[gA rfl,gA hq] at h;exact .inr (.inl ⟨h,rfl,hq⟩)
     ·rw[gA rfl,fA hq] at h;exact .inr (.inr ⟨h,rfl,hq⟩)
   rcases ways oc x.q a ha with⟨_,rfl⟩ | ⟨_,rfl,z1⟩ | ⟨_,rfl,z1⟩
   ·rcases ways ob y.q b hb with⟨_,rfl⟩ | ⟨_,rfl,z2⟩ | ⟨_,rfl,z2⟩
    ·clear ways ha hb;have Bz:=zr wr;have pA0:=(hc.below (bT hB Bz)).c0 (u:=.bool false) rfl;have pB0:=(hr.below (bT hB Bz)).c0 (u:=.bool false) rfl;go_wp2_with fail
     go_roundg (n-(k+1))
     case measure=>have:=HGK.out;omega
     case rel=>exact⟨k+1,zo,rfl,by rw[cntQ_no HC1.out,HP.out],by rw[cntQ_no HC2.out,HQ.out],by go_num,bT (bT hB Bz)⟩
    ·have g2:=sign_qz z2;clear ways ha hb;have Bz:=zr wr;have pA0:=(hc.below (bT hB Bz)).c0 (u:=.bool false) rfl;have pB0:=(hr.below (bT hB Bz)).c0 (u:=.bool true) rfl;have pD0:=(hu.below (bT hB Bz)).c0 (u:=.slice (some ⟨ub,uo,none⟩) u.n u.c) rfl;have pF0:=(hy.below (bT hB Bz)).c0 (u:=.bool y.s) rfl;have pF1:=(hy.below (bT hB Bz)).at 1 (.slice y.A y.l y.c) rfl;have pF2:=(hy.below (bT hB Bz)).at 2 (.bool y.s') rfl;have pF3:=(hy.below (bT hB Bz)).at 3 (.slice y.A' y.l' y.c') rfl;go_wp2_with fail
     with_reducible refine(sign_r4 (RN.r' (RN.below fy) HZy.out) zo y.q.num.sign (zh rfl)).mono ?_
     rintro e w11 ⟨rfl,z⟩;replace z:=zq (a:=wr) z;replace Bz:=bT Bz z;clear z;clear pA0 pB0 pD0 pF0 pF1 pF2 pF3;go_wp2_with fail
     go_roundg (n-(k+1))
     case measure=>have:=HGK.out;omega
     case rel=>exact⟨k+1,zo,rfl,by rw[cntQ_no HC1.out,HP.out],by rw[cntQ_zero (by show tbl V k j=0;rw[HY.out];exact z2),HQ.out],by go_num,bT (bT hB Bz)⟩
    ·have g2:=sign_qnz z2;clear ways ha hb;have Bz:=zr wr;have pA0:=(hc.below (bT hB Bz)).c0 (u:=.bool false) rfl;have pB0:=(hr.below (bT hB Bz)).c0 (u:=.bool true) rfl;have pD0:=(hu.below (bT hB Bz)).c0 (u:=.slice (some ⟨ub,uo,none⟩) u.n u.c) rfl;have pF0:=(hy.below (bT hB Bz)).c0 (u:=.bool y.s) rfl;have pF1:=(hy.below (bT hB Bz)).at 1 (.slice y.A y.l y.c) rfl;have pF2:=(hy.below (bT hB Bz)).at 2 (.bool y.s') rfl;have pF3:=(hy.below (bT hB Bz)).at 3 (.slice y.A' y.l' y.c') rfl;go_wp2_with fail
     with_reducible refine(sign_r4 (RN.r' (RN.below fy) HZy.out) zo y.q.num.sign (zh rfl)).mono ?_
     rintro e w11 ⟨rfl,z⟩;replace z:=zq (a:=wr) z;replace Bz:=bT Bz z;clear z;clear pA0 pB0 pD0 pF0 pF1 pF2 pF3;go_wp2_with fail
     go_roundg (n-(k+1))
     case measure=>have:=HGK.out;omega
     case rel=>exact⟨k+1,zo,rfl,by rw[cntQ_no HC1.out,HP.out],by rw[cntQ_yes HC2.out (by show tbl V k j≠0;rw[HY.out];exact z2),HQ.out];go_num,by go_num,bT (bT hB Bz)⟩
   ·have g1:=sign_qz z1;rcases ways ob y.q b hb with⟨_,rfl⟩ | ⟨_,rfl,z2⟩ | ⟨_,rfl,z2⟩
    ·clear ways ha hb;have Bz:=zr wr;have pA0:=(hc.below (bT hB Bz)).c0 (u:=.bool true) rfl;have pC0:=(hv.below (bT hB Bz)).c0 (u:=.slice (some ⟨vb,vo,none⟩) v.n v.c) rfl;have pE0:=(hx.below (bT hB Bz)).c0 (u:=.bool x.s) rfl;have pE1:=(hx.below (bT hB Bz)).at 1 (.slice x.A x.l x.c) rfl;have pE2:=(hx.below (bT hB Bz)).at 2 (.bool x.s') rfl;have pE3:=(hx.below (bT hB Bz)).at 3 (.slice x.A' x.l' x.c') rfl;go_wp2_with fail
     with_reducible refine(sign_r4 (RN.r' (RN.below fx) HZx.out) zo x.q.num.sign (zh rfl)).mono ?_
     rintro e w11 ⟨rfl,z⟩;replace z:=zq (a:=wr) z;replace Bz:=bT Bz z;clear z;clear pA0 pC0 pE0 pE1 pE2 pE3;have pB0:=(hr.below (bT hB Bz)).c0 (u:=.bool false) rfl;go_wp2_with fail
     go_roundg (n-(k+1))
     case measure=>have:=HGK.out;omega
     case rel=>exact⟨k+1,zo,rfl,by rw[cntQ_zero (by show tbl V i k=0;rw[HX.out];exact z1),HP.out],by rw[cntQ_no HC2.out,HQ.out],by go_num,bT (bT hB Bz)⟩
    ·have g2:=sign_qz z2;clear ways ha hb;have Bz:=zr wr;have pA0:=(hc.below (bT hB Bz)).c0 (u:=.bool true) rfl;have pC0:=(hv.below (bT hB Bz)).c0 (u:=.slice (some ⟨vb,vo,none⟩) v.n v.c) rfl;have pE0:=(hx.below (bT hB Bz)).c0 (u:=.bool x.s) rfl;have pE1:=(hx.below (bT hB Bz)).at 1 (.slice x.A x.l x.c) rfl;have pE2:=(hx.below (bT hB Bz)).at 2 (.bool x.s') rfl;have pE3:=(hx.below (bT hB Bz)).at 3 (.slice x.A' x.l' x.c') rfl;go_wp2_with fail
     with_reducible refine(sign_r4 (RN.r' (RN.below fx) HZx.out) zo x.q.num.sign (zh rfl)).mono ?_
     rintro e w11 ⟨rfl,z⟩;replace z:=zq (a:=wr) z;replace fy:=fy.below z;replace Bz:=bT Bz z;clear z;clear pA0 pC0 pE0 pE1 pE2 pE3;have pB0:=(hr.below (bT hB Bz)).c0 (u:=.bool true) rfl;have pD0:=(hu.below (bT hB Bz)).c0 (u:=.slice (some ⟨ub,uo,none⟩) u.n u.c) rfl;have pF0:=(hy.below (bT hB Bz)).c0 (u:=.bool y.s) rfl;have pF1:=(hy.below (bT hB Bz)).at 1 (.slice y.A y.l y.c) rfl;have pF2:=(hy.below (bT hB Bz)).at 2 (.bool y.s') rfl;have pF3:=(hy.below (bT hB Bz)).at 3 (.slice y.A' y.l' y.c') rfl;go_wp2_with fail
     with_reducible refine(sign_r4 (RN.r' (RN.below fy) HZy.out) zo y.q.num.sign (zh rfl)).mono ?_
     rintro e w12 ⟨rfl,z⟩;replace z:=zq (a:=w11) z;replace Bz:=bT Bz z;clear z;clear pB0 pD0 pF0 pF1 pF2 pF3;go_wp2_with fail
     go_roundg (n-(k+1))
     case measure=>have:=HGK.out;omega
     case rel=>exact⟨k+1,zo,rfl,by rw[cntQ_zero (by show tbl V i k=0;rw[HX.out];exact z1),HP.out],by rw[cntQ_zero (by show tbl V k j=0;rw[HY.out];exact z2),HQ.out],by go_num,bT (bT hB Bz)⟩
    ·have g2:=sign_qnz z2;clear ways ha hb;have Bz:=zr wr;have pA0:=(hc.below (bT hB Bz)).c0 (u:=.bool true) rfl;have pC0:=(hv.below (bT hB Bz)).c0 (u:=.slice (some ⟨vb,vo,none⟩) v.n v.c) rfl;have pE0:=(hx.below (bT hB Bz)).c0 (u:=.bool x.s) rfl;have pE1:=(hx.below (bT hB Bz)).at 1 (.slice x.A x.l x.c) rfl;have pE2:=(hx.below (bT hB Bz)).at 2 (.bool x.s') rfl;have pE3:=(hx.below (bT hB Bz)).at 3 (.slice x.A' x.l' x.c') rfl;go_wp2_with fail
     with_reducible refine(sign_r4 (RN.r' (RN.below fx) HZx.out) zo x.q.num.sign (zh rfl)).mono ?_
     rintro e w11 ⟨rfl,z⟩;replace z:=zq (a:=wr) z;replace fy:=fy.below z;replace Bz:=bT Bz z;clear z;clear pA0 pC0 pE0 pE1 pE2 pE3;have pB0:=(hr.below (bT hB Bz)).c0 (u:=.bool true) rfl;have pD0:=(hu.below (bT hB Bz)).c0 (u:=.slice (some ⟨ub,uo,none⟩) u.n u.c) rfl;have pF0:=(hy.below (bT hB Bz)).c0 (u:=.bool y.s) rfl;have pF1:=(hy.below (bT hB Bz)).at 1 (.slice y.A y.l y.c) rfl;have pF2:=(hy.below (bT hB Bz)).at 2 (.bool y.s') rfl;have pF3:=(hy.below (bT hB Bz)).at 3 (.slice y.A' y.l' y.c') rfl;go_wp2_with fail
     with_reducible refine(sign_r4 (RN.r' (RN.below fy) HZy.out) zo y.q.num.sign (zh rfl)).mono ?_
     rintro e w12 ⟨rfl,z⟩;replace z:=zq (a:=w11) z;replace Bz:=bT Bz z;clear z;clear pB0 pD0 pF0 pF1 pF2 pF3;go_wp2_with fail
     go_roundg (n-(k+1))
     case measure=>have:=HGK.out;omega
     case rel=>exact⟨k+1,zo,rfl,by rw[cntQ_zero (by show tbl V i k=0;rw[HX.out];exact z1),HP.out],by rw[cntQ_yes HC2.out (by show tbl V k j≠0;rw[HY.out];exact z2),HQ.out];go_num,by go_num,bT (bT hB Bz)⟩
   ·have g1:=sign_qnz z1;rcases ways ob y.q b hb with⟨_,rfl⟩ | ⟨_,rfl,z2⟩ | ⟨_,rfl,z2⟩
    ·clear ways ha hb;have Bz:=zr wr;have pA0:=(hc.below (bT hB Bz)).c0 (u:=.bool true) rfl;have pC0:=(hv.below (bT hB Bz)).c0 (u:=.slice (some ⟨vb,vo,none⟩) v.n v.c) rfl;have pE0:=(hx.below (bT hB Bz)).c0 (u:=.bool x.s) rfl;have pE1:=(hx.below (bT hB Bz)).at 1 (.slice x.A x.l x.c) rfl;have pE2:=(hx.below (bT hB Bz)).at 2 (.bool x.s') rfl;have pE3:=(hx.below (bT hB Bz)).at 3 (.slice x.A' x.l' x.c') rfl;go_wp2_with fail
     with_reducible refine(sign_r4 (RN.r' (RN.below fx) HZx.out) zo x.q.num.sign (zh rfl)).mono ?_
     rintro e w11 ⟨rfl,z⟩;replace z:=zq (a:=wr) z;replace Bz:=bT Bz z;clear z;clear pA0 pC0 pE0 pE1 pE2 pE3;have pB0:=(hr.below (bT hB Bz)).c0 (u:=.bool false) rfl;go_wp2_with fail
     go_roundg (n-(k+1))
     case measure=>have:=HGK.out;omega
     case rel=>exact⟨k+1,zo,rfl,by rw[cntQ_yes HC1.out (by show tbl V i k≠0;rw[HX.out];exact z1),HP.out];go_num,by rw[cntQ_no HC2.out,HQ.out],by go_num,bT (bT hB Bz)⟩
    ·have g2:=sign_qz z2;clear ways ha hb;have Bz:=zr wr;have pA0:=(hc.below (bT hB Bz)).c0 (u:=.bool true) rfl;have pC0:=(hv.below (bT hB Bz)).c0 (u:=.slice (some ⟨vb,vo,none⟩) v.n v.c) rfl;have pE0:=(hx.below (bT hB Bz)).c0 (u:=.bool x.s) rfl;have pE1:=(hx.below (bT hB Bz)).at 1 (.slice x.A x.l x.c) rfl;have pE2:=(hx.below (bT hB Bz)).at 2 (.bool x.s') rfl;have pE3:=(hx.below (bT hB Bz)).at 3 (.slice x.A' x.l' x.c') rfl;go_wp2_with fail
     with_reducible refine(sign_r4 (RN.r' (RN.below fx) HZx.out) zo x.q.num.sign (zh rfl)).mono ?_
     rintro e w11 ⟨rfl,z⟩;replace z:=zq (a:=wr) z;replace fy:=fy.below z;replace Bz:=bT Bz z;clear z;clear pA0 pC0 pE0 pE1 pE2 pE3;have pB0:=(hr.below (bT hB Bz)).c0 (u:=.bool true) rfl;have pD0:=(hu.below (bT hB Bz)).c0 (u:=.slice (some ⟨ub,uo,none⟩) u.n u.c) rfl;have pF0:=(hy.below (bT hB Bz)).c0 (u:=.bool y.s) rfl;have pF1:=(hy.below (bT hB Bz)).at 1 (.slice y.A y.l y.c) rfl;have pF2:=(hy.below (bT hB Bz)).at 2 (.bool y.s') rfl;have pF3:=(hy.below (bT hB Bz)).at 3 (.slice y.A' y.l' y.c') rfl;go_wp2_with fail
     with_reducible refine(sign_r4 (RN.r' (RN.below fy) HZy.out) zo y.q.num.sign (zh rfl)).mono ?_
     rintro e w12 ⟨rfl,z⟩;replace z:=zq (a:=w11) z;replace Bz:=bT Bz z;clear z;clear pB0 pD0 pF0 pF1 pF2 pF3;go_wp2_with fail
     go_roundg (n-(k+1))
     case measure=>have:=HGK.out;omega
     case rel=>exact⟨k+1,zo,rfl,by rw[cntQ_yes HC1.out (by show tbl V i k≠0;rw[HX.out];exact z1),HP.out];go_num,by rw[cntQ_zero (by show tbl V k j=0;rw[HY.out];exact z2),HQ.out],by go_num,bT (bT hB Bz)⟩
    ·have g2:=sign_qnz z2;clear ways ha hb;have Bz:=zr wr;have pA0:=(hc.below (bT hB Bz)).c0 (u:=.bool true) rfl;have pC0:=(hv.below (bT hB Bz)).c0 (u:=.slice (some ⟨vb,vo,none⟩) v.n v.c) rfl;have pE0:=(hx.below (bT hB Bz)).c0 (u:=.bool x.s) rfl;have pE1:=(hx.below (bT hB Bz)).at 1 (.slice x.A x.l x.c) rfl;have pE2:=(hx.below (bT hB Bz)).at 2 (.bool x.s') rfl;have pE3:=(hx.below (bT hB Bz)).at 3 (.slice x.A' x.l' x.c') rfl;go_wp2_with fail
     with_reducible refine(sign_r4 (RN.r' (RN.below fx) HZx.out) zo x.q.num.sign (zh rfl)).mono ?_
     rintro e w11 ⟨rfl,z⟩;replace z:=zq (a:=wr) z;replace fy:=fy.below z;replace Bz:=bT Bz z;clear z;clear pA0 pC0 pE0 pE1 pE2 pE3;have pB0:=(hr.below (bT hB Bz)).c0 (u:=.bool true) rfl;have pD0:=(hu.below (bT hB Bz)).c0 (u:=.slice (some ⟨ub,uo,none⟩) u.n u.c) rfl;have pF0:=(hy.below (bT hB Bz)).c0 (u:=.bool y.s) rfl;have pF1:=(hy.below (bT hB Bz)).at 1 (.slice y.A y.l y.c) rfl;have pF2:=(hy.below (bT hB Bz)).at 2 (.bool y.s') rfl;have pF3:=(hy.below (bT hB Bz)).at 3 (.slice y.A' y.l' y.c') rfl;go_wp2_with fail
     with_reducible refine(sign_r4 (RN.r' (RN.below fy) HZy.out) zo y.q.num.sign (zh rfl)).mono ?_
     rintro e w12 ⟨rfl,z⟩;replace z:=zq (a:=w11) z;replace Bz:=bT Bz z;clear z;clear pB0 pD0 pF0 pF1 pF2 pF3;go_wp2_with fail
     go_roundg (n-(k+1))
     case measure=>have:=HGK.out;omega
     case rel=>exact⟨k+1,zo,rfl,by rw[cntQ_yes HC1.out (by show tbl V i k≠0;rw[HX.out];exact z1),HP.out];go_num,by rw[cntQ_yes HC2.out (by show tbl V k j≠0;rw[HY.out];exact z2),HQ.out];go_num,by go_num,bT (bT hB Bz)⟩
  ·obtain rfl:k=n:=zo;have i1:¬(k:Int)<(k:Int):=zo;have Bz:=zr wr;go_wp2_with fail
   go_ret
   have hF:=bT (c:=wr) hB Bz;refine⟨?_,hB⟩;unfold costF
   rw[HP.out,HQ.out];have m1:((p:Int)-1)*((q:Int)-1)≤1000000*1000000:=by
    rcases mB p with h0 | h0
    ·subst h0;show(0-1:Int)*((q:Int)-1)≤_
     omega
    ·rcases mB q with h1 | h1
     ·subst h1;show((p:Int)-1)*(0-1)≤_
      omega
     ·exact Int.mul_le_mul zo zo zo zo
   have m2:-1000001≤((p:Int)-1)*((q:Int)-1):=by
    rcases mB p with h0 | h0
    ·subst h0;show _≤(0-1:Int)*((q:Int)-1)
     omega
    ·rcases mB q with h1 | h1
     ·subst h1;show _≤((p:Int)-1)*(0-1)
      omega
     ·exact Int.le_trans zo (Int.mul_nonneg zo zo)
   rw[show wrap64 (((p:Int)-1)*((q:Int)-1))=((p:Int)-1)*((q:Int)-1) from by unfold wrap64;omega];rfl
structure Ro where
 e:TypeId
 k:Nat
 v:Value
 n:Nat
 xs:List Value
structure FT (w:World) (B:Nat) (R:List Ro) (M:Nat) (V:List Fw):Prop where
 own:∀(i:Nat) (r:Ro),R[i]?=some r→OwnR w B r.e r.k r.v r.n r.xs
 ap:∀(i j:Nat) (r s:Ro),R[i]?=some r→R[j]?=some s→i≠j→Ap r.v s.v
 row:∀v∈V,FOk w v M∧∀a,v.A=some a→a.block<w.heap.size∧∀(i:Nat) (r:Ro),R[i]?=some r→some a.block≠r.v.ownBlock
theorem FT.below {w:World} {B:Nat} {R:List Ro} {V:List Fw} (h:FT w B R M V) (hb:Below w.heap.size w w':=by go_grown):FT w' B R M V :=
 ⟨fun i r hr=>(h.own i r hr).below hb,h.ap,fun v hv=>⟨(h.row v hv).1.below hb,fun a ha=>⟨eB ((h.row v hv).2 a ha).1 hb.size,((h.row v hv).2 a ha).2⟩⟩⟩
theorem set_some {α:Type} {R:List α} {i j:Nat} {r x s:α} (hi:R[i]?=some r) (h:(R.set i x)[j]?=some s):(j=i∧s=x)∨(j≠i∧R[j]?=some s):=by
 by_cases e:j=i
 ·subst e;rw[pD (yA.1 hi).1] at h;exact .inl ⟨rfl,(Option.some.inj h).symm⟩
 ·rw[rD (fun e2=>e e2.symm)] at h;exact .inr ⟨e,h⟩
theorem FT.upd {w:World} {B i:Nat} {R:List Ro} {V:List Fw} {r r':Ro} (h:FT w B R M V) (hi:R[i]?=some r) (ho:OwnR w' B r'.e r'.k r'.v r'.n r'.xs) (hg:Grew w w' r.v r'.v):FT w' B (R.set i r') M V:=by
 refine⟨fun j s hs=>?_,fun j k s t hs ht hjk=>?_,fun v hv=>⟨(h.row v hv).1.grow (fun a ha=>⟨((h.row v hv).2 a ha).1,((h.row v hv).2 a ha).2 i r hi⟩) hg,fun a ha=>⟨eB ((h.row v hv).2 a ha).1 hg.size,fun j s hs=>?_⟩⟩⟩
 ·rcases set_some hi hs with⟨_,rfl⟩ | ⟨h1,h2⟩
  ·exact ho
  ·exact(h.own j s h2).grown hg (h.ap j i s r h2 hi h1)
 ·rcases set_some hi hs with⟨h0,rfl⟩ | ⟨h1,h2⟩
  ·rcases set_some hi ht with⟨h3,_⟩ | ⟨h3,h4⟩
   ·exact absurd (h0.trans h3.symm) hjk
   ·exact(hg.ap (h.own k t h4) (h.ap k i t r h4 hi h3)).symm
  ·rcases set_some hi ht with⟨h3,rfl⟩ | ⟨h3,h4⟩
   ·exact hg.ap (h.own j s h2) (h.ap j i s r h2 hi h1)
   ·exact h.ap j k s t h2 h4 hjk
 ·rcases set_some hi hs with⟨_,rfl⟩ | ⟨h1,h2⟩
  ·exact hg.ne ((h.row v hv).2 a ha).1 (((h.row v hv).2 a ha).2 i r hi)
  ·exact((h.row v hv).2 a ha).2 j s h2
@[reducible] def roT (g n hc:Nat) (V:List Fw):Ro:=⟨49,1,.slice (some ⟨g,0,none⟩) n hc,n,flat Fw.cs V⟩
@[reducible] def roL (H:Option Addr) (n hc:Nat) (V:List Fw):Ro:=⟨49,1,.slice H n hc,n,flat Fw.cs V⟩
@[reducible] def roF (H:Option Addr) (n hc:Nat) (L:List Fr):Ro:=⟨30,4,.slice H n hc,n,flat Fr.cs L⟩
@[reducible] def roB (g n:Nat) (L:List Bool):Ro:=⟨4,1,.slice (some ⟨g,0,none⟩) n n,n,flat bls L⟩
@[reducible] def roI (H:Option Addr) (m c:Nat) (L:List Int):Ro:=⟨3,1,.slice H m c,m,flat ics L⟩
theorem FT.put {w:World} {B n hc p:Nat} {R:List Ro} {V:List Fw} {y X:Fw} (h:FT w B (roT g n hc V :: R) M V) (hy:V[p]?=some y) (hx:FOk w X M) (hxb:∀a,X.A=some a→a.block<w.heap.size∧∀(i:Nat) (r:Ro),(roT g n hc V :: R)[i]?=some r→some a.block≠r.v.ownBlock) :
  ∃W,W=w.setCell ⟨g,p,none⟩ (.slice X.A X.n X.c)∧FT W B (roT g n hc (V.set p X) :: R) M (V.set p X)∧Grew w W (.slice (some ⟨g,0,none⟩) n hc) (.slice (some ⟨g,0,none⟩) n hc):=by
 obtain⟨W,hW,h1,h2⟩:=fw_store (h.own 0 _ rfl) hy X;have h3:FT W B (roT g n hc (V.set p X) :: R) M V:=h.upd (i:=0) (r':=roT g n hc (V.set p X)) rfl h1 h2;refine⟨W,hW,⟨h3.own,h3.ap,fun v hv=>?_⟩,h2⟩;rcases sC hv with h4 | rfl
 ·exact h3.row v h4
 ·refine⟨hx.grow (fun a ha=>⟨(hxb a ha).1,(hxb a ha).2 0 _ rfl⟩) h2,fun a ha=>⟨eB (hxb a ha).1 h2.size,fun i r hr=>?_⟩⟩;cases i with
  | zero=>obtain rfl:=Option.some.inj hr;exact(hxb a ha).2 0 (roT g n hc V) rfl
  | succ i=>exact(hxb a ha).2 (i+1) r hr
theorem FT.mono {w:World} {B M':Nat} {R:List Ro} {V:List Fw} (h:FT w B R M V) (hM:M≤M'):FT w B R M' V:=⟨h.own,h.ap,fun v hv=>⟨⟨(h.row v hv).1.1,(h.row v hv).1.2.mono hM⟩,(h.row v hv).2⟩⟩
theorem FT.new {w:World} {B:Nat} {R:List Ro} {V:List Fw} (h:FT w B R M V) (hb:w.heap.size≤b) (i:Nat) (r:Ro) (hr:R[i]?=some r):some b≠r.v.ownBlock:=fun e=>by have:=(h.own i r hr).lt b e.symm;omega
theorem tbl_tq (V:List Fw) (i k:Nat):tbl V i k=tq (V.map Fw.q) i k:=by
 unfold tbl tq
 simp only[bA,rA]
 cases V[i]? with
 | none=>rfl
 | some v =>
  show(v.L[k]?.getD zFr).q=((v.L.map fun x=>x.q)[k]?).getD 0
  rw[rA];cases v.L[k]?<;>rfl
theorem costF_T (V:List Fw) (OB OC:List Bool) (n i j:Nat):costF V OB OC n i j=costT (V.map Fw.q) OB OC n i j:=by
 unfold costF costT
 have e1:(fun k=>tbl V i k)=fun k=>tq (V.map Fw.q) i k:=funext fun k=>tbl_tq V i k;have e2:(fun k=>tbl V k j)=fun k=>tq (V.map Fw.q) k j:=funext fun k=>tbl_tq V k j;rw[e1,e2]
theorem cost_T {w:World} {B g6 g7 g8 n:Nat} {V:List Fw} {OB OC:List Bool} {R:List Ro} {T:List (List Rat)} (i j:Nat) (h:FT w B (roT g6 n n V :: roB g7 n OB :: roB g8 n OC :: R) 1900 V) (hT:Hid (V.map Fw.q=T)) (hV:Hid (∀v∈V,v.n=n)) (hi:i<n) (hj:j<n) (hn:n≤7) :
  Calls Tryz.prog 47 #[.slice (some ⟨g6,0,none⟩) n n,.slice (some ⟨g7,0,none⟩) n n,.slice (some ⟨g8,0,none⟩) n n,.int .i64 (i:Int),.int .i64 (j:Int)] w fun e w'=>e=.returned (.int .i64 (costT T OB OC n i j))∧Below w.heap.size w w':=by
 have h0:=h.own 0 _ rfl;have h1:=h.own 1 _ rfl;have h2:=h.own 2 _ rfl;rw[←hT.out,←costF_T];exact cost_q (M:=1900) i j (h0.sl' elt_fws (h0.eltn elt_fws zo)) (zh fun v hv=>⟨(h.row v hv).1,hV.out v hv⟩) (h1.sl' elt_bls (h1.eltn elt_bls zo)) (h2.sl' elt_bls (h2.eltn elt_bls zo)) hi hj zo zd
theorem off_T {w:World} {u v:Fw} {q:Rat} {n:Nat} {ts ts':Bool} {TA TA':Option Addr} {tl tl' tc':Nat} (hu:FOk w u 1900) (hv:FOk w v 1900) (ht:RN w ts TA tc tl ts' TA' tc' tl' q) (hq:sz q≤1825) (hun:u.n=n) (hvn:v.n=n) (hn:n≤8) (hK:Hid (∀k,k<n→sz (u.q.getD k 0-q*v.q.getD k 0)≤1825)) :
  Calls Tryz.prog 48 #[.slice u.A u.n u.c,.agg #[.bool ts,.slice TA tl tc,.bool ts',.slice TA' tl' tc'],.slice v.A v.n v.c] w fun e w'=>∃A c L,e=.returned (.slice A n c)∧FOk w' ⟨A,n,c,L⟩ 1900∧(⟨A,n,c,L⟩:Fw).q=offF u.q q v.q∧(∀a,A=some a→w.heap.size≤a.block∧a.block<w'.heap.size)∧Below w.heap.size w w':=by
 refine(off_q (mq:=1825) (K:=1900) hu.1 hv.1 (zh hu.2) (zh hv.2) ht hq zo zo (zh fun i x y hx hy=>?_) zd).mono ?_
 ·have h1:=hK.out i (zj (yA.1 hx).1 hu.1.1);have e1:u.q.getD i 0=x.q:=by unfold Fw.q;rw[bA,rA,hx];rfl
  have e2:v.q.getD i 0=y.q:=by unfold Fw.q;rw[bA,rA,hy];rfl
  rw[e1,e2] at h1;omega
 ·rintro e w' ⟨H,c,D,rfl,h1,h2,h3,h4⟩;rw[hun] at h1 ⊢;have h5:=own_fw h1 h2;exact⟨H,c,D,rfl,h5.1,h3,fun a ha=>⟨(h5.2 a ha).2,(h5.2 a ha).1⟩,h4⟩
def VG (w:World) (g:Nat) (C:List (List (Int×Rat))) (i MM:Nat) (V:List Vc):Prop :=
 ∀(j:Nat) v,V[j]?=some v→(j<i→CN w v MM∧prs v.L=turnF C (j:Int)∧∀a,v.A=some a→a.block≠g)∧(i≤j→v=zVc)
theorem VG.below {w:World} {i MM:Nat} {C:List (List (Int×Rat))} {V:List Vc} (h:VG w g C i MM V) (hb:Below w.heap.size w w':=by go_grown):VG w' g C i MM V:=fun j v hv=>⟨fun hj=>⟨((h j v hv).1 hj).1.below hb,((h j v hv).1 hj).2⟩,(h j v hv).2⟩
theorem VG.step {w W:World} {i MM:Nat} {C:List (List (Int×Rat))} {V:List Vc} (h:VG w g C i MM V) (ho:∀(k j:Nat),k≠g→W.cell? ⟨k,j,none⟩=w.cell? ⟨k,j,none⟩) (hk:K64 w W) (hi:i<V.length) {x:Vc} (hx:CN W x MM) (hp:prs x.L=turnF C (i:Int)) (ha:∀a,x.A=some a→a.block≠g):VG W g C (i+1) MM (V.set i x):=fun j v hv=>by
 by_cases e:j=i
 ·subst e;rw[pD hi,Option.some.injEq] at hv;subst hv;exact⟨fun _=>⟨hx,hp,ha⟩,fun h1=>by omega⟩
 ·rw[rD (fun e2=>e e2.symm)] at hv;have h1:=h j v hv;refine⟨fun hj=>?_,fun hj=>h1.2 zo⟩;obtain⟨⟨c1,c2,c3⟩,c4,c5⟩:=h1.1 zo;exact⟨⟨c1.off ho c5,c2.k hk,c3⟩,c4,c5⟩
def TG (w:World) (g b:Nat) (C:List (List (Int×Rat))) (K i i2:Nat) (V:List Fw):Prop :=
 ∀(j:Nat) v,V[j]?=some v→(j<i→FOk w v K∧v.q=C.map (fun c=>pget c (j:Int))∧∀a,v.A=some a→a.block<w.heap.size∧a.block<b∧a.block≠g)∧(i2≤j→v=zFw)
theorem TG.below {w:World} {i i2:Nat} {C:List (List (Int×Rat))} {V:List Fw} (h:TG w g b C K i i2 V) (hb:Below w.heap.size w w':=by go_grown):TG w' g b C K i i2 V:=fun j v hv =>
 ⟨fun hj=>⟨((h j v hv).1 hj).1.below hb,((h j v hv).1 hj).2.1,fun a ha=>⟨eB (((h j v hv).1 hj).2.2 a ha).1 hb.size,(((h j v hv).1 hj).2.2 a ha).2⟩⟩,(h j v hv).2⟩
theorem TG.grow {w:World} {i i2:Nat} {C:List (List (Int×Rat))} {V:List Fw} {H:Value} (h:TG w g b C K i i2 V) (hH:∀x,H.ownBlock=some x→b≤x∨x=g) (hg:Grew w w' H H'):TG w' g b C K i i2 V:=fun j v hv =>
 ⟨fun hj=>by
  obtain⟨h1,h2,h3⟩:=(h j v hv).1 hj;refine⟨h1.grow (fun a ha=>⟨(h3 a ha).1,fun e=>?_⟩) hg,h2,fun a ha=>⟨eB (h3 a ha).1 hg.size,(h3 a ha).2⟩⟩;have h4:=hH _ e.symm;have h5:=h3 a ha;omega,(h j v hv).2⟩
theorem TG.set {w:World} {i:Nat} {C:List (List (Int×Rat))} {V:List Fw} (h:TG w g b C K i (i+1) V) (x:Fw):TG w g b C K i (i+1) (V.set i x):=fun j v hv=>by
 by_cases e:j=i
 ·exact⟨fun h1=>by omega,fun h1=>by omega⟩
 ·rw[rD (fun e2=>e e2.symm)] at hv;exact h j v hv
def RTa (w:World) (g m:Nat) (C:List (List (Int×Rat))) (K gk:Nat) (s:Value) (wr:World):Prop:=∃(i:Nat) (V:List Fw),i≤m∧m-i=gk∧s=.int .i64 (i:Int)∧OwnR wr w.heap.size 49 1 (.slice (some ⟨g,0,none⟩) m m) m (flat Fw.cs V)∧TG wr g wr.heap.size C K i i V∧Below w.heap.size w wr
def RTb (w wo:World) (g m n:Nat) (C:List (List (Int×Rat))) (K i gk:Nat) (s:Value) (wr:World):Prop:=∃(k:Nat) (H:Option Addr) (hc:Nat) (D:List Fr) (V:List Fw),s=.int .i64 (k:Int)∧k≤n∧n-k=gk∧OwnR wr w.heap.size 49 1 (.slice (some ⟨g,0,none⟩) m m) m (flat Fw.cs V)∧V[i]?=some ⟨H,k,hc,D⟩∧
 OwnR wr wo.heap.size 30 4 (.slice H k hc) k (flat Fr.cs D)∧D.map (fun x=>x.q)=(C.map fun c=>pget c (i:Int)).take k∧AllRn wr K D∧TG wr g wo.heap.size C K i (i+1) V∧Below w.heap.size w wr∧wo.heap.size≤wr.heap.size
theorem table_q {w:World} {n c m:Nat} {CL:List Vc} (h:Sl Vc.cs 1 w A n c CL) (hcl:Hid (∀v∈CL,GV w v.A v.n v.c (prs v.L) M∧v.n≤12)) (hM:M≤880) (hn:n≤100000) (hm:m≤65536) :
  Calls Tryz.prog 45 #[.slice A n c,.int .i64 (m:Int)] w fun e w'=>∃g V,e=.returned (.slice (some ⟨g,0,none⟩) m m)∧OwnR w' w.heap.size 49 1 (.slice (some ⟨g,0,none⟩) m m) m (flat Fw.cs V)∧TRs w' (.slice (some ⟨g,0,none⟩) m m) (M+3) V∧V.map Fw.q=tableT (CL.map fun v=>prs v.L) m∧Below w.heap.size w w':=by
 have HS:=zh h;have HLN:=zh h.1;clear h;go_enter Tryz.func45,Tryz.ntmps45
 go_wp2_with (at_make;refine And.left (b:=True) ?_)
 refine⟨?_,trivial⟩;refine Elt.makeN elt_fws zFw (fun i z h1 h2=>fw_zero h1 h2) rfl _ _ rfl .i64 .i64 m rfl rfl zo w.heap.size (cA _) ?_;intro g w1 ho1 b1;have HO1:=zh ho1;have HB1:=zh b1;clear ho1 b1;go_wp2_with fail
 go_loopg [6] m (fun gk s wr=>RTa w g m (CL.map fun v=>prs v.L) (M+3) gk s wr)
 case atStart=>exact⟨0,List.replicate m zFw,nA _,rfl,by go_num,HO1.out.below (by go_grown),(fun j v hv=>⟨fun hj=>by omega,fun _=>zD (dA hv)⟩),bT HB1.out⟩
 case round =>
  clear HO1 HB1;obtain⟨i,V,hi,hgk,rfl,ho,htg,hB⟩:=hrel;have HGK:=zh hgk;have HTG:=zh htg;clear hgk htg;by_cases hlt:i<m
  ·have i1:(i:Int)<(m:Int):=zo;have Bz:=zr wr;go_wp2_with fail
   obtain⟨wo,rfl⟩:∃wo,wo=wr:=⟨_,rfl⟩;have HO1:=zh ho;have HB1:=zh hB;have HVL0:=zh (show V[i]?=some zFw from by
    have h1:i<V.length:=by rw[ho.eltn elt_fws zo];exact hlt
    rw[aA h1,(HTG.out i _ (aA h1)).2 (cA _)])
   have HGB:Hid (g<wo.heap.size):=zh ho.blk.1;clear ho hB Bz;go_loopg [7] n (fun gk s wr=>RTb w wo g m n (CL.map fun v=>prs v.L) (M+3) i gk s wr)
   case atStart=>exact⟨0,none,0,[],V,by go_num,nA _,rfl,HO1.out.below (by go_grown),HVL0.out,OwnR.nil _ _ _ _,rfl,(fun x hx=>by cases hx),fun j v hv=>⟨fun hj=>⟨((HTG.out j v hv).1 hj).1.below (by go_grown),((HTG.out j v hv).1 hj).2.1,fun a ha=>⟨eB (((HTG.out j v hv).1 hj).2.2 a ha).1 (show Below wo.heap.size wo _ from by go_grown).size,((HTG.out j v hv).1 hj).2.2 a ha |>.2⟩⟩,fun hj=>(HTG.out j v hv).2 zo⟩,bT HB1.out,(show Below wo.heap.size wo _ from by go_grown).size⟩
   case round =>
    clear HVL0 HTG;obtain⟨k,H,hc,D,V,rfl,hk,hgj,ho,hvi,hr,hd,hfr,htg,hB,hwo⟩:=hrel;have HGJ:=zh hgj;have HD:=zh hd;have HV0:=zh hvi;have HWO:=zh hwo;have HVL:=zh (show i<V.length by rw[ho.eltn elt_fws zo];exact hlt);have hWw:w.heap.size≤wo.heap.size:=HB1.out.size;clear hgj hd HB1 HO1 hvi hwo;by_cases hlt2:k<n
    ·obtain⟨b,off,rfl,hel⟩:=HS.out.at Vc.cs_len zo zo;obtain⟨v,hv⟩:∃v,CL[k]?=some v:=⟨CL[k]'(by rw[HLN.out];exact hlt2),aA _⟩;have hnd:ElA w b (off+k) (Vc.cs v):=by have:=hel k v hv;rwa [wC] at this
     have hvv:=hcl.out v (dA hv);have hgv:=hvv.1.below hB;have hvn:v.n≤19:=zi hvv.2;have HZV:=zh (gv_sz hvv.1);have HTS:Hid (((CL.map fun v=>prs v.L).map fun c=>pget c (i:Int)).take (k+1)=((CL.map fun v=>prs v.L).map fun c=>pget c (i:Int)).take k++[pget (prs v.L) (i:Int)]):=zh (take_snoc (by rw[rA,rA,hv];rfl));have HRB:Hid (∀x,(Value.slice H k hc).ownBlock=some x→wo.heap.size≤x):=zh fun x hx=>hr.base x hx;have apT:Ap (.slice (some ⟨g,0,none⟩) m m) (.slice H k hc):=.inr fun e=>by have h1:=hr.base g e.symm;have h2:=HGB.out;omega
     have apR:=apT.symm;have j1:(k:Int)<(n:Int):=zo;have j2:(0:Int)≤(k:Int):=zo;have i2:(0:Int)≤(i:Int):=zo;clear hel hv hvv;have Bz:=zr wr;have pA0:=(hnd.below (bT hB Bz)).c0 (u:=.slice v.A v.n v.c) rfl;have pE0:=(show _=some (Value.slice H k hc) from fw_cell ho HV0.out);have fE0:=ho.frozen i;have y54:=ho.blk.1;have zs:wr.heap.size≤wr.heap.size:=cA _;go_wp2_with fail
     (try simp only[vAa,vBa,vC])
     refine zl (.pure 0 (.pure 1 (.pure 2 (.pure 3 (.pure 4 (.take 5 (.pure 6 (.pure 7 (.pure 8 (.take 9 (.pure 10 (.only 11 (.only 12 (.only 13 (.pure 14 (.only 15 .done)))))))))))))))) [13,15] (zsa pA0 (zIa pE0)) ?_;iterate 11 ((first|refine zV ?_|refine zUa ?_);try simp only[uW,uX,uY,uZ])
     refine zC 32 rfl rfl (fun K hK=>?_);go_simp
     with_reducible refine(getR_q (i:Int) (GV.below hgv) zo hvn).mono ?_
     rintro e w31 ⟨s31,A31,c31,l31,s31r,A31r,c31r,l31r,rfl,h31,y⟩;replace y:=zq (a:=wr) y;replace hfr:=hfr.below y;replace ho:=ho.below y;replace hr:=hr.below y;replace htg:=htg.below y;replace Bz:=bT Bz y;clear y;have z31:=HZV.out (i:Int);clear pA0 pE0 fE0 y54;have pA0:=(hnd.below (bT hB Bz)).c0 (u:=.slice v.A v.n v.c) rfl;have pE0:=(show _=some (Value.slice H k hc) from fw_cell ho HV0.out);have fE0:=ho.frozen i;have y54:=ho.blk.1;refine hK.out _ _ ⟨pA0,pE0⟩ (fun _=>?_);try simp only[uW,uX,uY,uZ]
     clear hK K;refine zC 33 rfl rfl (fun K hK=>?_);go_simp
     refine hK.out _ _ ⟨(zAd pA0),(zAd pE0)⟩ (fun _=>?_);try simp only[uW,uX,uY,uZ]
     clear hK K;refine zAc (o:=⟨some 34,_,_,_,_,_⟩) rfl rfl zd (fun K hK=>?_);obtain⟨V31,hW,x0,hN⟩:=zAe w31 #[.bool s31,.slice A31 l31 c31,.bool s31r,.slice A31r l31r c31r] 30;rw[←hW];clear hW;obtain⟨v0,hb0⟩:=ze w31.heap.size;rw[←hb0] at x0 ⊢;have ow_0:w.heap.size≤v0:=zi (zw hB Bz);have nv0_row:=OwnR.off' (b:=v0) hr zo;have nv0_own:=OwnR.off' (b:=v0) ho zo;have ny_0:wr.heap.size≤v0:=zi Bz.size;replace hfr:=hfr.below hN;replace h31:=h31.below hN;replace ho:=ho.below hN;replace hr:=hr.below hN;replace htg:=htg.below hN;replace hB:=bT (bT hB Bz) hN;have HX0:=zh x0;replace zs:wr.heap.size≤V31.heap.size:=zj Bz.size hN.size;clear x0 hN Bz hb0;have Bz:=zr V31;clear pA0 pE0 fE0 y54;have hdr:V31.drew.heap.size=V31.heap.size:=rfl;have hdr2:V31.drew.drew.heap.size=V31.heap.size:=rfl;refine Elt.wp elt_frs (.tmp 26) (.tmp 33) rfl (wo.heap.size) (.slice H k hc) (k) (D) rfl hr (.slice (some ⟨v0,0,none⟩) 1 1) (1) ([⟨s31,A31,c31,l31,s31r,A31r,c31r,l31r,pget (prs v.L) (i:Int),true⟩]) rfl (From.one (HX0.out.below (bT Bz)) (⟨s31,A31,c31,l31,s31r,A31r,c31r,l31r,pget (prs v.L) (i:Int),true⟩) rfl (elt_frs.len _)) zo (by have:=hB.size;have:=Bz.size;have:=zs;have:=HWO.out;omega) ?_;intro H32 c32 w32 ho32 hg32;refine hK.out _ _ ?_;try simp only[uW,uX,uY,uZ]
     clear hK K;replace hB:=(bT (bT hB Bz)).trans (hg32.below (zi (zw hB Bz)) (fun g hg=>by have:=hr.base g hg;omega));clear HX0;have apT':=hg32.ap ho apT;have apR':=apT'.symm;replace ho:=(OwnR.below ho).grown hg32 apT;clear apT apR;have apT:=apT';have apR:=apR';clear apT' apR';replace zs:wr.heap.size≤w32.heap.size:=zj Bz.size hg32.size;clear hdr hdr2;replace hfr:=hfr.k hg32.k;replace h31:=h31.k hg32.k;replace htg:=htg.grow (fun x hx=>.inl (HRB.out x hx)) hg32;clear hg32 Bz;have Bz:=zr w32;have pA0:=(hnd.below (bT hB Bz)).c0 (u:=.slice v.A v.n v.c) rfl;have pE0:=(show _=some (Value.slice H k hc) from fw_cell ho HV0.out);have fE0:=ho.frozen i;have y54:=ho.blk.1;refine zV ?_;try simp only[uW,uX,uY,uZ]
     refine zAc (o:=⟨none,_,_,_,_,_⟩) rfl rfl zd (fun K hK=>?_);go_simp
     refine hK.out _ _ ?_;try simp only[Act.put,uX,uY,uZ]
     clear hK K;obtain⟨V32,hV,ho2,hg2⟩:=fw_store ho HV0.out ⟨H32,(k+1),c32,D++[⟨s31,A31,c31,l31,s31r,A31r,c31r,l31r,pget (prs v.L) (i:Int),true⟩]⟩;rw[show(w32).setCell ⟨g,i,none⟩ (.slice H32 ((k+1)) c32)=V32 from hV.symm];clear hV;replace hB:=(bT hB Bz).trans (hg2.below (zi (zw hB Bz)) (fun g' hg'=>by have:=ho.base g' hg';omega));replace zs:wr.heap.size≤V32.heap.size:=zj Bz.size hg2.size;have hr2:=OwnR.grown ho32 hg2 apR;replace htg:=(TG.grow (H:=.slice (some ⟨g,0,none⟩) m m) htg (fun x hx=>.inr (Option.some.inj (show some g=some x from hx)).symm) hg2).set ⟨H32,(k+1),c32,D++[⟨s31,A31,c31,l31,s31r,A31r,c31r,l31r,pget (prs v.L) (i:Int),true⟩]⟩;replace hfr:=hfr.k hg2.k;replace h31:=h31.k hg2.k;replace ho:=ho2;replace ho32:=hr2;clear ho2 hr2 hg2 Bz;have Bz:=zr V32;clear pA0 pE0 fE0 y54;refine zAa ?_;go_wp2_with fail
     go_roundg (n-(k+1))
     case measure=>have:=HGJ.out;omega
     case rel=>exact⟨k+1,_,_,_,_,by go_num,zo,rfl,OwnR.below ho,pD HVL.out,OwnR.below ho32,by rw[jF,HD.out,HTS.out];rfl,AllRn.snoc (AllRn.below hfr) (AllRn.put (RN.below h31) (by show sz (pget (prs v.L) (i:Int))+1≤_;omega)),TG.below htg,bT (bT hB Bz),by have h1:=HWO.out;have h2:V32.heap.size≤_:=(show Below V32.heap.size V32 _ from by go_grown).size;omega⟩
    ·obtain rfl:k=n:=zo;have j1:¬(k:Int)<(k:Int):=zo;have hf:=own_fw hr hfr;have HO2:=zh ho;have HTG:Hid (TG wr g wr.heap.size (CL.map fun v=>prs v.L) (M+3) (i+1) (i+1) V):=zh fun j v hv=>by
      by_cases e:j=i
      ·subst e;rw[HV0.out] at hv;obtain rfl:=Option.some.inj hv;refine⟨fun _=>⟨hf.1,?_,fun a ha=>⟨(hf.2 a ha).1,(hf.2 a ha).1,by have h1:=(hf.2 a ha).2;have h2:=HGB.out;omega⟩⟩,fun h1=>by omega⟩;show D.map (fun x=>x.q)=_
       rw[HD.out,eA (by rw[cB,cB,HLN.out];exact cA _)]
      ·exact⟨fun hj=>⟨((htg j v hv).1 zo).1,((htg j v hv).1 zo).2.1,fun a ha=>⟨(((htg j v hv).1 zo).2.2 a ha).1,(((htg j v hv).1 zo).2.2 a ha).1,(((htg j v hv).1 zo).2.2 a ha).2.2⟩⟩,fun hj=>(htg j v hv).2 zo⟩
     clear hr hfr hf ho htg;have Bz:=zr wr;go_wp2_with fail
     go_roundg (m-(i+1))
     case measure=>have:=HGK.out;omega
     case rel=>exact⟨i+1,V,zo,rfl,by go_num,HO2.out.below (by go_grown),HTG.out.below (by go_grown),bT (bT hB Bz)⟩
  ·obtain rfl:i=m:=zo;have i1:¬(i:Int)<(i:Int):=zo;have hvl:=ho.eltn elt_fws zo;have HO2:=zh ho;have HTR:Hid (TRs wr (.slice (some ⟨g,0,none⟩) i i) (M+3) V):=zh fun v hv=>by
    obtain⟨j,hj⟩:=bD hv;have h1:=(HTG.out j v hj).1 (zi (yA.1 hj).1);exact⟨h1.1,fun a ha=>⟨(h1.2.2 a ha).1,fun e=>(h1.2.2 a ha).2.2 (Option.some.inj e)⟩⟩
   have HVQ:Hid (V.map Fw.q=tableT (CL.map fun v=>prs v.L) i):=zh (by
    apply tE
    intro j;unfold tableT
    rw[rA,rA];by_cases hji:j<i
    ·rw[rF hji,aA zo,cE,cE];rw[((HTG.out j _ (aA zo)).1 hji).2.1]
    ·rw[bB zo,bB (by rw[fF];omega)];rfl)
   clear ho hvl HTG;have Bz:=zr wr;go_wp2_with fail
   go_ret
   have hF:=bT (c:=wr) hB Bz;exact⟨g,rfl,V,HO2.out.below (by go_grown),HTR.out.below (by go_grown),HVQ.out,bT hF⟩
end Go.Proofs.YteggjbgbknkoiaaGreatDoor
