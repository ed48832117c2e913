import Derived.Test.YtiondclbdgijbaaGreatDoorYLf1
import Derived.LoopN
set_option maxHeartbeats 8000000
set_option maxRecDepth 100000
namespace Go.Proofs.YtiondclbdgijbaaGreatDoor
open Go.RowKit Tw
def pmx (X:List Rat) (a:Int) (T:List Int) (j:Nat):Rat:=(T.take j).foldl (fun s k=>maxQ s (nth X k)) (nth X a)
theorem pmx_succ {X:List Rat} {a d:Int} {T:List Int} {j:Nat} (h:T[j]?=some d):pmx X a T (j+1)=maxQ (pmx X a T j) (nth X d):=by unfold pmx;rw[zAi h,List.foldl_append];rfl
theorem pmx_end {X:List Rat} {a:Int} {l:List Int} {n:Nat} (h:l[0]?=some a) (hn:l.length=n):pmx X a (l.drop 1) (n-1)=poolT l X:=by
 cases l with
 | nil=>cases h
 | cons b l =>
  cases h;unfold pmx
  rw[List.drop_one,List.tail_cons,fA (by rw[←hn,cC];omega)];rfl
def PL2 (w W:World) (g n K i:Nat) (P:List Rat) (F:Nat→Rat) (N gk:Nat) (s:Value) (wr:World):Prop:=∃(j:Nat) (D:List Fr) (r:Fr),j≤N∧N-j≤gk∧s=.int .i64 (j:Int)∧OwnR wr W.heap.size 47 4 (.slice (some ⟨g,0,none⟩) n n) n (flat Fr.cs D)∧AllRn wr K D∧D[i]?=some r∧r.q=F j∧
 (D.take i).map (fun x=>x.q)=P∧Below w.heap.size w wr∧Below W.heap.size W wr
theorem poolN_q {w:World} {y:Ly} {xA:Option Addr} {n xc u K:Nat} {L:List Fr} (hy:LyOk w 160 y) (hl:LvOk (valL y) n u) (hk:y.kind=4) (h:Sl Fr.cs 4 w xA n xc L) (hf:Hid (AllRn w K L)) (hgc:Hid (∀v∈y.groups,v.n≤v.c)) (hn:1≤n∧n≤1000) (hK:2≤K∧K≤10000000000) (hT:Hid (Tab w)) :
  Calls Tryz.prog 61 #[.agg #[.int .u8 y.kind,.slice y.rA y.rn y.rc,.slice y.bA y.bn y.bc,.int .i64 y.ch,.int .i64 y.high,.int .i64 y.wide,.int .i64 y.out,.int .i64 y.kh,.int .i64 y.kw,.int .i64 y.st,.int .i64 y.pad,.slice y.kA y.kn y.kc,.slice y.gA y.gn y.gc,.slice xA n xc]] w (OutR w u K (layT (valL y) (L.map fun x=>x.q))):=by
 have HS:=zh h;have HL:=zh h.1;obtain⟨X,hX⟩:∃X,X=L.map fun x=>x.q:=⟨_,rfl⟩;rw[←hX];have HX:=zh hX;have e:valL y=⟨y.kind,y.rows.map fun v=>prs v.L,y.bias.map fun x=>x.q,y.groups.map fun g=>g.L⟩:=by unfold valL;rw[dA zo]
 have hp:=hl.pool (by rw[e];exact hk);have hq0:layT (valL y) X=y.groups.map fun v=>poolT v.L X:=by
  rw[e];unfold layT;rw[dA (show ¬y.kind=1 by omega),dA (show ¬y.kind=3 by omega),bB hk,List.map_map];rfl
 rw[hq0];obtain⟨Q,hQ⟩:∃Q,Q=y.groups.map fun v=>poolT v.L X:=⟨_,rfl⟩;rw[←hQ];have HQ:=zh hQ;rw[e] at hp;have HGR:=zh hy.groups;have HGK:=zh hy.gok;have HP:Hid (∀v∈y.groups,v.L≠[]∧∀a∈v.L,0≤a∧a<(n:Int)):=zh (fun v hv=>hp.2 v.L (cE (f:=fun g:Gp=>g.L) hv));obtain rfl:y.gn=u:=by have h1:=hp.1;rw[nA,hy.groups.1] at h1;exact h1
 have hgn1:y.gn≤100000:=hy.lens.2.2.2;clear h hX hQ hy hl hk hq0 e hp;obtain⟨W,hW,x0,hB⟩:=zAb w #[.int .u8 y.kind,.slice y.rA y.rn y.rc,.slice y.bA y.bn y.bc,.int .i64 y.ch,.int .i64 y.high,.int .i64 y.wide,.int .i64 y.out,.int .i64 y.kh,.int .i64 y.kw,.int .i64 y.st,.int .i64 y.pad,.slice y.kA y.kn y.kc,.slice y.gA y.gn y.gc,.slice xA n xc] 99;have HX0:=zh x0;clear x0;have Bz:=zr W;go_enter Tryz.func61,Tryz.ntmps61
 go_upto_region 1 with(fail)
 rw[←hW];clear hW;have pac:=(zx HX0 Bz).cell 12 (.slice y.gA y.gn y.gc) rfl;go_wp2_with (at_make;refine And.left (b:=True) ?_)
 refine⟨?_,trivial⟩;refine Elt.makeN elt_frs zFr (fun i z h1 h2=>fr_zero h1 h2) rfl _ _ rfl .i64 .i64 y.gn rfl rfl zo W.heap.size (aA _) ?_;intro g w2 ho2 b2;have HO2:=zh ho2;have HBW:=zh b2;have HB2:=zh (bT hB b2);have hWs:=hB.size;have XX0:=zh (zx HX0 Bz);have qac:=(XX0.out.below b2).cell 12 (.slice y.gA y.gn y.gc) rfl;clear pac ho2 b2 HX0 hB Bz;go_wp2_with fail
 clear qac;go_loopg [17] y.gn (fun gk s wr=>FL8 w W g y.gn K Q gk s wr)
 case atStart=>exact⟨0,_,uA _,rfl,rfl,HO2.out.below (by go_grown),AllRn.zeros _ _ hK.1,rfl,bT HB2.out,bT HBW.out⟩
 case round =>
  clear HO2 HBW HB2;obtain⟨i,E,hi,hgk,rfl,ho,hrn,hdq,hB,hBW⟩:=hrel;have HGK2:=zh hgk;have HDL:=zh (ho.eltn elt_frs zo);clear hgk;by_cases hlt:i<y.gn
  ·obtain⟨b,off,he1,hel⟩:=HGR.out.at Gp.cs_len zo zo;obtain⟨xb,xo,he2,hel2⟩:=HS.out.at Fr.cs_len zo zo;obtain⟨v,hvv⟩:∃v,y.groups[i]?=some v:=⟨y.groups[i]'(by rw[HGR.out.1];exact hlt),cA _⟩;have hvm:=eA hvv;have hvk:=HGK.out v hvm;have hvp:=HP.out v hvm;have hvb:v.n≤1000000:=hvk.2;have HCAP:=zh (hgc.out v hvm);have hv1:1≤v.n:=by
    have h1:=hvk.1.1;have h2:v.L.length≠0:=fun e=>hvp.1 (rC e);omega
   obtain⟨eb,offe,he3,hel3⟩:=hvk.1.at ics_len zo zo;have hnd:ElA w b (off+i) [.slice (some ⟨eb,offe,none⟩) v.n v.c]:=by have:=hel i v hvv;rw[kC] at this;unfold Gp.cs at this;rwa [he3] at this
   obtain⟨a,ha⟩:∃a,v.L[0]?=some a:=⟨v.L[0]'(by rw[hvk.1.1];omega),cA _⟩;have hna:ElA w eb offe (ics a):=by have:=hel3 0 a ha;rwa [yF,bD] at this
   have har:=hvp.2 a (eA ha);obtain⟨x,hx⟩:∃x,L[a.toNat]?=some x:=⟨L[a.toNat]'(by rw[HL.out];omega),cA _⟩;have hnx:=hel2 a.toNat x hx;have hfx:=hf.out x (eA hx);have hxr:=hfx.1.r' (m:=K) (zi hfx.2.2);obtain⟨z,hz⟩:∃z,E[i]?=some z:=⟨E[i]'(by rw[HDL.out];exact hlt),cA _⟩;have HZ:=zh hz;have i1:(i:Int)<(y.gn:Int):=zo;have i2:(0:Int)≤(i:Int):=zo;have i4:(0:Int)<(v.n:Int):=zo;have i8:0<v.n:=zo;have i9:1≤v.n:=zo;have i5:(0:Int)≤a:=har.1;have i6:a<(n:Int):=har.2;have i7:(1:Int)≤(v.n:Int):=zo;have HE1:=zh he1;have HE2:=zh he2;have HXX:=zh hx;have HVV:=zh hvv;have HA0:=zh ha;have HX0:Hid (Bx wr w.heap.size #[.int .u8 y.kind,.slice y.rA y.rn y.rc,.slice y.bA y.bn y.bc,.int .i64 y.ch,.int .i64 y.high,.int .i64 y.wide,.int .i64 y.out,.int .i64 y.kh,.int .i64 y.kw,.int .i64 y.st,.int .i64 y.pad,.slice y.kA y.kn y.kc,.slice y.gA y.gn y.gc,.slice (some ⟨xb,xo,none⟩) n xc] 99):=zh (by rw[←he2];exact XX0.out.below hBW);clear hel hvv hx hz he2 hvm he1 he3 ha;rw[HE1.out];have Bz:=zr wr;have p0_13:=(zx HX0 Bz).cell 13 (.slice (some ⟨xb,xo,none⟩) n xc) rfl;have pA0:=(hnd.below (bT hB Bz)).c0 (u:=.slice (some ⟨eb,offe,none⟩) v.n v.c) rfl;have pD0:=(hna.below (bT hB Bz)).c0 (u:=.int .i64 a) rfl;have pC0:=(hnx.below (bT hB Bz)).c0 (u:=.bool x.s) rfl;have pC1:=(hnx.below (bT hB Bz)).at 1 (.slice x.A x.l x.c) rfl;have pC2:=(hnx.below (bT hB Bz)).at 2 (.bool x.s') rfl;have pC3:=(hnx.below (bT hB Bz)).at 3 (.slice x.A' x.l' x.c') rfl;have pB0:=fr_0 ho HZ.out;have pB1:=elt_frs.cell ho HZ.out (j:=1) (u:=.slice z.A z.l z.c) zo rfl;have pB2:=elt_frs.cell ho HZ.out (j:=2) (u:=.bool z.s') zo rfl;have pB3:=elt_frs.cell ho HZ.out (j:=3) (u:=.slice z.A' z.l' z.c') zo rfl;have fB0:=ho.frozen (i*4);have fB1:=ho.frozen (i*4+1);have fB2:=ho.frozen (i*4+2);have fB3:=ho.frozen (i*4+3);have y51:=ho.blk.1;go_wp2_with fail
   (try simp only[vAa,vBa,vC])
   refine zl (.pure 0 (.pure 1 (.pure 2 (.take 3 (.pure 4 (.pure 5 (.take 6 (.pure 7 (.take 8 (.only 9 (.pure 10 (.only 11 .done)))))))))))) [11] (zsa p0_13 (zsa pC0 (zsa pC1 (zsa pC2 (zsa pC3 (zIa pD0)))))) ?_;iterate 9 ((first|refine zV ?_|refine zUa ?_);try simp only[uW,uX,uY,uZ])
   refine zC 31 rfl rfl (fun K hK=>?_);go_simp
   with_reducible refine(norm_q (hxr.below (bT hB (bT (b:=wr) Bz))) zo (zt hT hB Bz)).mono ?_
   rintro e w11 ⟨s11,A11,c11,l11,s11r,A11r,c11r,l11r,rfl,h11,J⟩;replace J:=zq (a:=wr) J;replace ho:=ho.below J;replace hrn:=hrn.below J;replace Bz:=bT Bz J;clear J;clear p0_13 pA0 pD0 pC0 pC1 pC2 pC3 pB0 pB1 pB2 pB3 fB0 fB1 fB2 fB3 y51;have p0_13:=(zx HX0 Bz).cell 13 (.slice (some ⟨xb,xo,none⟩) n xc) rfl;have pD0:=(hna.below (bT hB Bz)).c0 (u:=.int .i64 a) rfl;have pC0:=(hnx.below (bT hB Bz)).c0 (u:=.bool x.s) rfl;have pC1:=(hnx.below (bT hB Bz)).at 1 (.slice x.A x.l x.c) rfl;have pC2:=(hnx.below (bT hB Bz)).at 2 (.bool x.s') rfl;have pC3:=(hnx.below (bT hB Bz)).at 3 (.slice x.A' x.l' x.c') rfl;have pB0:=fr_0 ho HZ.out;have pB1:=elt_frs.cell ho HZ.out (j:=1) (u:=.slice z.A z.l z.c) zo rfl;have pB2:=elt_frs.cell ho HZ.out (j:=2) (u:=.bool z.s') zo rfl;have pB3:=elt_frs.cell ho HZ.out (j:=3) (u:=.slice z.A' z.l' z.c') zo rfl;have fB0:=ho.frozen (i*4);have fB1:=ho.frozen (i*4+1);have fB2:=ho.frozen (i*4+2);have fB3:=ho.frozen (i*4+3);have y51:=ho.blk.1;refine hK.out _ _ ⟨p0_13,pC0,pC1,pC2,pC3,pD0⟩ (fun _=>?_);try simp only[uW,uX,uY,uZ]
   clear hK K;refine zV ?_;try simp only[uW,uX,uY,uZ]
   refine wpPlan_late (o:=⟨none,_,_,_,_,_⟩) rfl rfl zd (fun K hK=>?_);go_simp
   refine hK.out _ _ ?_;try simp only[Act.put,uX,uY,uZ]
   clear hK K;obtain⟨V11,hV,ho2,hg2⟩:=fr_store ho HZ.out ⟨s11,A11,c11,l11,s11r,A11r,c11r,l11r,x.q,true⟩;rw[←hV];clear hV;replace hB:=(bT hB Bz).trans (hg2.below (zi (zw hB Bz)) (fun g' hg'=>by have:=ho.base g' hg';omega));replace hBW:=(bT hBW Bz).trans (hg2.below (zj hBW.size Bz.size) (fun g' hg'=>ho.base g' hg'));replace h11:=h11.k hg2.k;replace hrn:=hrn.k hg2.k;clear ho;have ho:=ho2;clear ho2 hg2 Bz;have Bz:=zr V11;clear p0_13 pD0 pC0 pC1 pC2 pC3 pB0 pB1 pB2 pB3 fB0 fB1 fB2 fB3 y51;refine wpPlan_done ?_;go_wp2_with fail
   case inl hc1 =>
    have hone:v.n=1:=zi HCAP.out;have hn0:v.n-1=0:=zo;have hnc:¬(0:Int)<((v.n-1:Nat):Int):=zo;have HDQ:Hid (((E.set i (⟨s11,A11,c11,l11,s11r,A11r,c11r,l11r,x.q,true⟩:Fr)).take (i+1)).map (fun x=>x.q)=Q.take (i+1)):=zh (fill_snoc hdq HDL.out hlt (by
     rw[HQ.out,mA,HVV.out];show some (poolT v.L X)=some x.q
     rw[←pmx_end HA0.out hvk.1.1,hn0];show some (nth X a)=some x.q
     unfold nth;rw[HX.out,mA,HXX.out];rfl) _ rfl)
    have HRN:=zh (hrn.set i (x:=⟨s11,A11,c11,l11,s11r,A11r,c11r,l11r,x.q,true⟩) (AllRn.put h11 hfx.2.2));refine wp_loop_rounds 1 ?_;rw[rounds_succ];go_wp2_with fail
    rw[←HE1.out];go_roundg (y.gn-(i+1))
    case measure=>have:=HGK2.out;omega
    case rel=>exact⟨i+1,_,zo,rfl,by go_num,ho.below (by go_grown),HRN.out.below (by go_grown),HDQ.out,bT (bT hB Bz),bT (bT hBW Bz)⟩
   case inr hc1 =>
    have HB1:=zh (bT hB Bz);have HB2:=zh (bT hBW Bz);have HOW:=zh ho;have HRN:=zh (hrn.set i (x:=⟨s11,A11,c11,l11,s11r,A11r,c11r,l11r,x.q,true⟩) (AllRn.put h11 hfx.2.2));have hxa:x.q=nth X a:=by unfold nth;rw[HX.out,mA,HXX.out];rfl
    have HI0:Hid (∀r:Fr,(E.set i r)[i]?=some r):=zh (fun r=>qF (by rw[HDL.out];omega));have HTK:Hid (∀r:Fr,((E.set i r).take i).map (fun x=>x.q)=Q.take i):=zh (fun r=>by rw[bG (aA i)];exact hdq);have HXA:=zh hxa;clear hB hBW Bz ho hrn h11 hxr hfx hdq hnd hna hnx HX0 HZ i4 i5 i6 i7 i8 har hxa;obtain⟨wo,hwo⟩:∃x:World,x=wr:=⟨_,rfl⟩;subst hwo;obtain⟨gk1,hgk1⟩:∃x:Nat,x=gk:=⟨_,rfl⟩;subst hgk1;go_loopg [36] (v.n-1) (fun gk s wr=>PL2 w W g y.gn K i (Q.take i) (pmx X a (v.L.drop 1)) (v.n-1) gk s wr)
    case atStart=>exact⟨0,_,_,uA _,aA _,rfl,HOW.out.below (by go_grown),HRN.out.below (by go_grown),HI0.out _,HXA.out,HTK.out _,bT HB1.out,bT HB2.out⟩
    case round =>
     clear HB1 HB2 HOW HRN HI0 HXA HTK HDL HXX;obtain⟨j,E,z,hj,hgj,rfl,ho,hrn,hz,hzq,hdq,hB,hBW⟩:=hrel;have HZ:=zh hz;have HDL:=zh (ho.eltn elt_frs zo);by_cases hlj:j<v.n-1
     ·have j1:(j:Int)<((v.n-1:Nat):Int):=zo;have j2:(0:Int)≤(j:Int):=zo;have j3:j<v.n-1:=hlj;obtain⟨d,hd⟩:∃d,v.L[j+1]?=some d:=⟨v.L[j+1]'(by rw[hvk.1.1];omega),cA _⟩;have hna:ElA w eb (offe+1+j) (ics d):=by have:=hel3 (j+1) d hd;rwa [kC,show offe+(j+1)=offe+1+j by omega] at this
      have hdr:=hvp.2 d (eA hd);obtain⟨x,hx⟩:∃x,L[d.toNat]?=some x:=⟨L[d.toNat]'(by rw[HL.out];omega),cA _⟩;have hnx:=hel2 d.toNat x hx;have hfx:=hf.out x (eA hx);have hxr:=hfx.1.r' (m:=K) (zi hfx.2.2);have hzf:=hrn z (eA hz);have hzr:=hzf.1.r' (m:=K) (zi hzf.2.2);have hsq:sz (maxQ z.q x.q)+1≤K:=by
       have h1:=hfx.2.2;have h2:=hzf.2.2;unfold maxQ
       split<;>omega
      have HF:Hid (maxQ z.q x.q=pmx X a (v.L.drop 1) (j+1)):=zh (by
       rw[pmx_succ (d:=d) (by rw[List.getElem?_drop,Nat.add_comm 1 j];exact hd),hzq];congr 1
       unfold nth;rw[HX.out,mA,hx];rfl)
      have HST:Hid (∀r:Fr,(E.set i r)[i]?=some r):=zh (fun r=>qF (by rw[HDL.out];omega));have HTK:Hid (∀r:Fr,((E.set i r).take i).map (fun x=>x.q)=Q.take i):=zh (fun r=>by rw[bG (aA i)];exact hdq);have i5:(0:Int)≤d:=hdr.1;have i6:d<(n:Int):=hdr.2;have HX0:Hid (Bx wr w.heap.size #[.int .u8 y.kind,.slice y.rA y.rn y.rc,.slice y.bA y.bn y.bc,.int .i64 y.ch,.int .i64 y.high,.int .i64 y.wide,.int .i64 y.out,.int .i64 y.kh,.int .i64 y.kw,.int .i64 y.st,.int .i64 y.pad,.slice y.kA y.kn y.kc,.slice y.gA y.gn y.gc,.slice (some ⟨xb,xo,none⟩) n xc] 99):=zh (by rw[←HE2.out];exact XX0.out.below hBW);clear hd hx hfx hz hzq hzf hdr hdq;have Bz:=zr wr;have p0_13:=(zx HX0 Bz).cell 13 (.slice (some ⟨xb,xo,none⟩) n xc) rfl;have pD0:=(hna.below (bT hB Bz)).c0 (u:=.int .i64 d) rfl;have pC0:=(hnx.below (bT hB Bz)).c0 (u:=.bool x.s) rfl;have pC1:=(hnx.below (bT hB Bz)).at 1 (.slice x.A x.l x.c) rfl;have pC2:=(hnx.below (bT hB Bz)).at 2 (.bool x.s') rfl;have pC3:=(hnx.below (bT hB Bz)).at 3 (.slice x.A' x.l' x.c') rfl;have pB0:=fr_0 ho HZ.out;have pB1:=elt_frs.cell ho HZ.out (j:=1) (u:=.slice z.A z.l z.c) zo rfl;have pB2:=elt_frs.cell ho HZ.out (j:=2) (u:=.bool z.s') zo rfl;have pB3:=elt_frs.cell ho HZ.out (j:=3) (u:=.slice z.A' z.l' z.c') zo rfl;have fB0:=ho.frozen (i*4);have fB1:=ho.frozen (i*4+1);have fB2:=ho.frozen (i*4+2);have fB3:=ho.frozen (i*4+3);have y51:=ho.blk.1;go_wp2_with fail
      (try simp only[vAa,vBa,vC])
      refine zl (.pure 0 (.pure 1 (.pure 2 (.pure 3 (.pure 4 (.take 5 (.pure 6 (.take 7 (.pure 8 (.pure 9 (.take 10 (.only 11 (.pure 12 (.only 13 .done)))))))))))))) [13] (zsa p0_13 (zsa pB0 (zsa pB1 (zsa pB2 (zsa pB3 (zsa pC0 (zsa pC1 (zsa pC2 (zIa pC3))))))))) ?_;iterate 11 ((first|refine zV ?_|refine zUa ?_);try simp only[uW,uX,uY,uZ])
      refine zC 51 rfl rfl (fun K hK=>?_);go_simp
      with_reducible refine(max_q (R.below hzr) (hxr.below (bT hB (bT (b:=wr) Bz))) zo (zt hT hB Bz)).mono ?_
      rintro e w21 ⟨s21,A21,c21,l21,s21r,A21r,c21r,l21r,rfl,h21,J⟩;replace J:=zq (a:=wr) J;replace ho:=ho.below J;replace hrn:=hrn.below J;replace Bz:=bT Bz J;clear J;clear p0_13 pD0 pC0 pC1 pC2 pC3 pB0 pB1 pB2 pB3 fB0 fB1 fB2 fB3 y51;have p0_13:=(zx HX0 Bz).cell 13 (.slice (some ⟨xb,xo,none⟩) n xc) rfl;have pC0:=(hnx.below (bT hB Bz)).c0 (u:=.bool x.s) rfl;have pC1:=(hnx.below (bT hB Bz)).at 1 (.slice x.A x.l x.c) rfl;have pC2:=(hnx.below (bT hB Bz)).at 2 (.bool x.s') rfl;have pC3:=(hnx.below (bT hB Bz)).at 3 (.slice x.A' x.l' x.c') rfl;have pB0:=fr_0 ho HZ.out;have pB1:=elt_frs.cell ho HZ.out (j:=1) (u:=.slice z.A z.l z.c) zo rfl;have pB2:=elt_frs.cell ho HZ.out (j:=2) (u:=.bool z.s') zo rfl;have pB3:=elt_frs.cell ho HZ.out (j:=3) (u:=.slice z.A' z.l' z.c') zo rfl;have fB0:=ho.frozen (i*4);have fB1:=ho.frozen (i*4+1);have fB2:=ho.frozen (i*4+2);have fB3:=ho.frozen (i*4+3);have y51:=ho.blk.1;refine hK.out _ _ ⟨p0_13,pB0,pB1,pB2,pB3,pC0,pC1,pC2,pC3⟩ (fun _=>?_);try simp only[uW,uX,uY,uZ]
      clear hK K;refine zV ?_;try simp only[uW,uX,uY,uZ]
      refine wpPlan_late (o:=⟨none,_,_,_,_,_⟩) rfl rfl zd (fun K hK=>?_);go_simp
      refine hK.out _ _ ?_;try simp only[Act.put,uX,uY,uZ]
      clear hK K;obtain⟨V21,hV,ho2,hg2⟩:=fr_store ho HZ.out ⟨s21,A21,c21,l21,s21r,A21r,c21r,l21r,maxQ z.q x.q,true⟩;rw[←hV];clear hV;replace hB:=(bT hB Bz).trans (hg2.below (zi (zw hB Bz)) (fun g' hg'=>by have:=ho.base g' hg';omega));replace hBW:=(bT hBW Bz).trans (hg2.below (zj hBW.size Bz.size) (fun g' hg'=>ho.base g' hg'));replace h21:=h21.k hg2.k;replace hrn:=hrn.k hg2.k;clear ho;have ho:=ho2;clear ho2 hg2 Bz;have Bz:=zr V21;clear p0_13 pC0 pC1 pC2 pC3 pB0 pB1 pB2 pB3 fB0 fB1 fB2 fB3 y51;refine wpPlan_done ?_;go_wp2_with fail
      go_roundg (v.n-1-(j+1))
      case measure=>omega
      case rel=>exact⟨j+1,_,_,zo,zo,by go_num,OwnR.below ho,(AllRn.below hrn).set i (AllRn.put (RN.below h21) hsq),HST.out _,HF.out,HTK.out _,bT (bT hB Bz),bT (bT hBW Bz)⟩
     ·have hje:j=v.n-1:=zo;subst hje;have j1:¬((v.n-1:Nat):Int)<((v.n-1:Nat):Int):=zo;have HDQ:Hid ((E.take (i+1)).map (fun x=>x.q)=Q.take (i+1)):=zh (by
       have hqi:Q[i]?=some (poolT v.L X):=by rw[HQ.out,mA,HVV.out];rfl
       rw[zAi hz,zAi hqi,cF,hdq,fG,List.map_nil,hzq,pmx_end HA0.out hvk.1.1])
      clear hz hzq hdq;go_wp2_with fail
      rw[←HE1.out];go_roundg (y.gn-(i+1))
      case measure=>have:=HGK2.out;omega
      case rel=>exact⟨i+1,E,zo,rfl,by go_num,ho.below (by go_grown),hrn.below (by go_grown),HDQ.out,bT hB,bT hBW⟩
  ·obtain rfl:i=y.gn:=zo;have i1:¬(y.gn:Int)<(y.gn:Int):=zo;have HR:Hid (Rob wr w.heap.size wr.heap.size (fun u=>Sl Fr.cs 4 u (some ⟨g,0,none⟩) y.gn y.gn E∧AllRn u K E)∧(E.map fun x=>x.q)=Q):=zh (by
    have h8:=ho.rob elt_frs HDL.out;rw[fA (by rw[HDL.out];exact aA _),fA (by rw[HQ.out,nA,HGR.out.1];exact aA _)] at hdq;have h9:=h8.wide (s':=w.heap.size) hWs (aA _) (aA _);exact⟨⟨aA _,fun v hk hc=>⟨h9.on v hk hc,hrn.k hk⟩⟩,hdq⟩)
   clear ho hrn hdq;go_wp2_with fail
   go_ret
   exact⟨_,_,E,rfl,HR.out.1,HR.out.2,hB⟩
end Go.Proofs.YtiondclbdgijbaaGreatDoor
