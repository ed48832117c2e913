import Derived.Test.YtiondclbdgijbaaGreatDoorYHd11
import Derived.Test.YtiondclbdgijbaaGreatDoorYHd5
set_option maxHeartbeats 16000000
set_option maxRecDepth 100000
namespace Go.Proofs.YtiondclbdgijbaaGreatDoor
open Go.RowKit Tw
structure Fq where
 A:Option Addr
 n:Nat
 c:Nat
 L:List Fr
def Fq.cs (v:Fq):List Value:=[.slice v.A v.n v.c]
theorem Fq.cs_len (v:Fq):v.cs.length=1:=rfl
theorem elt_fqs:Elt Fq.cs 1 38 25:=Elt.of (.slice none 0 0) 24 Tryz.underlying38 (by kernel_rfl) zo (by kernel_rfl) (nou_list (by kernel_rfl)) Fq.cs_len
 (fun x u hu=>by simp[Fq.cs] at hu;subst hu;rfl) (fun x u hu n=>by simp[Fq.cs] at hu;subst hu;simp)
def FqU (u:World) (v:Fq) (d:Nat×List Rat):Prop:=Sl Fr.cs 4 u v.A v.n v.c v.L∧AllRn u d.1 v.L∧(v.L.map fun x=>x.q)=d.2
def TR1 (w W:World) (E:List (Nat×List Rat)) (n gk:Nat) (s7 s10 s44:Value) (wr:World):Prop :=
 ∃(i:Nat) (H:Option Addr) (hc:Nat) (O:List Fq) (v:Fq),s7=.slice v.A v.n v.c∧O[i]?=some v∧s10=.slice H (i+1) hc∧s44=.int .i64 (i:Int)∧i≤n∧n-i≤gk∧OwnR wr W.heap.size 25 1 (.slice H (i+1) hc) (i+1) (flat Fq.cs O)∧LR FqU wr (.slice H (i+1) hc) W.heap.size O (E.take (i+1))∧Below w.heap.size w wr∧Below W.heap.size W wr
def TrOk (w:World) (L:List Ly) (ns:List Nat):Prop:=NetOk (L.map valL) ns∧∀i y,L[i]?=some y→∃a b t z,ns[i]?=some a∧ns[i+1]?=some b∧LvOk (valL y) a b∧LwU w y z∧(y.kind=1→zAg y (a:Int)=some ((b:Int),t))
def trcE (LV:List Lv) (ns:List Nat) (Q:List Rat) (n:Nat):List (Nat×List Rat):=(List.range (n+1)).map fun i=>(digsF (ns.take i)+1,aheadT LV Q i)
theorem trcE_at {LV:List Lv} {ns:List Nat} {Q:List Rat} {n i:Nat} (h:i≤n):(trcE LV ns Q n)[i]?=some (digsF (ns.take i)+1,aheadT LV Q i):=by
 unfold trcE;rw[mA,List.getElem?_range zo];rfl
theorem trcE_len {LV:List Lv} {ns:List Nat} {Q:List Rat} {n:Nat}:(trcE LV ns Q n).length=n+1:=by unfold trcE;rw[nA,List.length_range]
theorem trcE_one {LV:List Lv} {ns:List Nat} {Q:List Rat} {n:Nat}:(trcE LV ns Q n).take (0+1)=[(21,Q)]:=by
 rw[zAi (trcE_at (uA n))];rfl
theorem LwU.below {w w':World} {y z:Ly} (h:LwU w y z) (hb:Below w.heap.size w w':=by go_grown):LwU w' y z:=⟨h.ok.below hb,h.low,fun v hv=>⟨(h.vec v hv).1.below hb,(h.vec v hv).2⟩,h.grp⟩
def OutTr (w:World) (n:Nat) (E:List (Nat×List Rat)) (e:Ending) (w':World):Prop:=∃H hc O,e=.returned (.tuple #[.slice H (n+1) hc,.int .i64 0])∧Rob w' w.heap.size w'.heap.size (fun u=>Sl Fq.cs 1 u H (n+1) hc O∧All2 (FqU u) O E)∧n+1≤hc∧Below w.heap.size w w'
theorem trace_q {w:World} {inp:Int} {A xA:Option Addr} {n c xn xc:Nat} {L':List Ly} {X:List Fr} (hs:Hid (Sl Ly.cs 13 w A n c L')) (hl:Hid (∀y∈L',LyOk w 160 y)) (hln:n≤1000000) (hck:checkF inp L'=0) (hx:Sl Fr.cs 4 w xA xn xc X) (hxf:Hid (AllRn w 21 X)) (hxn:(xn:Int)=inp) (hxb:xn≤1000) {ns:List Nat} (hok:Hid (TrOk w L' ns)) (hn0:ns[0]?=some xn) (hT:Hid (Tab w)) :
  Calls Tryz.prog 10 #[.agg #[.int .i64 inp,.slice A n c],.slice xA xn xc] w (OutTr w n (trcE (L'.map valL) ns (X.map fun x=>x.q) n)):=by
 have HLN:=zh hs.out.1;have HTR:=zh (hok.out.1.trace (x:=X.map fun x=>x.q) (by rw[nA,hx.1];exact hn0) (fun q hq=>by
  obtain⟨x,hx,rfl⟩:=xC.1 hq;have:=(hxf.out x hx).2.2;omega))
 obtain⟨LV,hLV⟩:∃LV,LV=L'.map valL:=⟨_,rfl⟩;rw[←hLV] at HTR ⊢;have HLV:=zh hLV;clear hLV;have HZ:=zh hck;have HS:=zh hx;have HL:=zh hx.1;have g2:((xn:Int) != inp)=false:=by simpa using hxn
 obtain⟨Q,hQ⟩:∃Q,Q=X.map fun x=>x.q:=⟨_,rfl⟩;have HQ:=zh hQ;rw[←hQ] at HTR ⊢;obtain⟨E,hE⟩:∃E,E=trcE LV ns Q n:=⟨_,rfl⟩;rw[←hE];have HE0:Hid (E.take (0+1)=[(21,Q)]):=zh (by rw[hE];exact trcE_one);have HEA:Hid (∀i,i≤n→E[i]?=some (digsF (ns.take i)+1,aheadT LV Q i)):=zh (fun i h=>by rw[hE];exact trcE_at h);have HEN:Hid (E.length=n+1):=zh (by rw[hE];exact trcE_len);clear hE hn0;clear hck hx hQ hxn;obtain⟨W,hW,x0,hB⟩:=zAb w #[.int .i64 inp,.slice A n c] 24;have HX0:=zh x0;clear x0;have Bz:=zr W;obtain⟨pa0,pa1,-⟩:=(zx HX0 Bz).cz;go_enter Tryz.func10,Tryz.ntmps10
 go_wp2_with fail
 rw[←hW];clear hW;with_reducible refine(checkT_q (hs.out.below (bT hB (bT (b:=W) Bz))) (zh fun y h=>(hl.out y h).below (bT hB (bT (b:=W) Bz))) zo zo (zt hT hB Bz)).mono ?_
 rintro e w1 ⟨rfl,J⟩;replace J:=zq (a:=W) J;replace Bz:=bT Bz J;clear J;rw[HZ.out];clear pa0 pa1;have pa0:=(zx HX0 Bz).cell 0 (.int .i64 inp) rfl;go_wp2_with (at_make;refine And.left (b:=True) ?_)
 refine⟨?_,trivial⟩;refine Elt.makeN elt_frs zFr (fun i z h1 h2=>fr_zero h1 h2) rfl _ _ rfl .i64 .i64 xn rfl rfl zo w1.heap.size (aA _) ?_;intro g w2 ho2 b2;have HO2:=zh ho2;have HBW:=zh b2;have HB2:=zh (bT (bT hB Bz) b2);have hWs:=(bT hB Bz).size;have XX0:=zh (zx HX0 Bz);clear ho2 b2 HX0 hB Bz;clear pa0;go_wp2_with fail
 go_loopg [28] xn (fun gk s wr=>FL8 w w1 g xn 21 Q gk s wr)
 case atStart=>exact⟨0,_,uA _,rfl,rfl,HO2.out.below (by go_grown),AllRn.zeros _ _ zo,rfl,bT HB2.out,bT HBW.out⟩
 case round =>
  clear HO2 HBW HB2;obtain⟨i,D,hi,hgk,rfl,ho,hrn,hdq,hB,hBW⟩:=hrel;have HGK:=zh hgk;have HDL:=zh (ho.eltn elt_frs zo);clear hgk;by_cases hlt:i<xn
  ·obtain⟨b,off,rfl,hel⟩:=HS.out.at Fr.cs_len zo zo;obtain⟨x,hx⟩:∃x,X[i]?=some x:=⟨X[i]'(by rw[HL.out];exact hlt),cA _⟩;have hnd:=hel i x hx;have hfx:=hxf.out x (eA hx);have hxr:=hfx.1.r' (m:=21) (zi hfx.2.2);have hsq:=hfx.2.2;obtain⟨z,hz⟩:∃z,D[i]?=some z:=⟨D[i]'(by rw[HDL.out];exact hlt),cA _⟩;have HZ:=zh hz;have HDQ:Hid (∀r:Fr,r.q=x.q→((D.set i r).take (i+1)).map (fun x=>x.q)=Q.take (i+1)):=zh (fill_snoc hdq HDL.out hlt (by rw[HQ.out,mA,hx];rfl));have i1:(i:Int)<(xn:Int):=zo;have i2:(0:Int)≤(i:Int):=zo;clear hel hx hz hdq hfx;have Bz:=zr wr;obtain⟨pA0,pA1,pA2,pA3,-⟩:=(hnd.below (bT hB Bz)).ez;go_upto_region 10 with(fail)
   obtain⟨V11,hW,x0,hN⟩:=zAb wr #[.bool x.s,.slice x.A x.l x.c,.bool x.s',.slice x.A' x.l' x.c'] 47;rw[←hW];clear hW;obtain⟨v0,hb0⟩:=ze wr.heap.size;rw[←hb0] at x0 ⊢;have ow_0:w.heap.size≤v0:=zi (zw hB Bz);replace ho:=ho.below hN;replace hrn:=hrn.below hN;replace hB:=bT (bT hB Bz) hN;replace hBW:=bT (bT hBW Bz) hN;have HX0:=zh x0;clear x0 hN Bz hb0;have Bz:=zr V11;clear pA0 pA1 pA2 pA3;obtain⟨pa0,pa1,pa2,pa3,-⟩:=(zx HX0 Bz).cz;go_wp2_with fail
   with_reducible refine(norm_q (hxr.below (bT hB (bT (b:=V11) Bz))) zo (zt hT hB Bz)).mono ?_
   rintro e w11 ⟨s11,A11,c11,l11,s11r,A11r,c11r,l11r,rfl,h11,J⟩;replace J:=zq (a:=V11) J;replace ho:=ho.below J;replace hrn:=hrn.below J;replace Bz:=bT Bz J;clear J;clear pa0 pa1 pa2 pa3;have pB0:=fr_0 ho HZ.out;have pB1:=elt_frs.cell ho HZ.out (j:=1) (u:=.slice z.A z.l z.c) zo rfl;have pB2:=elt_frs.cell ho HZ.out (j:=2) (u:=.bool z.s') zo rfl;have pB3:=elt_frs.cell ho HZ.out (j:=3) (u:=.slice z.A' z.l' z.c') zo rfl;have fB0:=ho.frozen (i*4);have fB1:=ho.frozen (i*4+1);have fB2:=ho.frozen (i*4+2);have fB3:=ho.frozen (i*4+3);have y51:=ho.blk.1;go_upto_region 11 with(fail)
   obtain⟨V12,hV,ho2,hg2⟩:=fr_store ho HZ.out ⟨s11,A11,c11,l11,s11r,A11r,c11r,l11r,x.q,true⟩;rw[←hV];clear hV;replace hB:=(bT hB Bz).trans (hg2.below (zi (zw hB Bz)) (fun g' hg'=>by have:=ho.base g' hg';omega));replace hBW:=(bT hBW Bz).trans (hg2.below (zj hBW.size Bz.size) (fun g' hg'=>ho.base g' hg'));replace h11:=h11.k hg2.k;replace hrn:=hrn.k hg2.k;clear ho;have ho:=ho2;clear ho2 hg2 Bz;have Bz:=zr V12;clear pB0 pB1 pB2 pB3 fB0 fB1 fB2 fB3 y51;go_wp2_with fail
   go_roundg (xn-(i+1))
   case measure=>have:=HGK.out;omega
   case rel=>exact⟨i+1,_,zo,rfl,by go_num,OwnR.below ho,(AllRn.below hrn).set i (AllRn.put (RN.below h11) hsq),HDQ.out _ rfl,bT (bT hB Bz),bT (bT hBW Bz)⟩
  ·obtain rfl:i=xn:=zo;have i1:¬(i:Int)<(i:Int):=zo;have HA:Hid (Rob wr w1.heap.size wr.heap.size (fun u=>FqU u ⟨some ⟨g,0,none⟩,i,i,D⟩ (21,Q))):=zh (by
    have h8:=ho.rob elt_frs HDL.out;rw[fA (by rw[HDL.out];exact aA _),fA (by rw[HQ.out,nA,HL.out];exact aA _)] at hdq;exact⟨aA _,fun v hk hc=>⟨h8.on v hk hc,hrn.k hk,hdq⟩⟩)
   clear ho hrn hdq;go_upto_region 13 with(fail)
   obtain⟨V1,hW,x1,hN⟩:=zAb wr #[.slice (some ⟨g,0,none⟩) i i] 25;rw[←hW];clear hW;have HO:=OwnR.lit1 elt_fqs x1 (B:=w1.heap.size) (zi hBW.size) ⟨some ⟨g,0,none⟩,i,i,D⟩ rfl;have HLR:LR FqU V1 (.slice (some ⟨wr.heap.size,0,none⟩) 1 1) w1.heap.size [⟨some ⟨g,0,none⟩,i,i,D⟩] [(21,Q)]:=(All2.nil).snoc ⟨w1.heap.size,wr.heap.size,aA _,fun g' hg'=>.inr (by have h9:wr.heap.size=g':=Option.some.inj hg';omega),HA.out.below hN⟩;have HX0:=zh ((XX0.out.below hBW).below hN);have pa1:=HX0.out.cell 1 (.slice A n c) rfl;go_wp2_with fail
   go_loopg [7,10,44] n (fun gk s7 s10 s44 wr=>TR1 w w1 E n gk s7 s10 s44 wr)
   case atStart=>exact⟨0,_,_,[⟨some ⟨g,0,none⟩,i,i,D⟩],⟨some ⟨g,0,none⟩,i,i,D⟩,rfl,rfl,rfl,rfl,uA _,aA _,HO.below (by go_grown),by rw[HE0.out];exact HLR.below (by go_grown),bT (bT hB hN),bT (bT hBW hN)⟩
   case round =>
    obtain⟨i,H,hc,O,v,rfl,hov,rfl,rfl,hi,hgk,ho,hlr,hB,hBW⟩:=hrel;by_cases hlt:i<n
    ·obtain⟨b,off,rfl,hel⟩:=hs.out.at Ly.cs_len zo zo;obtain⟨y,hy⟩:∃y,L'[i]?=some y:=⟨L'[i]'(by rw[HLN.out];exact hlt),cA _⟩;have hnd:=hel i y hy;obtain⟨a,u,t,z,ha,hu,hlv,hlw,haf⟩:=hok.out.2 i y hy;have hLi:LV[i]?=some (valL y):=by rw[HLV.out,mA,hy];rfl
     have hiL:i≤LV.length:=by rw[HLV.out,nA,HLN.out];exact hi
     have hdg:=hok.out.1.dig (i:=i) (by rw[←HLV.out];exact hiL);have hdh:=hok.out.1.dig (i:=i+1) (by rw[nA,HLN.out];exact hlt);rw[digs_succ ha] at hdh;have htr:=HTR.out i hiL;have hap:=hok.out.1.pos a (eA ha);have has:=wA (mem_sum (eA ha)) hok.out.1.sum;obtain⟨s9,e9,_,_,h9⟩:=hlr.2 i v _ hov (by rw[List.getElem?_take_of_lt zo];exact HEA.out i hi);have h8:=h9.here;have hva:v.n=a:=by
      have h1:=h8.1.1;have h2:(v.L.map fun x=>x.q).length=(aheadT LV Q i).length:=congrArg List.length h8.2.2;rw[nA] at h2;rw[ha] at htr;have h3:=Option.some.inj htr.1;omega
     subst hva;have HYL:=zh hlw;have HLVO:=zh hlv;have HAF:=zh haf;have hv1:Sl Fr.cs 4 wr v.A v.n v.c v.L:=h8.1;have hv2:AllRn wr (digsF (ns.take i)+1) v.L:=h8.2.1;have HAQ:Hid ((v.L.map fun x=>x.q)=aheadT LV Q i):=zh h8.2.2;have HDG:Hid ((dgs v.n (digsF (ns.take i))+1,layT (valL y) (aheadT LV Q i))=(digsF (ns.take (i+1))+1,aheadT LV Q (i+1))):=zh (by rw[digs_succ ha,aheadT_succ hLi]);have HEI:Hid (E[i+1]?=some (digsF (ns.take (i+1))+1,aheadT LV Q (i+1))):=zh (HEA.out (i+1) hlt);have HRI:Hid (∀x,(O++[x])[i+1]?=some x):=zh (fun x=>by
      have h1:=hlr.1;rw[mB,HEN.out] at h1;rw[kD zo,show i+1-O.length=0 by omega];rfl)
     have hnn:1≤v.n∧v.n≤60:=⟨hap,has⟩;have hdd:20≤digsF (ns.take i)∧dgs v.n (digsF (ns.take i))≤5000000000:=⟨hdg.1,hdh.2⟩;have i1:(i:Int)<(n:Int):=zo;have i2:(0:Int)≤(i:Int):=zo;clear hel hy ha hu hlv hlw haf hLi hiL hdg hdh htr hap has h9 h8 hov;have Bz:=zr wr;obtain⟨pA0,pA1,pA2,pA3,pA4,pA5,pA6,pA7,pA8,pA9,pAa,pAb,pAc,-⟩:=(hnd.below (bT hB Bz)).ez;go_upto_region 16 with(fail)
     obtain⟨V31,hW,x0,hN⟩:=zY wr y;rw[←hW];clear hW;obtain⟨v0,hb0⟩:=ze wr.heap.size;rw[←hb0] at x0 ⊢;have ow_0:w.heap.size≤v0:=zi (zw hB Bz);have nv0_own:=OwnR.off' (b:=v0) ho zo;replace hlr:=hlr.below hN;replace ho:=ho.below hN;replace hv1:=hv1.below hN;replace hv2:=hv2.below hN;replace hB:=bT (bT hB Bz) hN;replace hBW:=bT (bT hBW Bz) hN;have HX0:=zh x0;clear x0 hN Bz hb0;have Bz:=zr V31;clear pA0 pA1 pA2 pA3 pA4 pA5 pA6 pA7 pA8 pA9 pAa pAb pAc;obtain⟨pa0,pa1,pa2,pa3,pa4,pa5,pa6,pa7,pa8,pa9,paa,pab,pac,-⟩:=(zx HX0 Bz).cz;go_wp2_with fail
     have hoff:=OwnR.lt ho;have hsz:w1.heap.size≤V31.heap.size:=zj hBW.size Bz.size;with_reducible refine(says_q (zh (HYL.out.below (bT hB (bT (b:=V31) Bz)))) HLVO (fun hk=>HAF.out hk) (zh (Sl.below hv1)) (zh (AllRn.below hv2)) hnn hdd (zt hT hB Bz)).mono ?_
     rintro e w31 ⟨A31,c31,O31,rfl,h31,q31,J⟩;replace J:=zq (a:=V31) J;replace hlr:=hlr.below J;replace ho:=ho.below J;replace Bz:=bT Bz J;clear J;have hx31:LR1 FqU w31 (.slice H (i+1) hc) w1.heap.size ⟨A31,u,c31,O31⟩ (dgs v.n (digsF (ns.take i))+1,layT (valL y) (aheadT LV Q i)):=⟨_,_,hsz,fun g' hg'=>.inl (hoff g' hg'),h31.imp fun _ k=>⟨k.1,k.2,by rw[q31,HAQ.out]⟩⟩;rw[HDG.out] at hx31;clear hoff hsz h31 q31;clear pa0 pa1 pa2 pa3 pa4 pa5 pa6 pa7 pa8 pa9 paa pab pac;go_wp2_with (at_builtin;refine And.left (b:=True) ?_)
     refine⟨?_,trivial⟩;obtain⟨V32,hW,x1,hN⟩:=zAb w31 #[.slice A31 u c31] 25;rw[←hW];clear hW;obtain⟨v1,hb1⟩:=ze w31.heap.size;rw[←hb1] at x1 ⊢;have o0_1:v0<v1:=zi (zx HX0 Bz).lt;have ow_1:w.heap.size≤v1:=zi (zw hB Bz);have nv1_own:=OwnR.off' (b:=v1) ho zo;replace hlr:=hlr.below hN;replace hx31:=hx31.below hN;replace ho:=ho.below hN;replace hB:=bT (bT hB Bz) hN;replace hBW:=bT (bT hBW Bz) hN;replace HX0:=zba HX0 Bz hN;have HX1:=zh x1;clear x1 hN Bz hb1;have Bz:=zr V32;have hdr:V32.drew.heap.size=V32.heap.size:=rfl;have hdr2:V32.drew.drew.heap.size=V32.heap.size:=rfl;refine Elt.app elt_fqs rfl (.tmp 51) (.tmp 53) rfl (w1.heap.size) (.slice H (i+1) hc) (i+1) (O) rfl ho (.slice (some ⟨v1,0,none⟩) 1 1) (1) ([⟨A31,u,c31,O31⟩]) rfl (From.one (HX1.out.below (bT Bz)) (⟨A31,u,c31,O31⟩) rfl (elt_fqs.len _)) zo (zj hBW.size Bz.size) ?_;intro H32 c32 w32 ho32 hg32;replace hB:=(bT (bT hB Bz)).trans (hg32.below (zi (zw hB Bz)) (fun g hg=>by have:=ho.base g hg;omega));replace hBW:=(bT (bT hBW Bz)).trans (hg32.below (zj hBW.size Bz.size) (fun g hg=>by have:=ho.base g hg;omega));clear HX0;clear HX1;clear hdr hdr2;replace hlr:=hlr.grow hg32;replace hx31:=hx31.grow hg32;clear hg32 Bz;have Bz:=zr w32;go_wp2_with fail
     go_roundg (n-(i+1))
     case measure=>omega
     case rel=>exact⟨i+1,_,_,_,_,rfl,HRI.out _,rfl,by go_num,zo,zo,OwnR.below ho32,All2.take (LR.below hlr) HEI.out (LR1.below hx31),bT (bT hB Bz),bT (bT hBW Bz)⟩
    ·obtain rfl:i=n:=zo;have i1:¬(i:Int)<(i:Int):=zo;have HR:Hid (Rob wr w.heap.size wr.heap.size (fun u=>Sl Fq.cs 1 u H (i+1) hc O∧All2 (FqU u) O E)):=zh (by
      have h9:=hlr;rw[fA (by rw[HEN.out];exact aA _)] at h9;exact((ho.rob elt_fqs (ho.eltn elt_fqs zo)).and h9.rob).wide (wA zo (aA _)) (aA _) (aA _))
     have hcap:i+1≤hc:=by obtain⟨_,_,e9,_,_,h9,_⟩:=ho.slice;cases e9;exact h9
     clear ho hlr;go_wp2_with fail
     go_ret2
     exact⟨H,hc,O,rfl,HR.out,hcap,hB⟩
end Go.Proofs.YtiondclbdgijbaaGreatDoor
