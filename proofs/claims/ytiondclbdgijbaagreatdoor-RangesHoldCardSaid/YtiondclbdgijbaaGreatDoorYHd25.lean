import Derived.Test.YtiondclbdgijbaaGreatDoorYHdX
set_option maxHeartbeats 64000000
set_option maxRecDepth 100000
namespace Go.Proofs.YtiondclbdgijbaaGreatDoor
open Go.RowKit Tw
def RH1 (w wx:World) (n gk:Nat) (s:Value) (wr:World):Prop:=∃i:Nat,i≤n∧n-i≤gk∧s=.int .i64 (i:Int)∧Below w.heap.size w wr∧Below wx.heap.size wx wr
def A2L (w:World) (O L:List Ly):Prop:=All2 (LwU w) O L
theorem A2L.below {w w':World} {O L:List Ly} (h:A2L w O L) (hb:Below w.heap.size w w':=by go_grown):A2L w' O L:=All2.mono h fun _ _ k=>k.below hb
theorem A2L.ok {w:World} {O L:List Ly} (h:A2L w O L):∀y∈O,LyOk w 160 y:=fun y hy=>by obtain⟨z,_,k⟩:=All2.mem h hy;exact k.ok
theorem A2L.chk {w:World} {O L:List Ly} {inp:Int} {l:List Int} (h:A2L w O L) (hz:sizesF inp L=.ok l):checkF inp O=0:=by unfold checkF;rw[sizes_low (LowsOf.of2 h) hz]
theorem A2L.tr {w:World} {O L:List Ly} {inp:Int} {l:List Int} (h:A2L w O L) (hz:sizesF inp L=.ok l) (hl:L.length≤8) (hs:(l.map Int.toNat).sum≤60):TrOk w O (l.map Int.toNat):=trok_mk h hz hl hs
theorem A2L.vals {w:World} {O L:List Ly} (h:A2L w O L):O.map valL=L.map valL:=(LowsOf.vals (LowsOf.of2 h)).1
def T3 (w:World) (O:List Fq) (E:List (Nat×List Rat)):Prop:=All2 (FqU w) O E
theorem T3.below {w w':World} {O:List Fq} {E:List (Nat×List Rat)} (h:T3 w O E) (hb:Below w.heap.size w w':=by go_grown):T3 w' O E:=All2.mono h fun _ _ k=>⟨k.1.below hb,k.2.1.below hb,k.2.2⟩
theorem rangesHold_q {w:World} {inp:Int} {A A1 A2 P:Option Addr} {n c n1 c1 n2 c2 np cp:Nat} {L:List Ly} {LO HI:List Fr} {PL:List Int} (hs:Sl Ly.cs 13 w A n c L) (hin:Hid (∀y∈L,LyIn w y)) (hn:n≤9223372036854775807) (h1:Sl Fr.cs 4 w A1 n1 c1 LO) (h2:Sl Fr.cs 4 w A2 n2 c2 HI) (hf1:Hid (∀x∈LO,FrIn w x)) (hf2:Hid (∀x∈HI,FrIn w x)) (hn1:n1≤9223372036854775807∧n2≤9223372036854775807) (hp:Sl ics 1 w P np cp PL) (hpi:Hid (∀z∈PL,I64 z)) (hnp:np≤9223372036854775807) (hT:Hid (Tab w)) :
  Calls Tryz.prog 3 #[.agg #[.int .i64 inp,.slice A n c],.agg #[.slice A1 n1 c1,.slice A2 n2 c2],.slice P np cp] w fun e w'=>e=.returned (.bool true)∧Below w.heap.size w w':=by
 have HLN:=zh hs.1;obtain⟨W,hW,x0,x1,hB⟩:=zAh w #[.int .i64 inp,.slice A n c] 24 #[.slice A1 n1 c1,.slice A2 n2 c2] 26;have HX0:=zh x0;have HX1:=zh x1;clear x0 x1;have Bz:=zr W;obtain⟨pa0,pa1,-⟩:=(zx HX0 Bz).cz;obtain⟨pb0,pb1,-⟩:=(zx HX1 Bz).cz;go_enter Tryz.func3,Tryz.ntmps3
 go_upto_region 1 with(fail)
 rw[←hW];clear hW;go_wp2_with fail
 (try simp only[vAa,vBa,vC])
 refine zl (zz [0,1,2,3,4,5] .done) [] (zsa pb0 (zIa pb1)) ?_;iterate 6 (refine zUa ?_;try simp only[uW,uX,uY,uZ])
 refine wpPlan_done ?_;go_wp2_with fail
 with_reducible refine(great_q (zh (hs.below (bT hB (bT (b:=W) Bz)))) (zh fun y h=>(hin.out y h).below (bT hB (bT (b:=W) Bz))) zo (zt hT hB Bz)).mono ?_
 rintro e w1 ⟨r1,rfl,hr1,b1⟩;replace b1:=zq (a:=W) b1;replace Bz:=bT Bz b1;clear b1;cases r1
 case true =>
  go_wp2_with fail
  with_reducible refine(awake20_q (zt hT hB Bz)).mono ?_
  rintro e w99 ⟨rfl,b99⟩;replace b99:=zq (a:=w1) b99;go_wp2_with fail
  go_ret
  exact⟨rfl,bT (bT hB Bz) (bT b99)⟩
 have HG:=zh (hr1 rfl);clear hr1;clear pa0 pa1 pb0 pb1;go_wp2_with fail
 with_reducible refine(long20_q (h1.below (bT hB (bT (b:=w1) Bz))) (zh fun x hx=>(hf1.out x hx).len) zo).mono ?_
 rintro e w2 ⟨r2,rfl,hr2,b2⟩;replace b2:=zq (a:=w1) b2;replace Bz:=bT Bz b2;clear b2;cases r2
 case true =>
  go_wp2_with fail
  with_reducible refine(awake20_q (zt hT hB Bz)).mono ?_
  rintro e w99 ⟨rfl,b99⟩;replace b99:=zq (a:=w2) b99;go_wp2_with fail
  go_ret
  exact⟨rfl,bT (bT hB Bz) (bT b99)⟩
 have HL1:=zh (hr2 rfl);clear hr2;go_wp2_with fail
 with_reducible refine(long20_q (h2.below (bT hB (bT (b:=w2) Bz))) (zh fun x hx=>(hf2.out x hx).len) zo).mono ?_
 rintro e w3 ⟨r3,rfl,hr3,b3⟩;replace b3:=zq (a:=w2) b3;replace Bz:=bT Bz b3;clear b3;cases r3
 case true =>
  go_wp2_with fail
  with_reducible refine(awake20_q (zt hT hB Bz)).mono ?_
  rintro e w99 ⟨rfl,b99⟩;replace b99:=zq (a:=w3) b99;go_wp2_with fail
  go_ret
  exact⟨rfl,bT (bT hB Bz) (bT b99)⟩
 have HL2:=zh (hr3 rfl);clear hr3;go_upto_region 4 with(fail)
 obtain⟨pa0,pa1,-⟩:=(zx HX0 Bz).cz;go_wp2_with fail
 have HS1:=zh h1;have HS2:=zh h2;have HT1:Hid (∀x∈LO,FrOk w 2 x):=zh (fun x hx=>(hf1.out x hx).few (HL1.out.2 x hx));have HT2:Hid (∀x∈HI,FrOk w 2 x):=zh (fun x hx=>(hf2.out x hx).few (HL2.out.2 x hx));have HF1:Hid (∀x∈LO,FrOk w 20 x):=zh (fun x hx=>(HT1.out x hx).mono zo);have HF2:Hid (∀x∈HI,FrOk w 20 x):=zh (fun x hx=>(HT2.out x hx).mono zo);have hn60:n1≤60∧n2≤60:=⟨HL1.out.1,HL2.out.1⟩;have hn8:n≤8:=HG.out.1;clear h1 h2 hf1 hf2 HL1 HL2;have hok:Hid (∀y∈L,LyOk w 2 y):=zh (fun y hy=>(hin.out y hy).few (HG.out.2.2.1 y hy));have W3:=bT hB Bz;cases hz0:sizesF inp L with
 | error z =>
  have g1:(z != 0)=true:=by rcases sizes_err hz0 with rfl | rfl<;>rfl
  with_reducible refine(Ranges_bad (zh (hs.below (bT W3))) (zh fun y h=>(hok.out y h).below (bT W3)) zo hz0 (zh (Tab.below hT.out (bT W3)))).mono ?_
  rintro e w4 ⟨rfl,b4⟩;replace b4:=zq (a:=w3) b4;replace Bz:=bT Bz b4;clear hz0;go_wp2_with fail
  with_reducible refine(awake20_q (zt hT hB Bz)).mono ?_
  rintro e w99 ⟨rfl,b99⟩;replace b99:=zq (a:=w4) b99;go_wp2_with fail
  go_ret
  exact⟨rfl,bT (bT hB Bz) (bT b99)⟩
 | ok l =>
  obtain⟨_,hlw0,hl8,hsum⟩:=great_in hin.out HG.out HLN.out hz0;have hlw:=zh hlw0;have hz:=zh hz0;have hzs:=sizes_steps hz0;clear hlw0;cases hbx0:boxB inp (LO.map fun x=>x.q) (HI.map fun x=>x.q) with
  | false =>
   with_reducible refine(Ranges_box (zh (hs.below (bT W3))) (zh fun y h=>(hok.out y h).below (bT W3)) zo hz0 (zh fun y h=>(hlw.out y h).below (bT W3)) (zh (HS1.out.below (bT W3))) (zh (HS2.out.below (bT W3))) (zh fun x h=>(HF1.out x h).below (bT W3)) (zh fun x h=>(HF2.out x h).below (bT W3)) ⟨zo,zo⟩ (zh hbx0) (zh (Tab.below hT.out (bT W3)))).mono ?_
   rintro e w4 ⟨rfl,b4⟩;replace b4:=zq (a:=w3) b4;replace Bz:=bT Bz b4;clear hz0 hbx0;go_wp2_with fail
   with_reducible refine(awake20_q (zt hT hB Bz)).mono ?_
   rintro e w99 ⟨rfl,b99⟩;replace b99:=zq (a:=w4) b99;go_wp2_with fail
   go_ret
   exact⟨rfl,bT (bT hB Bz) (bT b99)⟩
  | true =>
   have hbl:=boxB_len hbx0;have hi1:(n1:Int)=inp:=by
    have e1:=hbl.1;rw[nA] at e1;have e3:=HS1.out.1;omega
   obtain rfl:n1=n2:=by
    have e1:=hbl.2.1;rw[nA] at e1;have e3:=HS2.out.1;omega
   have HI1:=zh hi1;have hbx:=zh hbx0;have HN0:Hid ((l.map Int.toNat)[0]?=some n1):=zh (steps_zero hzs.2.2.2 hi1);replace HX0:=zh (zx HX0 Bz);clear hbl hi1 hbx0 hz0 hzs hB Bz HX1;have hB:=W3;clear W3;have Bz:=zr w3;with_reducible refine(Ranges_ok (zh (hs.below (bT hB (bT (b:=w3) Bz)))) (zh fun y h=>(hok.out y h).below (bT hB (bT (b:=w3) Bz))) zo hz.out (zh fun y h=>(hlw.out y h).below (bT hB (bT (b:=w3) Bz))) (zh (HS1.out.below (bT hB (bT (b:=w3) Bz)))) (zh (HS2.out.below (bT hB (bT (b:=w3) Bz)))) (zh fun x h=>(HF1.out x h).below (bT hB (bT (b:=w3) Bz))) (zh fun x h=>(HF2.out x h).below (bT hB (bT (b:=w3) Bz))) ⟨zo,zo⟩ hbx hl8 hsum (zt hT hB Bz)).mono ?_
   rintro e w21 ⟨H21,c21,O21,rfl,h21,j⟩;replace j:=zq (a:=w3) j;replace Bz:=bT Bz j;clear j;have hl21:=h21.here.1;have ht21:S3 w21 O21 _:=h21.here.2;clear h21;go_wp2_with fail
   with_reducible refine(between_q (HS1.out.below (bT hB (bT (b:=w21) Bz))) (HS2.out.below (bT hB (bT (b:=w21) Bz))) (zh fun x h=>(HT1.out x h).below (bT hB (bT (b:=w21) Bz))) (zh fun x h=>(HT2.out x h).below (bT hB (bT (b:=w21) Bz))) (hp.below (bT hB (bT (b:=w21) Bz))) hpi zo zo (zt hT hB Bz)).mono ?_
   rintro e w22 ⟨XH,xc,XO,rfl,hx22,hqt,hxl,j⟩;replace j:=zq (a:=w21) j;replace hl21:=hl21.below j;replace ht21:=ht21.below j;replace Bz:=bT Bz j;clear j;have hsx:=hx22.here.1;have hax:=hx22.here.2;have HQT:=zh hqt;have HXL:=zh hxl;have HBX:Hid (boxB inp (XO.map fun x=>x.q) (XO.map fun x=>x.q)=true):=zh (boxB_yes (by rw[nA,HXL.out];exact HI1.out) (by rw[nA,HXL.out];exact HI1.out) fun i x y h1 h2=>by rw[h1] at h2;cases h2;exact pE);clear hx22 hqt hxl;obtain⟨pa0,pa1,-⟩:=(zx HX0 Bz).cz;go_wp2_with fail
   with_reducible refine(Lower_ok (zh (hs.below (bT hB (bT (b:=w22) Bz)))) (zh fun y h=>(hok.out y h).below (bT hB (bT (b:=w22) Bz))) zo zo hz.out (zh fun y h=>(hlw.out y h).below (bT hB (bT (b:=w22) Bz))) (zt hT hB Bz)).mono ?_
   rintro e w23 ⟨HL,hcl,O1,rfl,hlr23,j⟩;replace j:=zq (a:=w22) j;replace hax:=hax.below j;replace hl21:=hl21.below j;replace ht21:=ht21.below j;replace hsx:=hsx.below j;replace Bz:=bT Bz j;clear j;have hlo:=hlr23.here.1;have hla:A2L w23 O1 L:=hlr23.here.2;clear hlr23;clear pa0 pa1;go_upto_region 9 with(fail)
   obtain⟨V21,hW,x4,hN⟩:=zAb w23 #[.int .i64 inp,.slice HL n hcl] 24;rw[←hW];clear hW;obtain⟨v4,hb4⟩:=ze w23.heap.size;rw[←hb4] at x4 ⊢;have o0_4:w.heap.size<v4:=zi (zx HX0 Bz).lt;have ow_4:w.heap.size≤v4:=zi (zw hB Bz);replace hax:=hax.below hN;replace hl21:=hl21.below hN;replace hla:=hla.below hN;replace hlo:=hlo.below hN;replace ht21:=ht21.below hN;replace hsx:=hsx.below hN;replace hB:=bT (bT hB Bz) hN;replace HX0:=zba HX0 Bz hN;have HX4:=zh x4;clear x4 hN Bz hb4;have Bz:=zr V21;obtain⟨pe0,pe1,-⟩:=(zx HX4 Bz).cz;go_wp2_with fail
   with_reducible refine(trace_q (zh (Sl.below hlo)) (zh fun y h=>(A2L.ok (A2L.below hla) y h)) zo (A2L.chk (A2L.below hla) hz.out) (Sl.below hsx) (zh (AllRn.below hax)) HI1.out zo (zh (A2L.tr (A2L.below hla) hz.out hl8 hsum)) HN0.out (zt hT hB Bz)).mono ?_
   rintro e w24 ⟨TH,tc,TO,rfl,htr24,htc,j⟩;replace j:=zq (a:=V21) j;replace hax:=hax.below j;replace hl21:=hl21.below j;replace ht21:=ht21.below j;replace hsx:=hsx.below j;replace Bz:=bT Bz j;clear j;have hst:=htr24.here.1;have hft:T3 w24 TO (trcE (L.map valL) (l.map Int.toNat) (XO.map fun x=>x.q) n):=by
    have h9:=htr24.here.2;rw[A2L.vals hla] at h9;exact h9
   clear htr24;clear pe0 pe1;obtain⟨pa0,pa1,-⟩:=(zx HX0 Bz).cz;go_wp2_with fail
   with_reducible refine(Ranges_ok (zh (hs.below (bT hB (bT (b:=w24) Bz)))) (zh fun y h=>(hok.out y h).below (bT hB (bT (b:=w24) Bz))) zo hz.out (zh fun y h=>(hlw.out y h).below (bT hB (bT (b:=w24) Bz))) (zh (Sl.below hsx)) (zh (Sl.below hsx)) (zh ((AllRn.below hax).frok zo)) (zh ((AllRn.below hax).frok zo)) ⟨zo,zo⟩ HBX hl8 hsum (zt hT hB Bz)).mono ?_
   rintro e w25 ⟨H25,c25,O25,rfl,h25,j⟩;replace j:=zq (a:=w24) j;replace hft:=hft.below j;replace hl21:=hl21.below j;replace ht21:=ht21.below j;replace hst:=hst.below j;replace Bz:=bT Bz j;clear j;have hl25:=h25.here.1;have ht25:S3 w25 O25 _:=h25.here.2;clear h25;clear pa0 pa1;go_upto_region 13 with(fail)
   have KB:=zh (bT hB Bz);obtain⟨wx,hwx⟩:∃x,x=w25:=⟨_,rfl⟩;rw[←hwx] at KB;have HNET:Hid (NetOk (L.map valL) (l.map Int.toNat)):=zh (by have h9:=(A2L.tr hla hz.out hl8 hsum).1;rw[A2L.vals hla] at h9;exact h9);have HTRC:=zh (HNET.out.trace (x:=XO.map fun x=>x.q) (by rw[nA,HXL.out];exact HN0.out) (fun q hq=>by obtain⟨x,hx,rfl⟩:=xC.1 hq;have:=(hax x hx).2.2;omega));have KL1:Hid (Sl Sp.cs 2 wx H21 n c21 O21):=zh (by rw[hwx];exact hl21);have KS1:Hid (S3 wx O21 _):=zh (by rw[hwx];exact ht21);have KL2:Hid (Sl Sp.cs 2 wx H25 n c25 O25):=zh (by rw[hwx];exact hl25);have KS2:Hid (S3 wx O25 _):=zh (by rw[hwx];exact ht25);have KST:Hid (Sl Fq.cs 1 wx TH (n+1) tc TO):=zh (by rw[hwx];exact hst);have KFT:Hid (T3 wx TO _):=zh (by rw[hwx];exact hft);rw[←hwx];clear hwx hl21 ht21 hl25 ht25 hst hft hB Bz HX0;obtain⟨tb,to',he,hel⟩:=KST.out.at Fq.cs_len zo zo;rw[he];have HTE:=zh he;clear he;have j0:(1:Int)≤((n+1:Nat):Int):=zo;have j1:1≤n+1:=zo;go_wp2_with fail
   case inl hc1 =>
    have hnc:¬(0:Int)<(n:Int):=zo;have hB:=KB.out;have Bz:=zr wx;refine wp_loop_rounds 1 ?_;rw[rounds_succ];go_wp2_with fail
    with_reducible refine(awake20_q (zt hT hB Bz)).mono ?_
    rintro e w99 ⟨rfl,b99⟩;replace b99:=zq (a:=wx) b99;go_wp2_with fail
    go_ret
    exact⟨rfl,bT (bT hB Bz) (bT b99)⟩
   case inr hc1 =>
    go_loopg [97] n (fun gk s wr=>RH1 w wx n gk s wr)
    case atStart=>exact⟨0,uA _,aA _,rfl,bT KB.out,by go_grown⟩
    case round =>
     obtain⟨i,hi,hgk,rfl,hB,hBW⟩:=hrel;have HGK:=zh hgk;clear hgk;by_cases hlt:i<n
     ·obtain⟨lb,lo,he1,hel1⟩:=KL1.out.at Sp.cs_len zo zo;obtain⟨pb',po',he2,hel2⟩:=KL2.out.at Sp.cs_len zo zo;have HLE1:=zh he1;have HLE2:=zh he2;obtain⟨v,hv⟩:∃v,O21[i]?=some v:=⟨O21[i]'(by rw[KL1.out.1];exact hlt),cA _⟩;obtain⟨p,hpp⟩:∃p,O25[i]?=some p:=⟨O25[i]'(by rw[KL2.out.1];exact hlt),cA _⟩;obtain⟨t,ht⟩:∃t,TO[i+1]?=some t:=⟨TO[i+1]'(by rw[KST.out.1];omega),cA _⟩;have hLi:i<(L.map valL).length:=by rw[nA,HLN.out];exact hlt
      have uv:=KS1.out.2 i v _ hv (spnE_at hlt);have up:=KS2.out.2 i p _ hpp (spnE_at hlt);have ut:=KFT.out.2 (i+1) t _ ht (trcE_at zo);rw[point_at hLi] at up;have hh:=hold_all (qt_holds HQT.out (by rw[HXL.out];exact HS1.out.1.symm) hbx.out) (spans_at hLi) (trace_at hLi);have htn:=(HTRC.out (i+1) hLi).1;have hdg:=(HNET.out.dig (i:=i+1) hLi).2;have hN1:=HNET.out.pos _ (eA htn);have hN2:=wA (mem_sum (eA htn)) HNET.out.sum;have hmv:=hel1 i v hv;have hmp:=hel2 i p hpp;have hmt:ElA wx tb (to'+1+i) (Fq.cs t):=by have:=hel (i+1) t ht;rwa [kC,show to'+(i+1)=to'+1+i by omega] at this
      obtain⟨D,hD⟩:∃D,D=digsF ((l.map Int.toNat).take (i+1)):=⟨_,rfl⟩;rw[←hD] at uv up ut hdg;obtain⟨N,vA,vc,vL,vB,vd,vM,tA,rc,tL,pA,pc,pL,pB,pd,pM,rfl,rfl,rfl,hNx,⟨s1,s2,s3,s4,s5⟩,hU⟩:=Units.mk3 uv ut up hh;rw[←hNx] at hN1 hN2;have HU:=zh hU;have HDD:=zh hdg;clear hNx hU uv up ut hh htn hD hdg hv hpp ht hel1 hel2 he1 he2 hLi;obtain⟨b1,o1,rfl,m1⟩:=s1.at Fr.cs_len zo zo;obtain⟨b2,o2,rfl,m2⟩:=s2.at Fr.cs_len zo zo;obtain⟨b3,o3,rfl,m3⟩:=s3.at Fr.cs_len zo zo;obtain⟨b4,o4,rfl,m4⟩:=s4.at Fr.cs_len zo zo;obtain⟨b5,o5,rfl,m5⟩:=s5.at Fr.cs_len zo zo;have HN:=zh (And.intro s1.1 (And.intro s2.1 (And.intro s3.1 (And.intro s4.1 s5.1))));clear s1 s2 s3 s4 s5;have g2:((N:Int) !=(N:Int))=false:=by simp
      have i1:(i:Int)<(n:Int):=zo;have i2:(0:Int)≤(i:Int):=zo;rw[HLE1.out,HLE2.out];have Bz:=zr wr;have pA0:=(hmt.below (bT hBW Bz)).c0 (u:=.slice (some ⟨b3,o3,none⟩) N rc) rfl;have pB0:=(hmv.below (bT hBW Bz)).c0 (u:=.slice (some ⟨b1,o1,none⟩) N vc) rfl;have pB1:=(hmv.below (bT hBW Bz)).at 1 (.slice (some ⟨b2,o2,none⟩) N vd) rfl;go_wp2_with fail
      (try simp only[vAa,vBa,vC])
      refine zl (zz [0,1,2,3,4,5,6,7,8,9,10,11,12,13,14,15,16,17,18,19,20,21,22,23,24,25] .done) [] (zsa pA0 (zsa pB0 (zIa pB1))) ?_;iterate 26 (refine zUa ?_;try simp only[uW,uX,uY,uZ])
      refine wpPlan_done ?_;go_wp2_with fail
      have KB2:=zh (bT hB Bz);have KW2:=zh (bT hBW Bz);clear hB hBW Bz;obtain⟨wo,hwo⟩:∃x:World,x=wr:=⟨_,rfl⟩;subst hwo;obtain⟨gk1,hgk1⟩:∃x:Nat,x=gk:=⟨_,rfl⟩;subst hgk1;go_loopg [131] N (fun gk s wr=>RH1 w wx N gk s wr)
      case atStart=>exact⟨0,uA _,aA _,rfl,bT KB2.out,bT KW2.out⟩
      case round =>
       clear KB2 KW2;obtain⟨k,hk,hgk,rfl,hB,hBW⟩:=hrel;have HGN:=zh hgk;clear hgk;by_cases hlk:k<N
       ·obtain⟨a,ha⟩:∃a,vL[k]?=some a:=⟨vL[k]'(by rw[HN.out.1];exact hlk),cA _⟩;obtain⟨bb,hb⟩:∃b,vM[k]?=some b:=⟨vM[k]'(by rw[HN.out.2.1];exact hlk),cA _⟩;obtain⟨z,hz'⟩:∃z,tL[k]?=some z:=⟨tL[k]'(by rw[HN.out.2.2.1];exact hlk),cA _⟩;obtain⟨cc,hc'⟩:∃c,pL[k]?=some c:=⟨pL[k]'(by rw[HN.out.2.2.2.1];exact hlk),cA _⟩;obtain⟨d,hd⟩:∃d,pM[k]?=some d:=⟨pM[k]'(by rw[HN.out.2.2.2.2];exact hlk),cA _⟩;have hna:=m1 k a ha;have hnbb:=m2 k bb hb;have hnz:=m3 k z hz';have hncc:=m4 k cc hc';have hnd:=m5 k d hd;have ga:=HU.out.a1 a (eA ha);have gb:=HU.out.a2 bb (eA hb);have gz:=HU.out.a3 z (eA hz');have gc:=HU.out.a4 cc (eA hc');have gd:=HU.out.a5 d (eA hd);have hle:=HU.out.le k a bb z cc d ha hb hz' hc' hd;have ra:=ga.1.below hBW;have rbb:=gb.1.below hBW;have rz:=gz.1.below hBW;have rcc:=gc.1.below hBW;have rd:=gd.1.below hBW;have HSa:Hid (sz a.q≤D):=zh (zi ga.2.2);have HSbb:Hid (sz bb.q≤D):=zh (zi gb.2.2);have HSz:Hid (sz z.q≤D):=zh (zi gz.2.2);have HScc:Hid (sz cc.q≤D):=zh (zi gc.2.2);have HSd:Hid (sz d.q≤D):=zh (zi gd.2.2);have hdd:=HDD.out;obtain⟨z1,hz1⟩:∃z1,cmpQ a.q z.q=z1:=⟨_,rfl⟩;obtain⟨z2,hz2⟩:∃z2,cmpQ z.q bb.q=z2:=⟨_,rfl⟩;have k3:¬(0:Int)<z1:=by rw[←hz1,cmpQ_gt];exact Rat.not_lt.2 hle.1
        have k4:¬(0:Int)<z2:=by rw[←hz2,cmpQ_gt];exact Rat.not_lt.2 hle.2.1
        have k5:decide ((0:Int)<z1)=false:=yA k3;have k6:decide ((0:Int)<z2)=false:=yA k4;have HC1:=zh hz1;have HC2:=zh hz2;have HEcc:Hid (decide (cc.q=z.q)=true):=zh (jA hle.2.2.1);have HEd:Hid (decide (d.q=z.q)=true):=zh (jA hle.2.2.2);have k1:(k:Int)<(N:Int):=zo;have k2:(0:Int)≤(k:Int):=zo;clear ha hb hz' hc' hd ga gb gz gc gd hle hz1 hz2;have Bz:=zr wr;have pM0:=(hnz.below (bT hBW Bz)).c0 (u:=.bool z.s) rfl;have pM1:=(hnz.below (bT hBW Bz)).at 1 (.slice z.A z.l z.c) rfl;have pM2:=(hnz.below (bT hBW Bz)).at 2 (.bool z.s') rfl;have pM3:=(hnz.below (bT hBW Bz)).at 3 (.slice z.A' z.l' z.c') rfl;go_upto_region 22 with(fail)
        obtain⟨V51,hW,x0,hN⟩:=zAb wr #[.bool z.s,.slice z.A z.l z.c,.bool z.s',.slice z.A' z.l' z.c'] 47;rw[←hW];clear hW;obtain⟨v0,hb0⟩:=ze wr.heap.size;rw[←hb0] at x0 ⊢;have ow_0:w.heap.size≤v0:=zi (zw hB Bz);replace ra:=ra.below hN;replace rbb:=rbb.below hN;replace rcc:=rcc.below hN;replace rd:=rd.below hN;replace rz:=rz.below hN;replace hB:=bT (bT hB Bz) hN;replace hBW:=bT (bT hBW Bz) hN;have HX0:=zh x0;clear x0 hN Bz hb0;have Bz:=zr V51;clear pM0 pM1 pM2 pM3;obtain⟨pa0,pa1,pa2,pa3,-⟩:=(zx HX0 Bz).cz;have pB0:=(hmv.below (bT hBW Bz)).c0 (u:=.slice (some ⟨b1,o1,none⟩) N vc) rfl;have pB1:=(hmv.below (bT hBW Bz)).at 1 (.slice (some ⟨b2,o2,none⟩) N vd) rfl;have pC0:=(hmp.below (bT hBW Bz)).c0 (u:=.slice (some ⟨b4,o4,none⟩) N pc) rfl;have pC1:=(hmp.below (bT hBW Bz)).at 1 (.slice (some ⟨b5,o5,none⟩) N pd) rfl;have pK0:=(hna.below (bT hBW Bz)).c0 (u:=.bool a.s) rfl;have pK1:=(hna.below (bT hBW Bz)).at 1 (.slice a.A a.l a.c) rfl;have pK2:=(hna.below (bT hBW Bz)).at 2 (.bool a.s') rfl;have pK3:=(hna.below (bT hBW Bz)).at 3 (.slice a.A' a.l' a.c') rfl;have pL0:=(hnbb.below (bT hBW Bz)).c0 (u:=.bool bb.s) rfl;have pL1:=(hnbb.below (bT hBW Bz)).at 1 (.slice bb.A bb.l bb.c) rfl;have pL2:=(hnbb.below (bT hBW Bz)).at 2 (.bool bb.s') rfl;have pL3:=(hnbb.below (bT hBW Bz)).at 3 (.slice bb.A' bb.l' bb.c') rfl;have pN0:=(hncc.below (bT hBW Bz)).c0 (u:=.bool cc.s) rfl;have pN1:=(hncc.below (bT hBW Bz)).at 1 (.slice cc.A cc.l cc.c) rfl;have pN2:=(hncc.below (bT hBW Bz)).at 2 (.bool cc.s') rfl;have pN3:=(hncc.below (bT hBW Bz)).at 3 (.slice cc.A' cc.l' cc.c') rfl;obtain⟨pO0,pO1,pO2,pO3,-⟩:=(hnd.below (bT hBW Bz)).ez;go_wp2_with fail
        (try simp only[vAa,vBa,vC])
        refine zl (zz [0,1,2,3,4,5,6,7,8] (.only 9 (zz [10,11,12,13,14,15,16,17,18,19,20] (.only 21 (zz [22,23,24,25,26,27,28,29,30,31,32,33] (.only 34 (zz [35,36,37,38,39,40,41,42,43,44,45,46] (.only 47 (zz [48,49] .done))))))))) [] (zsa pa0 (zsa pa1 (zsa pa2 (zsa pa3 (zsa pB0 (zsa pB1 (zsa pC0 (zsa pC1 (zsa pK0 (zsa pK1 (zsa pK2 (zsa pK3 (zsa pL0 (zsa pL1 (zsa pL2 (zsa pL3 (zsa pN0 (zsa pN1 (zsa pN2 (zsa pN3 (zsa pO0 (zsa pO1 (zsa pO2 (zIa pO3)))))))))))))))))))))))) ?_;iterate 9 (refine zUa ?_;try simp only[uW,uX,uY,uZ])
        refine zC 145 rfl rfl (fun K hK=>?_);go_simp
        with_reducible refine(cmp_q (RN.r' (RN.below ra) HSa.out) (RN.r' (RN.below rz) HSz.out) zo z1 HC1).mono ?_
        rintro e w51 ⟨rfl,b51⟩;replace b51:=zq (a:=V51) b51;replace rbb:=rbb.below b51;replace rcc:=rcc.below b51;replace rd:=rd.below b51;replace rz:=rz.below b51;replace Bz:=bT Bz b51;clear b51;clear pa0 pa1 pa2 pa3 pB0 pB1 pC0 pC1 pK0 pK1 pK2 pK3 pL0 pL1 pL2 pL3 pN0 pN1 pN2 pN3 pO0 pO1 pO2 pO3;obtain⟨pa0,pa1,pa2,pa3,-⟩:=(zx HX0 Bz).cz;have pB0:=(hmv.below (bT hBW Bz)).c0 (u:=.slice (some ⟨b1,o1,none⟩) N vc) rfl;have pB1:=(hmv.below (bT hBW Bz)).at 1 (.slice (some ⟨b2,o2,none⟩) N vd) rfl;have pC0:=(hmp.below (bT hBW Bz)).c0 (u:=.slice (some ⟨b4,o4,none⟩) N pc) rfl;have pC1:=(hmp.below (bT hBW Bz)).at 1 (.slice (some ⟨b5,o5,none⟩) N pd) rfl;have pK0:=(hna.below (bT hBW Bz)).c0 (u:=.bool a.s) rfl;have pK1:=(hna.below (bT hBW Bz)).at 1 (.slice a.A a.l a.c) rfl;have pK2:=(hna.below (bT hBW Bz)).at 2 (.bool a.s') rfl;have pK3:=(hna.below (bT hBW Bz)).at 3 (.slice a.A' a.l' a.c') rfl;have pL0:=(hnbb.below (bT hBW Bz)).c0 (u:=.bool bb.s) rfl;have pL1:=(hnbb.below (bT hBW Bz)).at 1 (.slice bb.A bb.l bb.c) rfl;have pL2:=(hnbb.below (bT hBW Bz)).at 2 (.bool bb.s') rfl;have pL3:=(hnbb.below (bT hBW Bz)).at 3 (.slice bb.A' bb.l' bb.c') rfl;have pN0:=(hncc.below (bT hBW Bz)).c0 (u:=.bool cc.s) rfl;have pN1:=(hncc.below (bT hBW Bz)).at 1 (.slice cc.A cc.l cc.c) rfl;have pN2:=(hncc.below (bT hBW Bz)).at 2 (.bool cc.s') rfl;have pN3:=(hncc.below (bT hBW Bz)).at 3 (.slice cc.A' cc.l' cc.c') rfl;obtain⟨pO0,pO1,pO2,pO3,-⟩:=(hnd.below (bT hBW Bz)).ez;refine hK.out _ _ ⟨pa0,pa1,pa2,pa3,pB0,pB1,pC0,pC1,pK0,pK1,pK2,pK3,pL0,pL1,pL2,pL3,pN0,pN1,pN2,pN3,pO0,pO1,pO2,pO3⟩ (fun _=>?_);try simp only[uW,uX,uY,uZ]
        clear hK K;iterate 11 (refine zUa ?_;try simp only[uW,uX,uY,uZ])
        refine zC 157 rfl rfl (fun K hK=>?_);go_simp
        with_reducible refine(cmp_q (RN.r' (RN.below rz) HSz.out) (RN.r' (RN.below rbb) HSbb.out) zo z2 HC2).mono ?_
        rintro e w52 ⟨rfl,b52⟩;replace b52:=zq (a:=w51) b52;replace rcc:=rcc.below b52;replace rd:=rd.below b52;replace rz:=rz.below b52;replace Bz:=bT Bz b52;clear b52;clear pa0 pa1 pa2 pa3 pB0 pB1 pC0 pC1 pK0 pK1 pK2 pK3 pL0 pL1 pL2 pL3 pN0 pN1 pN2 pN3 pO0 pO1 pO2 pO3;obtain⟨pa0,pa1,pa2,pa3,-⟩:=(zx HX0 Bz).cz;have pB0:=(hmv.below (bT hBW Bz)).c0 (u:=.slice (some ⟨b1,o1,none⟩) N vc) rfl;have pB1:=(hmv.below (bT hBW Bz)).at 1 (.slice (some ⟨b2,o2,none⟩) N vd) rfl;have pC0:=(hmp.below (bT hBW Bz)).c0 (u:=.slice (some ⟨b4,o4,none⟩) N pc) rfl;have pC1:=(hmp.below (bT hBW Bz)).at 1 (.slice (some ⟨b5,o5,none⟩) N pd) rfl;have pK0:=(hna.below (bT hBW Bz)).c0 (u:=.bool a.s) rfl;have pK1:=(hna.below (bT hBW Bz)).at 1 (.slice a.A a.l a.c) rfl;have pK2:=(hna.below (bT hBW Bz)).at 2 (.bool a.s') rfl;have pK3:=(hna.below (bT hBW Bz)).at 3 (.slice a.A' a.l' a.c') rfl;have pL0:=(hnbb.below (bT hBW Bz)).c0 (u:=.bool bb.s) rfl;have pL1:=(hnbb.below (bT hBW Bz)).at 1 (.slice bb.A bb.l bb.c) rfl;have pL2:=(hnbb.below (bT hBW Bz)).at 2 (.bool bb.s') rfl;have pL3:=(hnbb.below (bT hBW Bz)).at 3 (.slice bb.A' bb.l' bb.c') rfl;have pN0:=(hncc.below (bT hBW Bz)).c0 (u:=.bool cc.s) rfl;have pN1:=(hncc.below (bT hBW Bz)).at 1 (.slice cc.A cc.l cc.c) rfl;have pN2:=(hncc.below (bT hBW Bz)).at 2 (.bool cc.s') rfl;have pN3:=(hncc.below (bT hBW Bz)).at 3 (.slice cc.A' cc.l' cc.c') rfl;obtain⟨pO0,pO1,pO2,pO3,-⟩:=(hnd.below (bT hBW Bz)).ez;refine hK.out _ _ ⟨pa0,pa1,pa2,pa3,pB0,pB1,pC0,pC1,pK0,pK1,pK2,pK3,pL0,pL1,pL2,pL3,pN0,pN1,pN2,pN3,pO0,pO1,pO2,pO3⟩ (fun _=>?_);try simp only[uW,uX,uY,uZ]
        clear hK K;iterate 12 (refine zUa ?_;try simp only[uW,uX,uY,uZ])
        refine zC 170 rfl rfl (fun K hK=>?_);go_simp
        with_reducible refine(same_q (RN.r' (RN.below rcc) HScc.out) (RN.r' (RN.below rz) HSz.out) zo true HEcc).mono ?_
        rintro e w53 ⟨rfl,b53⟩;replace b53:=zq (a:=w52) b53;replace rd:=rd.below b53;replace rz:=rz.below b53;replace Bz:=bT Bz b53;clear b53;clear pa0 pa1 pa2 pa3 pB0 pB1 pC0 pC1 pK0 pK1 pK2 pK3 pL0 pL1 pL2 pL3 pN0 pN1 pN2 pN3 pO0 pO1 pO2 pO3;obtain⟨pa0,pa1,pa2,pa3,-⟩:=(zx HX0 Bz).cz;have pB0:=(hmv.below (bT hBW Bz)).c0 (u:=.slice (some ⟨b1,o1,none⟩) N vc) rfl;have pB1:=(hmv.below (bT hBW Bz)).at 1 (.slice (some ⟨b2,o2,none⟩) N vd) rfl;have pC0:=(hmp.below (bT hBW Bz)).c0 (u:=.slice (some ⟨b4,o4,none⟩) N pc) rfl;have pC1:=(hmp.below (bT hBW Bz)).at 1 (.slice (some ⟨b5,o5,none⟩) N pd) rfl;have pK0:=(hna.below (bT hBW Bz)).c0 (u:=.bool a.s) rfl;have pK1:=(hna.below (bT hBW Bz)).at 1 (.slice a.A a.l a.c) rfl;have pK2:=(hna.below (bT hBW Bz)).at 2 (.bool a.s') rfl;have pK3:=(hna.below (bT hBW Bz)).at 3 (.slice a.A' a.l' a.c') rfl;have pL0:=(hnbb.below (bT hBW Bz)).c0 (u:=.bool bb.s) rfl;have pL1:=(hnbb.below (bT hBW Bz)).at 1 (.slice bb.A bb.l bb.c) rfl;have pL2:=(hnbb.below (bT hBW Bz)).at 2 (.bool bb.s') rfl;have pL3:=(hnbb.below (bT hBW Bz)).at 3 (.slice bb.A' bb.l' bb.c') rfl;have pN0:=(hncc.below (bT hBW Bz)).c0 (u:=.bool cc.s) rfl;have pN1:=(hncc.below (bT hBW Bz)).at 1 (.slice cc.A cc.l cc.c) rfl;have pN2:=(hncc.below (bT hBW Bz)).at 2 (.bool cc.s') rfl;have pN3:=(hncc.below (bT hBW Bz)).at 3 (.slice cc.A' cc.l' cc.c') rfl;obtain⟨pO0,pO1,pO2,pO3,-⟩:=(hnd.below (bT hBW Bz)).ez;refine hK.out _ _ ⟨pa0,pa1,pa2,pa3,pB0,pB1,pC0,pC1,pK0,pK1,pK2,pK3,pL0,pL1,pL2,pL3,pN0,pN1,pN2,pN3,pO0,pO1,pO2,pO3⟩ (fun _=>?_);try simp only[uW,uX,uY,uZ]
        clear hK K;iterate 12 (refine zUa ?_;try simp only[uW,uX,uY,uZ])
        refine zC 183 rfl rfl (fun K hK=>?_);go_simp
        with_reducible refine(same_q (RN.r' (RN.below rd) HSd.out) (RN.r' (RN.below rz) HSz.out) zo true HEd).mono ?_
        rintro e w54 ⟨rfl,b54⟩;replace b54:=zq (a:=w53) b54;replace Bz:=bT Bz b54;clear b54;clear pa0 pa1 pa2 pa3 pB0 pB1 pC0 pC1 pK0 pK1 pK2 pK3 pL0 pL1 pL2 pL3 pN0 pN1 pN2 pN3 pO0 pO1 pO2 pO3;obtain⟨pa0,pa1,pa2,pa3,-⟩:=(zx HX0 Bz).cz;have pB0:=(hmv.below (bT hBW Bz)).c0 (u:=.slice (some ⟨b1,o1,none⟩) N vc) rfl;have pB1:=(hmv.below (bT hBW Bz)).at 1 (.slice (some ⟨b2,o2,none⟩) N vd) rfl;have pC0:=(hmp.below (bT hBW Bz)).c0 (u:=.slice (some ⟨b4,o4,none⟩) N pc) rfl;have pC1:=(hmp.below (bT hBW Bz)).at 1 (.slice (some ⟨b5,o5,none⟩) N pd) rfl;have pK0:=(hna.below (bT hBW Bz)).c0 (u:=.bool a.s) rfl;have pK1:=(hna.below (bT hBW Bz)).at 1 (.slice a.A a.l a.c) rfl;have pK2:=(hna.below (bT hBW Bz)).at 2 (.bool a.s') rfl;have pK3:=(hna.below (bT hBW Bz)).at 3 (.slice a.A' a.l' a.c') rfl;have pL0:=(hnbb.below (bT hBW Bz)).c0 (u:=.bool bb.s) rfl;have pL1:=(hnbb.below (bT hBW Bz)).at 1 (.slice bb.A bb.l bb.c) rfl;have pL2:=(hnbb.below (bT hBW Bz)).at 2 (.bool bb.s') rfl;have pL3:=(hnbb.below (bT hBW Bz)).at 3 (.slice bb.A' bb.l' bb.c') rfl;have pN0:=(hncc.below (bT hBW Bz)).c0 (u:=.bool cc.s) rfl;have pN1:=(hncc.below (bT hBW Bz)).at 1 (.slice cc.A cc.l cc.c) rfl;have pN2:=(hncc.below (bT hBW Bz)).at 2 (.bool cc.s') rfl;have pN3:=(hncc.below (bT hBW Bz)).at 3 (.slice cc.A' cc.l' cc.c') rfl;obtain⟨pO0,pO1,pO2,pO3,-⟩:=(hnd.below (bT hBW Bz)).ez;refine hK.out _ _ ⟨pa0,pa1,pa2,pa3,pB0,pB1,pC0,pC1,pK0,pK1,pK2,pK3,pL0,pL1,pL2,pL3,pN0,pN1,pN2,pN3,pO0,pO1,pO2,pO3⟩ (fun _=>?_);try simp only[uW,uX,uY,uZ]
        clear hK K;iterate 2 (refine zUa ?_;try simp only[uW,uX,uY,uZ])
        refine wpPlan_done ?_;go_wp2_with fail
        go_roundg (N-(k+1))
        case measure=>have:=HGN.out;omega
        case rel=>exact⟨k+1,zo,zo,by go_num,bT (bT hB Bz),bT (bT hBW Bz)⟩
       ·obtain rfl:N=k:=zo;have k1:¬(N:Int)<(N:Int):=zo;go_wp2_with fail
        rw[←HLE1.out,←HLE2.out];go_roundg (n-(i+1))
        case measure=>have:=HGK.out;omega
        case rel=>exact⟨i+1,zo,zo,by go_num,bT hB,bT hBW⟩
     ·obtain rfl:n=i:=zo;have i1:¬(n:Int)<(n:Int):=zo;have Bz:=zr wr;go_wp2_with fail
      with_reducible refine(awake20_q (zt hT hB Bz)).mono ?_
      rintro e w99 ⟨rfl,b99⟩;replace b99:=zq (a:=wr) b99;go_wp2_with fail
      go_ret
      exact⟨rfl,bT (bT hB Bz) (bT b99)⟩
end Go.Proofs.YtiondclbdgijbaaGreatDoor
