import Derived.Test.YteggjbgbknkoiaaGreatDoorULu4
import Derived.Test.YteggjbgbknkoiaaGreatDoorURowE
set_option maxHeartbeats 16000000
set_option maxRecDepth 100000
namespace Go.Proofs.YteggjbgbknkoiaaGreatDoor
open Go.RowKit Tw
variable {w':World} {A:Option Addr} {m:Nat} {CL:List Vc}
theorem st3_2_1 {w:World} {b:Nat} {t:TypeId} {u0 u1 u2:Value} (v2:Value) (h0:Bx w b #[u0,u1,u2] t) (n2:∀n,u2≠.int .u64 n) :
  ∃W,W=w.setCell ⟨b,2,none⟩ v2∧Bx W b #[u0,u1,v2] t∧K64 w W∧(∀b' cs t',b'≠b→Bx w b' cs t'→Bx W b' cs t')∧(∀B w0,B≤b→Below B w0 w→Below B w0 W):=by
 have h3:Bx (w.setCell ⟨b,2,none⟩ v2) b #[u0,u1,v2] t:=h0.set 2 v2;have k2:K64 (w) (w.setCell ⟨b,2,none⟩ v2):=K64.box h0 (i:=2) rfl n2 v2;exact⟨_,rfl,h3,k2,fun b' cs t' hb hx=>(hx.far hb v2),fun B w0 hB hb=>(hb.setCell hB v2)⟩
theorem TellsNx.some {w:World} {r:Option Piv} {f:FuncId} {args:Array Value} {pc co k:Int} (h:Calls Tryz.prog f args w (TellsNx w r)) (hr:r=Option.some ⟨pc,co,k⟩) :
  Calls Tryz.prog f args w fun e w'=>e=.returned (.tuple #[.agg #[.int .i64 pc,.int .i64 co,.int .i64 k],.bool true])∧Below w.heap.size w w':=h.mono fun e w' ⟨p,h1,h2,h3⟩=>by
 have:=h2 _ hr;subst this hr;exact⟨h1,h3⟩
theorem TellsNx.none {w:World} {r:Option Piv} {f:FuncId} {args:Array Value} (h:Calls Tryz.prog f args w (TellsNx w r)) (hr:r=Option.none) :
  Calls Tryz.prog f args w fun e w'=>∃p:Piv,e=.returned (.tuple #[.agg #[.int .i64 p.cost,.int .i64 p.col,.int .i64 p.row],.bool false])∧Below w.heap.size w w':=h.mono fun e w' ⟨p,h1,h2,h3⟩=>by
 subst hr;exact⟨p,h1,h3⟩
theorem OffV.new {w:World} {B g ob fb n i k a c:Nat} {H:Option Addr} {hc:Nat} {X:Value} {V:List Vc} {OB:List Bool} {LS:List StM} {M:Nat} {K:Nat→Nat} {L:List Tm} {e:TypeId} {xs:List Value} (h:FM w B g ob fb n i H hc X V OB LS M K)
  (ho:OwnR w' w.heap.size e k (.slice A a c) a xs) (hl:g<w.heap.size∧ob<w.heap.size∧fb<w.heap.size):OffV g ob fb (.slice H i hc) ⟨A,a,c,L⟩:=by
 have hb:∀b,(vsl ⟨A,a,c,L⟩).ownBlock=some b→w.heap.size≤b:=fun b e=>ho.base b e;refine⟨fun e=>?_,fun e=>?_,fun e=>?_,?_⟩
 ·have:=hb g e.symm;omega
 ·have:=hb ob e.symm;omega
 ·have:=hb fb e.symm;omega
 ·cases e:(vsl ⟨A,a,c,L⟩).ownBlock with
  | none=>exact .inl e
  | some b=>exact .inr fun e2=>by have h1:=hb b e;have h2:=h.stp.lt b (e2.symm.trans e);omega
theorem TS.grown {w:World} {B g n nx M:Nat} {X:Value} {xs:List Value} {V:List Vc} {x y:Value} (h:TS w B g n X nx xs V M) (hg:Grew w w' x y) (hx:x.ownBlock≠some g) (hv:ApV x V) (hX:Ap X x):TS w' B g n X nx xs V M :=
 ⟨h.out.grown hg (.inr fun e=>hx e.symm),fun v hm=>⟨(h.row v hm).1.grown hg (hv v hm),(h.row v hm).2.k hg.k⟩,h.og,h.xg,h.xo.grown hg hX,h.ap⟩
theorem right_gv {w:World} {n:Int} {v:Vc} (h:Sl Tm.cs 5 w v.A v.n v.c v.L∧(∀t∈v.L,FrOk w m t.x)∧v.n≤12∧(v.A=none→v.c=0)) (hr:rightB v.L n=true):GV w v.A v.n v.c (prs v.L) (m+2) :=
 ⟨v.L,h.1,fun t ht=>(h.2.1 t ht).rep,rfl,wsum_rise (rightB_nrm hr).1.rise fun t ht=>by have:=(h.2.1 t ht).1.len;unfold dgT;omega,h.2.2.2⟩
def TellsFac (w:World) (n m:Nat) (CL:List Vc) (e:Ending) (w':World):Prop :=
 Below w.heap.size w w'∧(((CL.all fun v=>rightB v.L (n:Int))=false∧e=.returned (.tuple #[.pointer none,.int .i64 2]))∨((CL.all fun v=>rightB v.L (n:Int))=true∧
  ((facUp ⟨turnT (CL.map fun v=>prs v.L) n,List.replicate n true,[]⟩ n=none∧e=.returned (.tuple #[.pointer none,.int .i64 12]))∨∃t fb,facUp ⟨turnT (CL.map fun v=>prs v.L) n,List.replicate n true,[]⟩ n=some t∧e=.returned (.tuple #[.pointer (some ⟨fb,0,none⟩),.int .i64 0])∧w.heap.size≤fb∧LuM w' fb n t.ST (facK m))))
theorem TellsFac.bad {w:World} {n:Nat} (h:(CL.all fun v=>rightB v.L (n:Int))=false) (hb:Below w.heap.size w w'):TellsFac w n m CL (.returned (.tuple #[.pointer none,.int .i64 2])) w':=⟨hb,.inl ⟨h,rfl⟩⟩
theorem TellsFac.sing {w:World} {n:Nat} (h:(CL.all fun v=>rightB v.L (n:Int))=true) (hf:facUp ⟨turnT (CL.map fun v=>prs v.L) n,List.replicate n true,[]⟩ n=none) (hb:Below w.heap.size w w'):TellsFac w n m CL (.returned (.tuple #[.pointer none,.int .i64 12])) w':=⟨hb,.inr ⟨h,.inl ⟨hf,rfl⟩⟩⟩
def FA1 (w:World) (g ob n M:Nat) (C:List (List (Int×Rat))) (gk:Nat) (s:Value) (wr:World):Prop :=
 ∃(i:Nat) (V:List Vc),i≤n∧n-i=gk∧s=.int .i64 (i:Int)∧TS wr w.heap.size g n (.slice none 0 0) 0 [] V M∧RowsE V (trnE C i)∧OwnR wr w.heap.size 4 1 (.slice (some ⟨ob,0,none⟩) n n) n (flat bls (opnL i n))∧ApV (.slice (some ⟨ob,0,none⟩) n n) V∧Below w.heap.size w wr
def FA2 (w:World) (g ob n M nm:Nat) (X:Value) (T:List Tm) (E:List (Int×Int×Rat)) (i gk:Nat) (s:Value) (wr:World):Prop :=
 ∃(j:Nat) (V:List Vc),j≤nm∧nm-j=gk∧s=.int .i64 (j:Int)∧TS wr w.heap.size g n X nm (flat Tm.cs T) V M∧RowsE V (E++colE i (prs (T.take j)))∧OnT wr T (fun _=>M)∧OwnR wr w.heap.size 4 1 (.slice (some ⟨ob,0,none⟩) n n) n (flat bls (opnL (i+1) n))∧ApV (.slice (some ⟨ob,0,none⟩) n n) V∧Below w.heap.size w wr
def FA3 (w:World) (g ob fb n m:Nat) (s0:FacSt) (gk:Nat) (x:Value) (wr:World):Prop :=
 ∃(i:Nat) (t:FacSt) (V:List Vc) (H:Option Addr) (hc:Nat) (LS:List StM),i≤n∧n-i=gk∧x=.int .i64 (i:Int)∧facUp s0 i=some t∧FM wr w.heap.size g ob fb n i H hc (.slice H i hc) V t.OB LS (facM m i) (facK m)∧V.map (fun v=>prs v.L)=t.R∧LS.map StM.f=t.ST∧Below w.heap.size w wr
theorem factor_no {w:World} {n c:Nat} (z:Int) (hz:z<0∨256<z∨(n:Int)≠z) :
  Calls Tryz.prog 6 #[.slice A n c,.int .i64 z] w fun e w'=>e=.returned (.tuple #[.pointer none,.int .i64 2])∧Below w.heap.size w w':=by
 by_cases g1:z<0
 ·clear hz;go_enter Tryz.func6,Tryz.ntmps6
  go_wp2_with fail
  go_ret2
  exact⟨rfl,Below.refl _ _⟩
 ·by_cases g2:256<z
  ·clear hz;go_enter Tryz.func6,Tryz.ntmps6
   go_wp2_with fail
   go_ret2
   exact⟨rfl,Below.refl _ _⟩
  ·have g3:((n:Int) != z)=true:=by simp only[bne_iff_ne];omega
   clear hz;go_enter Tryz.func6,Tryz.ntmps6
   go_wp2_with fail
   go_ret2
   exact⟨rfl,Below.refl _ _⟩
theorem factor_q {w:World} {n c:Nat} (h:Sl Vc.cs 1 w A n c CL) (hcl:Hid (∀v∈CL,Sl Tm.cs 5 w v.A v.n v.c v.L∧(∀t∈v.L,FrOk w m t.x)∧v.n≤12∧(v.A=none→v.c=0))) (hn:n≤12) (hm:facM m n≤3600000012) (hT:Hid (Tab w)) :
  Calls Tryz.prog 6 #[.slice A n c,.int .i64 (n:Int)] w (TellsFac w n m CL):=by
 have H:=zh h;have HLN:=zh h.1;have hm2:m+2≤3600000012:=kA (facM_mono m (nA n)) hm;have g1:¬(n:Int)<0:=zo;have g2:¬256<(n:Int):=zo;clear h;go_enter Tryz.func6,Tryz.ntmps6
 go_wp2_with fail
 go_loopg [31] n (fun gk s wr=>AL1 w CL (fun v=>rightB v.L (n:Int)) n gk s wr)
 case atStart=>exact⟨0,nA _,rfl,rfl,Below.refl _ _,by rw[cF];rfl⟩
 case round =>
  obtain⟨i,hi,hgk,rfl,hB,hd⟩:=hrel;have HGK:=zh hgk;have HD:=zh hd;clear hgk hd;by_cases hlt:i<n
  ·obtain⟨b,off,rfl,hel⟩:=H.out.at Vc.cs_len zo zo;obtain⟨x,hx⟩:∃x,CL[i]?=some x:=⟨CL[i]'(by rw[HLN.out];exact hlt),aA _⟩;have hnd:ElA w b (off+i) (Vc.cs x):=by have:=hel i x hx;rwa [wC] at this
   have HTI:=zh hx;have HV:=zh (hcl.out x (dA HTI.out));have i1:(i:Int)<(n:Int):=zo;have i2:(0:Int)≤(i:Int):=zo;clear hx hel;cases hp:rightB x.L (n:Int)
   ·have HP:=zh hp;clear hp;have Bz:=zr wr;have pA0:=(hnd.below (bT hB Bz)).c0 (u:=.slice x.A x.n x.c) rfl;go_wp2_with fail
    with_reducible refine(right_q (HV.out.1.below (bT hB (bT (b:=wr) Bz))) (fun t ht=>(HV.out.2.1 t ht).below (bT hB (bT (b:=wr) Bz))) zo (zi HV.out.2.2.1) false HP (zt hT hB Bz)).mono ?_
    rintro e w1 ⟨rfl,b1⟩;replace b1:=zq (a:=wr) b1;replace Bz:=bT Bz b1;clear b1 pA0;go_wp2_with fail
    go_ret2
    have hF:=bT (c:=w1) hB Bz;exact TellsFac.bad (all_no HTI.out HP.out) (bT (bT hB Bz))
   ·have HP:=zh hp;clear hp;have Bz:=zr wr;have pA0:=(hnd.below (bT hB Bz)).c0 (u:=.slice x.A x.n x.c) rfl;go_wp2_with fail
    with_reducible refine(right_q (HV.out.1.below (bT hB (bT (b:=wr) Bz))) (fun t ht=>(HV.out.2.1 t ht).below (bT hB (bT (b:=wr) Bz))) zo (zi HV.out.2.2.1) true HP (zt hT hB Bz)).mono ?_
    rintro e w1 ⟨rfl,b1⟩;replace b1:=zq (a:=wr) b1;replace Bz:=bT Bz b1;clear b1 pA0;go_wp2_with fail
    go_roundg (n-(i+1))
    case measure=>have:=HGK.out;omega
    case rel=>exact⟨i+1,zo,rfl,by go_num,bT (bT hB Bz),take_all HD.out HTI.out HP.out⟩
  ·obtain rfl:n=i:=zo;have i1:¬(n:Int)<(n:Int):=zo;have HRT:Hid ((CL.all fun v=>rightB v.L (n:Int))=true):=zh (all_yes HLN.out HD.out);clear HD HGK hlt hi;go_wp2_with (at_make;refine And.left (b:=True) ?_)
   refine⟨?_,trivial⟩;refine Elt.makeN elt_vcs zVc (fun i z h1 h2=>vc_zero h1 h2) rfl _ _ rfl .i64 .i64 n rfl rfl zo w.heap.size (by have:=hB.size;go_num) ?_;intro g w1 ho1 b1;replace b1:=zq (a:=wr) b1;have HTS1:=zh (TS.start (M:=m+2) ho1);have hgl:=ho1.lt g rfl;replace hB:=bT hB b1;clear ho1 b1;go_wp2_with (at_make;refine And.left (b:=True) ?_)
   refine⟨?_,trivial⟩;refine Elt.makeN elt_bls false (fun i z h1 h2=>bl_zero h1 h2) rfl _ _ rfl .i64 .i64 n rfl rfl zo w1.heap.size (cA _) ?_;intro ob w2 ho2 b2;replace b2:=zq (a:=w1) b2;have hobl:=ho2.base ob rfl;have hgo:g≠ob:=zo;have HOP:=zh (ho2.rebase (B':=w.heap.size) hB.size);have HTS:=zh (HTS1.out.below b2);have HB2:=zh (bT hB b2);clear ho2 b2 HTS1 hB hgl hobl;go_wp2_with fail
   go_loopg [46] n (fun gk s wr=>FA1 w g ob n (m+2) (CL.map fun v=>prs v.L) gk s wr)
   case atStart=>exact⟨0,_,nA _,rfl,rfl,HTS.out.below (by go_grown),RowsE.start _,HOP.out.below (by go_grown),fun v hv=>by rw[zD hv];exact Ap.nil _,bT HB2.out⟩
   case round =>
    clear HTS HOP HB2;obtain⟨i,V,hi,hgk,rfl,hts,hrw,hop,hao,hB⟩:=hrel;have HGK:=zh hgk;have HRW:=zh hrw;have HAO:=zh hao;clear hgk hrw hao;by_cases hlt:i<n
    ·obtain⟨b,off,rfl,hel⟩:=H.out.at Vc.cs_len zo zo;obtain⟨v,hv⟩:∃v,CL[i]?=some v:=⟨CL[i]'(by rw[HLN.out];exact hlt),aA _⟩;have hnd:ElA w b (off+i) v.cs:=by have:=hel i v hv;rwa [wC] at this
     have hm0:=dA hv;have hrv:=wD.1 HRT.out v hm0;have HNR:=zh (rightB_nrm hrv);have HGV:=zh (right_gv (hcl.out v hm0) hrv);have hvn:=(hcl.out v hm0).2.2.1;have HTC:=zh (trnE_col (C:=(CL.map fun v=>prs v.L)) (k:=i) (c:=prs v.L) (by rw[rA,hv];rfl));have HOI:Hid ((opnL i n)[i]?=some false):=zh (opnL_get hlt);have p0:=(hnd.below hB).c0 (u:=.slice v.A v.n v.c) rfl;have p1:=bl_cell hop HOI.out;have f1:=hop.frozen i;have y1:=hop.blk.1;have i1:(i:Int)<(n:Int):=zo;have i2:(0:Int)≤(i:Int):=zo;clear hel hv hm0 hrv hnd;go_upto_region 15 with(fail)
     obtain⟨W1,hW1,hop2,hg2⟩:=bl_store hop HOI.out true;rw[←hW1];clear hW1 p0 p1 f1 y1;rw[opnL_set hlt] at hop2;have hts2:=TS.grown hts hg2 (fun e=>hgo (Option.some.inj e).symm) HAO.out (Ap.nil _);have hbo:w.heap.size≤ob:=hop.base ob rfl;replace hB:=hB.trans (hg2.below hB.size (rowB hbo));clear hop hts hg2;have hnq:=normO_q (HGV.out.below hB) zo zo (zh (hT.out.below hB));go_wp2_with fail
     with_reducible refine hnq.mono ?_
     rintro e w2 ⟨Am,nm,cm,T,rfl,ho2,on2,ep,b2⟩;have HTS2:=zh (hts2.beside b2 hB.size ho2);have HN2:=zh on2;have HOP2:=zh (hop2.below b2);have HEP:Hid (prs T=prs v.L):=zh (by rw[ep];exact HNR.out.1.self);have HTL:=zh (ho2.eltn elt_vec zo);have HB2:=zh (bT hB b2);have hnm:nm≤12:=by
      have h1:=HGV.out.len;rw[←HEP.out,prs_len,HTL.out] at h1;omega
     clear hnq ho2 on2 ep b2 hB hts2 hop2;go_wp2_with fail
     go_loopg [57] nm (fun gk s wr=>FA2 w g ob n (m+2) nm (.slice Am nm cm) T (trnE (CL.map fun v=>prs v.L) i) i gk s wr)
     case atStart=>exact⟨0,V,nA _,rfl,rfl,HTS2.out.below (by go_grown),by rw[cF];show RowsE V (trnE (CL.map fun v=>prs v.L) i++[]);rw[mF];exact HRW.out,HN2.out.below (by go_grown),HOP2.out.below (by go_grown),HAO.out,bT HB2.out⟩
     case round =>
      clear HTS2 HN2 HB2 HRW HOP2 HAO;obtain⟨j,V,hj,hgj,rfl,hts,hrw,hon,hop,hao,hB⟩:=hrel;have HGJ:=zh hgj;have HRW:=zh hrw;have HAO:=zh hao;clear hgj hrw hao;by_cases hlj:j<nm
      ·obtain⟨eb,offe,rfl,hel⟩:=(hts.xo.sl' elt_vec HTL.out).at Tm.cs_len zo zo;obtain⟨x,hx⟩:∃x,T[j]?=some x:=⟨T[j]'(by rw[HTL.out];exact hlj),aA _⟩;have hnd:=hel j x hx;have HCS:=zh (colE_snoc i hx);have hxm:=dA hx;have HXN:=zh (hon x hxm);have HVL:=zh hts.len;have j1:(j:Int)<(nm:Int):=zo;have j2:(0:Int)≤(j:Int):=zo;have hxr:0≤x.at_∧x.at_<(n:Int):=by
        have h1:(x.at_,x.x.q)∈prs v.L:=by rw[←HEP.out];exact tC.2 ⟨x,hxm,rfl⟩
        obtain⟨u,hu,hu2⟩:=prs_mem h1;have h2:=HNR.out.2 u hu;have h3:x.at_=u.at_:=congrArg Prod.fst hu2;omega
       have g3:0≤x.at_:=hxr.1;have g4:x.at_<(n:Int):=hxr.2;clear hel hx hxm hxr;obtain⟨u,hu⟩:∃u,V[x.at_.toNat]?=some u:=⟨V[x.at_.toNat]'(by rw[HVL.out];omega),aA _⟩;have HVU:=zh hu;have hou:OwnR wr w.heap.size 32 5 (.slice u.A u.n u.c) u.n (flat Tm.cs u.L):=(hts.row u (dA hu)).1;have hout:=hts.out;have apGU:Ap (.slice (some ⟨g,0,none⟩) n n) (.slice u.A u.n u.c):=(hts.og u (dA hu)).1;have apUG:=apGU.symm;have apUP:Ap (.slice u.A u.n u.c) (.slice (some ⟨ob,0,none⟩) n n):=HAO.out u (dA hu);have apPU:=apUP.symm;have hun:u.n≤i+nm:=by
        have h1:=HRW.out.small hu;rw[hou.eltn elt_vec zo,prs_len,zA] at h1;omega
       have hrx:=HXN.out.1;have HSX:=zh HXN.out.2.2;have HR2:Hid (∀(H:Option Addr) (k c:Nat),RowsE (V.set x.at_.toNat ⟨H,k,c,u.L++[⟨(i:Int),⟨x.x.s,x.x.A,x.x.c,x.x.l,x.x.s',x.x.A',x.x.c',x.x.l',x.x.q,true⟩⟩]⟩) (trnE (CL.map fun v=>prs v.L) i++colE i (prs (T.take (j+1))))):=zh (fun H k c=>by
        have h9:=HRW.out.step hu H k c ⟨0,⟨x.x.s,x.x.A,x.x.c,x.x.l,x.x.s',x.x.A',x.x.c',x.x.l',x.x.q,true⟩⟩ (i:Int);rw[HCS.out,←dF];rw[sF g3] at h9;exact h9)
       clear hu;have Bz:=zr wr;obtain⟨pA0,pA1,pA2,pA3,pA4,-⟩:=(hnd.below Bz).ez;go_upto_region 18 with(fail)
       obtain⟨V11,hW,x0,hN⟩:=zAe wr #[.int .i64 x.at_,.bool x.x.s,.slice x.x.A x.x.l x.x.c,.bool x.x.s',.slice x.x.A' x.x.l' x.x.c'] 32;rw[←hW];clear hW;obtain⟨v0,hb0⟩:=ze wr.heap.size;rw[←hb0] at x0 ⊢;have ow_0:w.heap.size≤v0:=zi (zw hB Bz);have nv0_own:=OwnR.off' (b:=v0) hou zo;have nv0_out:=OwnR.off' (b:=v0) hout zo;have nv0_opn:=OwnR.off' (b:=v0) hop zo;replace hon:=hon.below hN;replace hop:=hop.below hN;replace hout:=hout.below hN;replace hou:=hou.below hN;replace hrx:=hrx.below hN;replace hts:=hts.below hN;replace hB:=bT (bT hB Bz) hN;have HX0:=zh x0;clear x0 hN Bz hb0;have Bz:=zr V11;clear pA0 pA1 pA2 pA3 pA4;obtain⟨pa0,pa1,pa2,pa3,pa4,-⟩:=(zxb HX0 Bz).cz;have pB0:=vc_cell hout HVU.out;have fB0:=hout.frozen x.at_.toNat;have y51:=hout.blk.1;go_wp2_with fail
       (try simp only[vAa,vBa,vC])
       refine zl (.pure 0 (.pure 1 (.take 2 (.pure 3 (.pure 4 (.take 5 (.pure 6 (.take 7 (.pure 8 (.pure 9 (.take 10 (.pure 11 (.only 12 (.only 13 (.pure 14 (.only 15 .done)))))))))))))))) [15] (zsa pa0 (zsa pa1 (zsa pa2 (zsa pa3 (zsa pa4 (zIa pB0)))))) ?_;iterate 12 ((first|refine zV ?_|refine zUa ?_);try simp only[uW,uX,uY,uZ])
       refine zC 73 rfl rfl (fun K hK=>?_);go_simp
       refine hK.out _ _ ⟨(zAd pa0),(zAd pa1),(zAd pa2),(zAd pa3),(zAd pa4),(zAd pB0)⟩ (fun _=>?_);try simp only[uW,uX,uY,uZ]
       clear hK K;refine zC 74 rfl rfl (fun K hK=>?_);obtain⟨V12,hW,x1,hN⟩:=zAe V11 #[.int .i64 (i:Int),.bool x.x.s,.slice x.x.A x.x.l x.x.c,.bool x.x.s',.slice x.x.A' x.x.l' x.x.c'] 32;rw[←hW];clear hW;obtain⟨v1,hb1⟩:=ze V11.heap.size;rw[←hb1] at x1 ⊢;have o0_1:v0<v1:=zi (zxb HX0 Bz).lt;have ow_1:w.heap.size≤v1:=zi (zw hB Bz);have nv1_own:=OwnR.off' (b:=v1) hou zo;have nv1_out:=OwnR.off' (b:=v1) hout zo;have nv1_opn:=OwnR.off' (b:=v1) hop zo;replace hon:=hon.below hN;replace hop:=hop.below hN;replace hout:=hout.below hN;replace hou:=hou.below hN;replace hrx:=hrx.below hN;replace hts:=hts.below hN;replace hB:=bT (bT hB Bz) hN;replace HX0:=zba HX0 Bz hN;have HX1:=zh x1;clear x1 hN Bz hb1;have Bz:=zr V12;clear pa0 pa1 pa2 pa3 pa4 pB0 fB0 y51;have HTS1:=zh (TS.below hts (bT Bz));have hdr:V12.drew.heap.size=V12.heap.size:=rfl;have hdr2:V12.drew.drew.heap.size=V12.heap.size:=rfl;refine Elt.wp elt_vec (.tmp 68) (.tmp 73) rfl (w.heap.size) (.slice u.A u.n u.c) (u.n) (u.L) rfl hou (.slice (some ⟨v1,0,none⟩) 1 1) (1) ([⟨(i:Int),⟨x.x.s,x.x.A,x.x.c,x.x.l,x.x.s',x.x.A',x.x.c',x.x.l',x.x.q,true⟩⟩]) rfl (From.one (HX1.out.below (bT Bz)) (⟨(i:Int),⟨x.x.s,x.x.A,x.x.c,x.x.l,x.x.s',x.x.A',x.x.c',x.x.l',x.x.q,true⟩⟩) rfl (elt_vec.len _)) zo (zi (zw hB Bz)) ?_;intro H11 c11 w11 ho11 hg11;replace hB:=(bT (bT hB Bz)).trans (hg11.below (zi (zw hB Bz)) (fun g hg=>by have:=hou.base g hg;omega));replace HX0:=zh (hg11.bx (HX0.out.below (bT Bz)) nv0_own);clear HX1;have apGU':=hg11.ap hout apGU;have apUG':=apGU'.symm;replace hout:=(OwnR.below hout).grown hg11 apGU;clear apGU apUG;have apGU:=apGU';have apUG:=apUG';clear apGU' apUG';have apPU':=hg11.ap hop apPU;have apUP':=apPU'.symm;replace hop:=(OwnR.below hop).grown hg11 apPU;clear apPU apUP;have apPU:=apPU';have apUP:=apUP';clear apPU' apUP';clear hdr hdr2;replace hon:=hon.k hg11.k;replace hrx:=hrx.k hg11.k;clear Bz;have Bz:=zr w11;obtain⟨pa0,pa1,pa2,pa3,pa4,-⟩:=(zxb HX0 Bz).cz;have pB0:=vc_cell hout HVU.out;have fB0:=hout.frozen x.at_.toNat;have y51:=hout.blk.1;refine hK.out _ _ ⟨pa0,pa1,pa2,pa3,pa4,pB0⟩ (fun _=>?_);try simp only[uW,uX,uY,uZ]
       clear hK K;refine zV ?_;try simp only[uW,uX,uY,uZ]
       refine zAc (o:=⟨none,_,_,_,_,_⟩) rfl rfl zd (fun K hK=>?_);go_simp
       refine hK.out _ _ ?_;try simp only[Act.put,uX,uY,uZ]
       clear hK K;obtain⟨V13,hV,hts2,hg2⟩:=(TS.below HTS1.out).step HVU.out ho11 hg11 (OnT.one (i:Int) (RN.below hrx) HSX.out);rw[←hV];clear hV;replace hB:=(bT hB Bz).trans (hg2.below (zi (zw hB Bz)) (fun g' hg'=>(TS.out hts2).base g' hg'));replace hop:=OwnR.grown hop hg2 (.inr fun e=>hgo (Option.some.inj e).symm);have HAO2:Hid (ApV (.slice (some ⟨ob,0,none⟩) n n) (V.set x.at_.toNat ⟨H11,u.n+1,c11,u.L++[⟨(i:Int),⟨x.x.s,x.x.A,x.x.c,x.x.l,x.x.s',x.x.A',x.x.c',x.x.l',x.x.q,true⟩⟩]⟩)):=zh (fun v hv=>by rcases sC hv with hv | rfl;exact HAO.out v hv;exact apUP);replace hon:=hon.k hg2.k;clear hg2 hg11 Bz hout;have Bz:=zr V13;clear HX0;clear pa0 pa1 pa2 pa3 pa4 pB0 fB0 y51;refine zAa ?_;go_wp2_with fail
       go_roundg (nm-(j+1))
       case measure=>have:=HGJ.out;omega
       case rel=>exact⟨j+1,_,zo,rfl,by go_num,TS.below hts2,HR2.out _ _ _,OnT.below hon,OwnR.below hop,HAO2.out,bT (bT hB Bz)⟩
      ·obtain rfl:j=nm:=zo;have j1:¬(j:Int)<(j:Int):=zo;have HRE:Hid (RowsE V (trnE (CL.map fun v=>prs v.L) (i+1))):=zh (by
        rw[HTC.out,HNR.out.1.self,←HEP.out];have h9:=HRW.out;rwa [eA (by rw[HTL.out];exact cA _)] at h9)
       have HTA:=zh hts.alone;clear hts hon;go_wp2_with fail
       go_roundg (n-(i+1))
       case measure=>have:=HGK.out;omega
       case rel=>exact⟨i+1,V,zo,rfl,by go_num,HTA.out.below (by go_grown),HRE.out,hop.below (by go_grown),HAO.out,bT hB⟩
    ·obtain rfl:n=i:=zo;have i1:¬(n:Int)<(n:Int):=zo;rw[opnL_full] at hop;have HDN:=zh (RowsE.done (C:=(CL.map fun v=>prs v.L)) (by rw[cB,HLN.out];exact HRW.out) hts.len);have hro:=hts.ro;clear HGK hlt hi HRW;go_upto_region 22 with(fail)
     obtain⟨VF,hW,x0,hN⟩:=zAe wr #[.bool true,.int .i64 (n:Int),.slice none 0 0] 68;rw[←hW];clear hW;obtain⟨fb,hfb⟩:=ze wr.heap.size;rw[←hfb] at x0 ⊢;have hgl:=hro.base;have hol:=hop.lt ob rfl;have hfo:fb≠ob:=zo;have hfg:fb≠g:=zo;have hfw:w.heap.size≤fb:=zi hB.size;have HFM:Hid (FM VF w.heap.size g ob fb n 0 none 0 (.slice none 0 0) V (List.replicate n true) [] (facM m 0) (facK m)):=zh ⟨hro.below hN,hop.below hN,OwnR.nil _ _ _ _,(fun j s hs=>by cases hs),x0,zo,hgo,hfg,hfo,(fun e=>by cases e),(fun e=>by cases e),(fun e=>by cases e),fun v hv=>⟨(hro.ap v hv).ne rfl,(HAO.out v hv).ne rfl,fun e=>by have:=own_lt hro.row hv e.symm;omega,(Ap.nil _).symm⟩,(fun v hv=>by cases hv)⟩;have HB3:=zh (bT hB hN);have HSI:Hid (FacInv n ⟨turnT (CL.map fun v=>prs v.L) n,List.replicate n true,[]⟩):=zh (lu_start (by rw[cB];exact HLN.out));clear hro hop hgl hol hfb x0 hN hts hB HAO;go_wp2_with fail
     go_loopg [82] n (fun gk s wr=>FA3 w g ob fb n m ⟨turnT (CL.map fun v=>prs v.L) n,List.replicate n true,[]⟩ gk s wr)
     case atStart=>exact⟨0,_,V,none,0,[],nA _,rfl,rfl,rfl,HFM.out.below (by go_grown),HDN.out,rfl,bT HB3.out⟩
     case round =>
      clear HFM HB3 HDN i1;obtain⟨i,⟨R,OB,ST⟩,V,H,hc,LS,hi,hgk,rfl,hfu,hfm,hvm,hls,hB⟩:=hrel;simp only at hvm hls hfm
      have HGK:=zh hgk;have HFU:=zh hfu;have HVM:=zh hvm;have HLS:=zh hls;have HX0:=zh hfm.box;obtain⟨hfi,_,_⟩:=fac_sys HSI.out rfl i hfu;have HFI:=zh hfi;have HVR:Hid (∀v∈V,Rise (prs v.L)∧(∀t∈v.L,0≤t.at_∧t.at_<(n:Int))∧v.n≤n):=zh (fun v hv=>by
       obtain⟨j,hj⟩:=bD hv;have h1:=hfi.row j;have h2:R.getD j []=prs v.L:=by rw[←hvm,bA,rA,hj];rfl
       simp only[h2] at h1
       refine⟨h1.1.rise,fun t ht=>h1.2 _ (tC.2 ⟨t,ht,rfl⟩),?_⟩;have h3:=rise_len h1.1.rise h1.2;have h4:=(hfm.rows.row v hv).1.eltn elt_vec zo;rw[prs_len] at h3;omega)
      have HVS:Hid (∀v∈V,Sl Tm.cs 5 wr v.A v.n v.c v.L∧v.n≤12∧∀t∈v.L,0≤t.at_∧t.at_<(n:Int)):=zh (fun v hv=>⟨(hfm.rows.row.cn hv).1,by have:=(HVR.out v hv).2.2;omega,(HVR.out v hv).2.1⟩);clear hgk hfu hvm hls hfi;by_cases hlt:i<n
      ·have i1:(i:Int)<(n:Int):=zo;have i2:(0:Int)≤(i:Int):=zo;cases hnx:nextF (V.map fun v=>prs v.L) OB with
       | none =>
        have HNX:=zh hnx;clear hnx;have Bz:=zr wr;go_wp2_with fail
        with_reducible refine(TellsNx.none (next_q (FM.rows hfm).sl HVS (OwnR.sl' elt_bls (FM.opn hfm) (FM.lens hfm).2.1) zo) HNX.out).mono ?_
        rintro e w11 ⟨q11,rfl,J⟩;replace J:=zq (a:=wr) J;replace Bz:=bT Bz J;clear J;go_upto_region 25 with(fail)
        obtain⟨V11,hW,x1,hN⟩:=zAe w11 #[.int .i64 q11.cost,.int .i64 q11.col,.int .i64 q11.row] 70;rw[←hW];clear hW;obtain⟨v1,hb1⟩:=ze w11.heap.size;rw[←hb1] at x1 ⊢;have o0_1:fb<v1:=zi (zxb HX0 Bz).lt;have ow_1:w.heap.size≤v1:=zi (zw hB Bz);replace hB:=bT (bT hB Bz) hN;replace HX0:=zba HX0 Bz hN;have HX1:=zh x1;clear x1 hN Bz hb1;have Bz:=zr V11;go_wp2_with fail
        go_ret2
        have hF:=bT (c:=V11) hB Bz;exact TellsFac.sing HRT.out (fac_none (i:=i+1) (by rw[fac_more HFU.out];exact step_none (by simp only[←HVM.out];exact HNX.out)) hlt) (bT hF)
       | some p =>
        obtain⟨pc,co,pr⟩:=p;obtain⟨k,hk,hpr,hok,t0,ht0,hco⟩:=next_mem hnx;simp only at hpr hco
        subst hpr;have hlens:=hfm.lens;obtain⟨y,hy⟩:∃y,V[k]?=some y:=⟨V[k]'(by rwa [cB] at hk),aA _⟩;have hyg:(V.map fun v=>prs v.L).getD k []=prs y.L:=by rw[bA,rA,hy];rfl
        have hkn:k<n:=by rw[cB,hlens.1] at hk;exact hk
        have HNX:=zh hnx;have HYK:=zh hy;have HOK:Hid (OB[k]?=some true):=zh (by
         rw[bA] at hok;cases h9:OB[k]? with
         | none=>rw[h9] at hok;cases hok
         | some o=>rw[h9] at hok;exact congrArg some hok)
        have hnr:=HFI.out.row k;simp only[←HVM.out,hyg] at hnr
        have HPV:Hid (pget (prs y.L) co≠0):=zh (by rw[hyg] at ht0;rw[←hco];exact hnr.1.get_ne ht0);have HVL:Hid (∀v∈V,v.n≤12∧Rise (prs v.L)):=zh (fun v hv=>⟨by have:=(HVR.out v hv).2.2;omega,(HVR.out v hv).1⟩);have HST:Hid (facUp ⟨turnT (CL.map fun v=>prs v.L) n,List.replicate n true,[]⟩ (i+1)=some ⟨(elimUp R (OB.set k false) co (pget (prs y.L) co) (restF (prs y.L) co) n).1,OB.set k false,ST++[⟨(k:Int),co,pget (prs y.L) co,restF (prs y.L) co,(elimUp R (OB.set k false) co (pget (prs y.L) co) (restF (prs y.L) co) n).2⟩]⟩):=zh (by
         have h9:=step_some (t:=⟨R,OB,ST⟩) (by rw[←HVM.out];exact hnx);simp only[←HVM.out,hyg] at h9
         rw[fac_more HFU.out,←HVM.out,h9,cB,hlens.1])
        have k2:(0:Int)≤(k:Int):=zo;have k3:(k:Int)<(n:Int):=zo;have hszy:=on_sz (hfm.rows.row y (dA hy)).2 hnr.1.rise (facM_two _ _) co;have hf1:facM m (i+1)=4*facM m i+12:=rfl;have hf3:facK m i=2*facM m i+4:=rfl;have hf2:4*facM m i+12≤3600000012:=kA (facM_mono m (show i+1≤n from hlt)) hm;clear hnx hk hok ht0 hco hlens hy hyg hnr;have hsp0:=FM.stp hfm;have hop0:=FM.opn hfm;have hro0:=(FM.rows hfm).out;have Bz:=zr wr;go_wp2_with fail
        with_reducible refine(TellsNx.some (next_q (FM.rows hfm).sl HVS (OwnR.sl' elt_bls (FM.opn hfm) (FM.lens hfm).2.1) zo) HNX.out).mono ?_
        rintro e w11 ⟨rfl,J⟩;replace J:=zq (a:=wr) J;replace hfm:=hfm.below J;replace hop0:=hop0.below J;replace hro0:=hro0.below J;replace hsp0:=hsp0.below J;replace Bz:=bT Bz J;clear J;go_upto_region 25 with(fail)
        obtain⟨V11,hW,x1,hN⟩:=zAe w11 #[.int .i64 pc,.int .i64 co,.int .i64 (k:Int)] 70;rw[←hW];clear hW;obtain⟨v1,hb1⟩:=ze w11.heap.size;rw[←hb1] at x1 ⊢;have o0_1:fb<v1:=zi (zxb HX0 Bz).lt;have ow_1:w.heap.size≤v1:=zi (zw hB Bz);have nv1_sp0:=OwnR.off' (b:=v1) hsp0 zo;have nv1_op0:=OwnR.off' (b:=v1) hop0 zo;have nv1_ro0:=OwnR.off' (b:=v1) hro0 zo;replace hfm:=hfm.below hN;replace hB:=bT (bT hB Bz) hN;replace HX0:=zba HX0 Bz hN;have HX1:=zh x1;clear x1 hN Bz hb1;have Bz:=zr V11;have pb2:=(zxb HX1 Bz).cell 2 (.int .i64 (k:Int)) rfl;have pB0:=bl_cell (FM.opn hfm) HOK.out;have fB0:=(FM.opn hfm).frozen k;have y51:=(FM.opn hfm).blk.1;go_upto_region 28 with(fail)
        obtain⟨V12,hV,hfm2,hg2⟩:=FM.shut hfm HOK.out;rw[←hV];clear hV;have hob2:w.heap.size≤ob:=((FM.opn hfm2).base ob rfl);replace hB:=(bT hB Bz).trans (hg2.below (zi (zw hB Bz)) (rowB hob2));replace HX0:=zh (hg2.bx (zxb HX0 Bz) (rowN hfo));replace HX1:=zh (hg2.bx (zxb HX1 Bz) (nv1_op0));replace hsp0:=FM.stp hfm2;clear hop0 hro0;replace hfm:=hfm2;clear hfm2 hg2 Bz hob2;have Bz:=zr V12;clear pb2 pB0 fB0 y51;have pa2:=(zxb HX0 Bz).cell 2 (.slice H i hc) rfl;obtain⟨y0,-,-,fa2,-⟩:=(zxb HX0 Bz).fz;obtain⟨pb0,pb1,pb2,-⟩:=(zxb HX1 Bz).cz;go_wp2_with fail
        (try simp only[vAa,vBa,vC])
        refine zl (.pure 0 (.pure 1 (.pure 2 (.pure 3 (.take 4 (.pure 5 (.pure 6 (.take 7 (.only 8 (.only 9 (.only 10 (.pure 11 (.pure 12 (.only 13 .done)))))))))))))) [10,13] (zsa pa2 (zsa pb0 (zsa pb1 (zIa pb2)))) ?_;iterate 8 ((first|refine zV ?_|refine zUa ?_);try simp only[uW,uX,uY,uZ])
        refine zC 104 rfl rfl (fun K hK=>?_);go_simp
        have hwp:=zh (FM.below hfm (by go_grown:Below _ _ V12.drew));have hszp:w.heap.size≤V12.drew.heap.size:=by have:=hB.size;have:=Bz.size;show w.heap.size≤V12.heap.size;omega
        with_reducible refine(elim_q (w0:=w) (bT hB (bT Bz)) hwp.out.rows (hwp.out.opn.sl' elt_bls hwp.out.lens.2.1) (zh (fun a e=>by cases e;exact Ne.symm hgo)) HYK.out hkn HVL HPV zo zo (facM_two _ _) hT).mono ?_
        rintro e w12 ⟨s,A,c0,l,s',A',c',l',RA,rn,rc,RL,TA,tn,tc,TL,V2,rfl,hpv,hrr,hrt,hre,hta,hto,hte,hro,hnw,hmp,hkp,b12⟩;have hfm2:=FM.elim hwp.out hro hkp hnw;have HMP:=zh hmp;have HRE:=zh hre;have HTE:=zh hte;have hbl:g<V12.drew.heap.size∧ob<V12.drew.heap.size∧fb<V12.drew.heap.size:=⟨hwp.out.rows.base.2,hwp.out.opn.lt ob rfl,hwp.out.box.lt⟩;have hor:OffV g ob fb (.slice H i hc) ⟨RA,rn,rc,RL⟩:=OffV.new hwp.out hrr hbl;have hot:OffV g ob fb (.slice H i hc) ⟨TA,tn,tc,TL⟩:=OffV.new hwp.out hta hbl;have hst:StOwn w12 w.heap.size (facK m i) ⟨(k:Int),co,⟨s,A,c0,l,s',A',c',l',pget (prs y.L) co,true⟩,⟨RA,rn,rc,RL⟩,⟨TA,tn,tc,TL⟩⟩:=⟨⟨hpv,rfl,by show sz (pget (prs y.L) co)+1≤_;omega⟩,⟨hrr.rebase hszp,hrt.mono fun _ _=>by omega⟩,⟨hta.rebase hszp,hto.mono fun _ _=>by omega⟩⟩;replace hB:=b12;replace HX1:=zh (hkp.bx (HX1.out.below (bT Bz)) (fun e=>nv1_ro0 (by rw[e];rfl)));replace HX0:=zh hfm2.box;replace hfm:=hfm2.mono (M':=facM m (i+1)) (cA _);clear hsp0;have hsp:=hfm.stp;clear hfm2 hpv hrr hrt hre hta hto hte hro hnw hmp hkp b12 hwp hszp hbl Bz;have Bz:=zr w12;have nv1_stp:some v1≠(Value.slice H i hc).ownBlock:=nv1_sp0;clear pa2 fa2 y0 pb0 pb1 pb2;have pa2:=(zxb HX0 Bz).cell 2 (.slice H i hc) rfl;obtain⟨y0,-,-,fa2,-⟩:=(zxb HX0 Bz).fz;obtain⟨pb0,pb1,pb2,-⟩:=(zxb HX1 Bz).cz;refine hK.out _ _ ⟨pa2,pb0,pb1,pb2⟩ (fun _=>?_);try simp only[uW,uX,uY,uZ]
        clear hK K;refine zC 105 rfl rfl (fun K hK=>?_);go_simp
        refine hK.out _ _ ⟨(zAd pa2),(zAd pb0),(zAd pb1),(zAd pb2)⟩ (fun _=>?_);try simp only[uW,uX,uY,uZ]
        clear hK K;refine zAc (o:=⟨some 106,_,_,_,_,_⟩) rfl rfl zd (fun K hK=>?_);obtain⟨V13,hW,x2,hN⟩:=zAe w12 #[.int .i64 (k:Int),.int .i64 co,.bool s,.slice A l c0,.bool s',.slice A' l' c',.slice RA rn rc,.slice TA tn tc] 74;rw[←hW];clear hW;obtain⟨v2,hb2⟩:=ze w12.heap.size;rw[←hb2] at x2 ⊢;have o0_2:fb<v2:=zi (zxb HX0 Bz).lt;have ow_2:w.heap.size≤v2:=zi (zw hB Bz);have nv2_stp:=OwnR.off' (b:=v2) hsp zo;replace hfm:=hfm.below hN;replace hst:=hst.below hN;replace hsp:=hsp.below hN;replace hB:=bT (bT hB Bz) hN;replace HX0:=zba HX0 Bz hN;replace HX1:=zba HX1 Bz hN;have HX2:=zh x2;clear x2 hN Bz hb2;have Bz:=zr V13;clear pa2 fa2 y0 pb0 pb1 pb2;have hdr:V13.drew.heap.size=V13.heap.size:=rfl;have hdr2:V13.drew.drew.heap.size=V13.heap.size:=rfl;refine Elt.wp elt_st (.tmp 100) (.tmp 105) rfl (w.heap.size) (.slice H i hc) (i) (LS) rfl hsp (.slice (some ⟨v2,0,none⟩) 1 1) (1) ([⟨(k:Int),co,⟨s,A,c0,l,s',A',c',l',pget (prs y.L) co,true⟩,⟨RA,rn,rc,RL⟩,⟨TA,tn,tc,TL⟩⟩]) rfl (From.one (HX2.out.below (bT Bz)) (⟨(k:Int),co,⟨s,A,c0,l,s',A',c',l',pget (prs y.L) co,true⟩,⟨RA,rn,rc,RL⟩,⟨TA,tn,tc,TL⟩⟩) rfl (elt_st.len _)) zo (zi (zw hB Bz)) ?_;intro H13 c13 w13 ho13 hg13;refine hK.out _ _ ?_;try simp only[uW,uX,uY,uZ]
        clear hK K;replace hB:=(bT (bT hB Bz)).trans (hg13.below (zi (zw hB Bz)) (fun g hg=>by have:=hsp.base g hg;omega));have nv0_own13:=hg13.ne (HX0.out.below (bT Bz)).lt (FM.fH hfm);replace HX0:=zh (hg13.bx (HX0.out.below (bT Bz)) (FM.fH hfm));have nv1_own13:=hg13.ne (HX1.out.below (bT Bz)).lt nv1_stp;replace HX1:=zh (hg13.bx (HX1.out.below (bT Bz)) nv1_stp);have nv2_own13:=hg13.ne (HX2.out.below (bT Bz)).lt nv2_stp;replace HX2:=zh (hg13.bx (HX2.out.below (bT Bz)) nv2_stp);have hfm3:=FM.app (FM.below hfm (bT Bz)) (StOwn.below hst (bT Bz)) hor hot ho13 hg13;clear hdr hdr2;clear hg13 Bz;have Bz:=zr w13;have pa2:=(zxb HX0 Bz).cell 2 (.slice H i hc) rfl;obtain⟨y0,-,-,fa2,-⟩:=(zxb HX0 Bz).fz;obtain⟨pb0,pb1,pb2,-⟩:=(zxb HX1 Bz).cz;iterate 2 (refine zV ?_;try simp only[uW,uX,uY,uZ])
        refine zAc (o:=⟨none,_,_,_,_,_⟩) rfl rfl zd (fun K hK=>?_);go_simp
        refine hK.out _ _ ?_;try simp only[Act.put,uX,uY,uZ]
        clear hK K;refine zAa ?_;obtain⟨V14,hW,x,kk,far,bel⟩:=st3_2_1 (.slice H13 (i+1) c13) (zxb HX0 Bz) nofun;rw[←hW];clear hW;have hfm4:=FM.put hfm3 far kk x;clear hfm3;replace hB:=bel w.heap.size w zo (bT hB Bz);replace HX1:=zf far HX1 Bz;replace HX2:=zf far HX2 Bz;replace HX0:=zh x;clear x kk far bel Bz;have Bz:=zr V14;clear pa2 fa2 y0 pb0 pb1 pb2;go_wp2_with fail
        go_roundg (n-(i+1))
        case measure=>have:=HGK.out;omega
        case rel=>exact⟨i+1,_,V2,_,_,_,zo,rfl,by go_num,HST.out,FM.below hfm4,HMP.out.trans (by rw[HVM.out]),by rw[jF,HLS.out,←HVM.out,←HTE.out,←HRE.out];rfl,bT (bT hB Bz)⟩
      ·obtain rfl:n=i:=zo;have i1:¬(n:Int)<(n:Int):=zo;have hlu:=hfm.lu;have hls:=HLS.out;(try simp only at hls)
       rw[hls] at hlu;go_wp2_with fail
       go_ret2
       exact⟨bT hB,.inr ⟨HRT.out,.inr ⟨_,fb,HFU.out,rfl,hfw,hlu.below (by go_grown)⟩⟩⟩
end Go.Proofs.YteggjbgbknkoiaaGreatDoor
