/-
  The first thing that a point does not hold: program.Broken. Written by wip/gen/pr3.py.
-/
import Derived.Test.YtjkgjiofmgapfaaGreatDoorYMx2
set_option maxHeartbeats 16000000
set_option maxRecDepth 100000
namespace Go.Proofs.YtjkgjiofmgapfaaGreatDoor
open Go.RowKit Tw
def outB (p:Vr×Fr):Bool:=decide (cmpQ p.2.q p.1.lo.q<0) || decide (0<cmpQ p.2.q p.1.hi.q)
def fracB (p:Vr×Fr):Bool:=p.1.int&&!decide (p.2.q.den=1)
def brokenF (V:List Vr) (R:List Rw) (X:List Fr):Int×Int :=
 if X.length=V.length then
  match (V.zip X).findIdx? outB with
  | some i=>(1,(i:Int))
  | none =>
   match R.findIdx? (fun x=>!holdsQ x (pdot (prs x.L) (idxP (X.map fun x=>x.q)))) with
   | some i=>(2,(i:Int))
   | none =>
    match (V.zip X).findIdx? fracB with
    | some i=>(3,(i:Int))
    | none=>(0,0)
 else(4,0)
theorem find_at {α:Type} {p:α→Bool}:∀{L:List α} {i:Nat} {x:α},(L.take i).all (fun x=>!p x)=true→L[i]?=some x→p x=true→L.findIdx? p=some i
 | [],_,_,_,h,_=>by simp at h
 | y :: L,0,x,_,h,hp=>by
  have:y=x:=by simpa using h
  subst this;simp[List.findIdx?_cons,hp]
 | y :: L,i+1,x,ha,h,hp=>by
  rw[List.take_succ_cons,List.all_cons,Bool.and_eq_true,Bool.not_eq_true'] at ha;rw[List.findIdx?_cons,ha.1,find_at ha.2 (by simpa using h) hp];simp
theorem find_no {α:Type} {p:α→Bool} {L:List α} (h:L.all (fun x=>!p x)=true):L.findIdx? p=none:=by
 rw[List.findIdx?_eq_none_iff];intro x hx;have:=List.all_eq_true.1 h x hx;simpa using this
theorem not_no {α:Type} {p:α→Bool} {x:α} (h:p x=false):(!p x)=true:=by rw[h];rfl
theorem broken_r {w:World} {m mx M KK:Nat} {vA rA cA xA:Option Addr} {vn vc rn rc cn cc xn xc:Nat} {V:List Vr} {R:List Rw} {C:List Tm} {X:List Fr} (h:PgOk w m ⟨vA,vn,vc,V,rA,rn,rc,R,cA,cn,cc,C⟩) (hx:Sl Fr.cs 4 w xA xn xc X) (hxf:Hid (∀x∈X,FrOk w mx x)) (hm:m≤20000000000) (hmx:mx≤100000000) (hxn:xn≤1000) (hM:mx+3≤M) (hM2:M≤15000000000) (hrow:Hid (∀x∈R,x.n≤1000∧1+x.n*(x.n*(m+2)+M+3)≤KK)) (hK2:KK≤15000000001) (u v:Int) (hz:Hid (brokenF V R X=(u,v))) (hT:Hid (Tab w)) :
  Calls Tryz.prog 28 #[.agg #[.slice vA vn vc,.slice rA rn rc,.slice cA cn cc],.slice xA xn xc] w fun e w'=>e=.returned (.tuple #[.int .i64 u,.int .i64 v])∧Below w.heap.size w w':=by
 have hvsl:Sl Vr.cs 9 w vA vn vc V:=h.vsl;have hrsl:Sl Rw.cs 6 w rA rn rc R:=h.rsl;have hv:∀x∈V,VrOk w m x:=h.v;have HR:Hid (∀x∈R,RwOk w m x):=zh h.r;have hlens:vn≤2000000∧rn≤2000000:=⟨h.lens.1,h.lens.2.1⟩;clear h;by_cases hl:xn=vn
 case neg =>
  have g1:((xn:Int) !=(vn:Int))=true:=by simp;omega
  have huv:u=4∧v=0:=by have h9:=hz.out;unfold brokenF at h9;rw[if_neg (by rw[hx.1,hvsl.1];exact hl)] at h9;exact⟨(congrArg Prod.fst h9).symm,(congrArg Prod.snd h9).symm⟩
  obtain⟨rfl,rfl⟩:=huv;clear hz hl;obtain⟨W,hW,x0,hB⟩:=zAa w #[.slice vA vn vc,.slice rA rn rc,.slice cA cn cc] 27;have HX0:=zh x0;clear x0;have Bz:=zr W;have pa0:=(zx HX0 Bz).cell 0 (.slice vA vn vc) rfl;go_enter Tryz.func28,Tryz.ntmps28
  go_wp2_with fail
  rw[←hW];clear hW;go_wp2_with fail
  go_ret2
  have hF:=bT (c:=W) hB Bz;exact⟨rfl,bT hF⟩
 have g1:((xn:Int) !=(vn:Int))=false:=by simp;omega
 have HLE:Hid (X.length=V.length):=zh (by rw[hx.1,hvsl.1];exact hl);have HZL:Hid ((V.zip X).length=vn):=zh (by rw[List.length_zip,hx.1,hvsl.1,hl];exact Nat.min_self _);obtain⟨W,hW,x0,hB⟩:=zAa w #[.slice vA vn vc,.slice rA rn rc,.slice cA cn cc] 27;have HX0:=zh x0;clear x0;have Bz:=zr W;have pa0:=(zx HX0 Bz).cell 0 (.slice vA vn vc) rfl;go_enter Tryz.func28,Tryz.ntmps28
 go_wp2_with fail
 rw[←hW];clear hW;go_wp2_with fail
 have HB0:=zh (bT hB Bz);have HY0:=zh (zx HX0 Bz);have HST:Hid (AL1 W (V.zip X) (fun p=>!outB p) vn vn (.int .i64 ((0:Nat):Int)) W):=zh ⟨0,Nat.zero_le _,rfl,rfl,Below.refl _ _,by simp⟩;have hle:xn≤vn∧vn≤xn:=zo;clear hB Bz HX0 hl;go_loopg [22] vn (fun gk s wr=>AL1 W (V.zip X) (fun p=>!outB p) vn gk s wr)
 case atStart=>exact HST.out
 case round =>
  clear HST;obtain⟨i,hi,hgk,rfl,hBW,hd⟩:=hrel;have HGK:=zh hgk;have HD:=zh hd;have hB:=bT HB0.out hBW;have HX0:=zh (HY0.out.below hBW);clear hgk hd;by_cases hlt:i<vn
  ·obtain⟨b,off,rfl,hel⟩:=hvsl.at Vr.cs_len zo zo;obtain⟨b',off',rfl,hel'⟩:=hx.at Fr.cs_len zo zo;obtain⟨x,hxi⟩:∃x,V[i]?=some x:=⟨V[i]'(zi hvsl.1),List.getElem?_eq_getElem _⟩;obtain⟨y,hyi⟩:∃y,X[i]?=some y:=⟨X[i]'(zi hx.1),List.getElem?_eq_getElem _⟩;have HVF:=zh (hv x (List.mem_of_getElem? hxi));have HYF:=zh (hxf.out y (List.mem_of_getElem? hyi));have hnd:=hel i x hxi;have hnd':=hel' i y hyi;have HTI:Hid ((V.zip X)[i]?=some (x,y)):=zh (by rw[List.getElem?_zip_eq_some];exact⟨hxi,hyi⟩);have i1:(i:Int)<(vn:Int):=zo;have i2:(0:Int)≤(i:Int):=zo;have i3:(i:Int)<(xn:Int):=zo;clear hel hel' hxi hyi;obtain⟨z1,HZ1⟩:∃z,Hid (cmpQ y.q x.lo.q=z):=⟨_,zh rfl⟩;obtain⟨z2,HZ2⟩:∃z,Hid (cmpQ y.q x.hi.q=z):=⟨_,zh rfl⟩;by_cases k1:z1<0
   ·have HP:Hid (outB (x,y)=true):=zh (by unfold outB;simp only;rw[HZ1.out,decide_eq_true k1];rfl);have huv:u=1∧v=(i:Int):=by have h9:=hz.out;unfold brokenF at h9;rw[if_pos HLE.out,find_at HD.out HTI.out HP.out] at h9;exact⟨(congrArg Prod.fst h9).symm,(congrArg Prod.snd h9).symm⟩
    obtain⟨rfl,rfl⟩:=huv;clear hz;have Bz:=zr wr;obtain⟨pA0,pA1,pA2,pA3,pA4,pA5,pA6,pA7,pA8,-⟩:=(hnd.below (bT hB Bz)).ez;go_upto_region 6 with(fail)
    obtain⟨V11,hW,x1,hN⟩:=zAa wr #[.bool x.lo.s,.slice x.lo.A x.lo.l x.lo.c,.bool x.lo.s',.slice x.lo.A' x.lo.l' x.lo.c',.bool x.hi.s,.slice x.hi.A x.hi.l x.hi.c,.bool x.hi.s',.slice x.hi.A' x.hi.l' x.hi.c',.bool x.int] 44;rw[←hW];clear hW;obtain⟨v1,hb1⟩:=ze wr.heap.size;rw[←hb1] at x1 ⊢;have o0_1:w.heap.size<v1:=zi (zx HX0 Bz).lt;have ow_1:w.heap.size≤v1:=zi (zw hB Bz);replace hB:=bT (bT hB Bz) hN;replace hBW:=bT (bT hBW Bz) hN;replace HX0:=zba HX0 Bz hN;have HX1:=zh x1;clear x1 hN Bz hb1;have Bz:=zr V11;clear pA0 pA1 pA2 pA3 pA4 pA5 pA6 pA7 pA8;obtain⟨pb0,pb1,pb2,pb3,-⟩:=(zx HX1 Bz).cz;obtain⟨pB0,pB1,pB2,pB3,-⟩:=(hnd'.below (bT hB Bz)).ez;go_wp2_with fail
    (try simp only[vAa,vBa,vC])
    refine zl (zz [0,1,2,3,4,5] (.only 6 (zz [7,8,9,10,11,12,13,14] (.only 15 (zz [16,17] .done))))) [] (zsa pb0 (zsa pb1 (zsa pb2 (zsa pb3 (zsa pB0 (zsa pB1 (zsa pB2 (zIa pB3)))))))) ?_;iterate 6 (refine zUa ?_;try simp only[uW,uX,uY,uZ])
    refine zC 33 rfl rfl (fun K hK=>?_);go_simp
    with_reducible refine(cmp_q (FrOk.below HYF.out (bT hB (bT (b:=V11) Bz))).r (FrOk.below HVF.out.lof (bT hB (bT (b:=V11) Bz))).r zo z1 HZ1).mono ?_
    rintro e w11 ⟨rfl,b11⟩;replace b11:=zq (a:=V11) b11;replace Bz:=bT Bz b11;clear b11;clear pb0 pb1 pb2 pb3 pB0 pB1 pB2 pB3;obtain⟨pb0,pb1,pb2,pb3,-⟩:=(zx HX1 Bz).cz;obtain⟨pB0,pB1,pB2,pB3,-⟩:=(hnd'.below (bT hB Bz)).ez;refine hK.out _ _ ⟨pb0,pb1,pb2,pb3,pB0,pB1,pB2,pB3⟩ (fun _=>?_);try simp only[uW,uX,uY,uZ]
    clear hK K;iterate 2 (refine zUa ?_;try simp only[uW,uX,uY,uZ])
    iterate 6 (refine zN rfl rfl ?_;try simp only[uW,uX,uY,uZ])
    refine wpPlan_pass (o:=⟨some 42,_,_,_,_,_⟩) rfl rfl ⟨pb0,pb1,pb2,pb3,pB0,pB1,pB2,pB3⟩ ?_;try simp only[uW,uX,uY,uZ]
    refine zN rfl rfl ?_;try simp only[uW,uX,uY,uZ]
    refine zUa ?_;try simp only[uW,uX,uY,uZ]
    refine wpPlan_done ?_;go_wp2_with fail
    go_ret2
    have hF:=bT (c:=w11) hB Bz;exact⟨rfl,bT (bT hB Bz)⟩
   ·have d1:decide (z1<0)=false:=decide_eq_false k1;by_cases k2:0<z2
    ·have HP:Hid (outB (x,y)=true):=zh (by unfold outB;simp only;rw[HZ1.out,HZ2.out,decide_eq_false k1,decide_eq_true k2];rfl);have huv:u=1∧v=(i:Int):=by have h9:=hz.out;unfold brokenF at h9;rw[if_pos HLE.out,find_at HD.out HTI.out HP.out] at h9;exact⟨(congrArg Prod.fst h9).symm,(congrArg Prod.snd h9).symm⟩
     obtain⟨rfl,rfl⟩:=huv;clear hz;have Bz:=zr wr;obtain⟨pA0,pA1,pA2,pA3,pA4,pA5,pA6,pA7,pA8,-⟩:=(hnd.below (bT hB Bz)).ez;go_upto_region 6 with(fail)
     obtain⟨V11,hW,x1,hN⟩:=zAa wr #[.bool x.lo.s,.slice x.lo.A x.lo.l x.lo.c,.bool x.lo.s',.slice x.lo.A' x.lo.l' x.lo.c',.bool x.hi.s,.slice x.hi.A x.hi.l x.hi.c,.bool x.hi.s',.slice x.hi.A' x.hi.l' x.hi.c',.bool x.int] 44;rw[←hW];clear hW;obtain⟨v1,hb1⟩:=ze wr.heap.size;rw[←hb1] at x1 ⊢;have o0_1:w.heap.size<v1:=zi (zx HX0 Bz).lt;have ow_1:w.heap.size≤v1:=zi (zw hB Bz);replace hB:=bT (bT hB Bz) hN;replace hBW:=bT (bT hBW Bz) hN;replace HX0:=zba HX0 Bz hN;have HX1:=zh x1;clear x1 hN Bz hb1;have Bz:=zr V11;clear pA0 pA1 pA2 pA3 pA4 pA5 pA6 pA7 pA8;obtain⟨pb0,pb1,pb2,pb3,pb4,pb5,pb6,pb7,-⟩:=(zx HX1 Bz).cz;obtain⟨pB0,pB1,pB2,pB3,-⟩:=(hnd'.below (bT hB Bz)).ez;go_wp2_with fail
     (try simp only[vAa,vBa,vC])
     refine zl (zz [0,1,2,3,4,5] (.only 6 (zz [7,8,9,10,11,12,13,14] (.only 15 (zz [16,17] .done))))) [] (zsa pb0 (zsa pb1 (zsa pb2 (zsa pb3 (zsa pb4 (zsa pb5 (zsa pb6 (zsa pb7 (zsa pB0 (zsa pB1 (zsa pB2 (zIa pB3)))))))))))) ?_;iterate 6 (refine zUa ?_;try simp only[uW,uX,uY,uZ])
     refine zC 33 rfl rfl (fun K hK=>?_);go_simp
     with_reducible refine(cmp_q (FrOk.below HYF.out (bT hB (bT (b:=V11) Bz))).r (FrOk.below HVF.out.lof (bT hB (bT (b:=V11) Bz))).r zo z1 HZ1).mono ?_
     rintro e w11 ⟨rfl,b11⟩;replace b11:=zq (a:=V11) b11;replace Bz:=bT Bz b11;clear b11;clear pb0 pb1 pb2 pb3 pb4 pb5 pb6 pb7 pB0 pB1 pB2 pB3;obtain⟨pb0,pb1,pb2,pb3,pb4,pb5,pb6,pb7,-⟩:=(zx HX1 Bz).cz;obtain⟨pB0,pB1,pB2,pB3,-⟩:=(hnd'.below (bT hB Bz)).ez;refine hK.out _ _ ⟨pb0,pb1,pb2,pb3,pb4,pb5,pb6,pb7,pB0,pB1,pB2,pB3⟩ (fun _=>?_);try simp only[uW,uX,uY,uZ]
     clear hK K;iterate 8 (refine zUa ?_;try simp only[uW,uX,uY,uZ])
     refine zC 42 rfl rfl (fun K hK=>?_);go_simp
     with_reducible refine(cmp_q (FrOk.below HYF.out (bT hB (bT (b:=w11) Bz))).r (FrOk.below HVF.out.hif (bT hB (bT (b:=w11) Bz))).r zo z2 HZ2).mono ?_
     rintro e w12 ⟨rfl,b12⟩;replace b12:=zq (a:=w11) b12;replace Bz:=bT Bz b12;clear b12;clear pb0 pb1 pb2 pb3 pb4 pb5 pb6 pb7 pB0 pB1 pB2 pB3;obtain⟨pb0,pb1,pb2,pb3,pb4,pb5,pb6,pb7,-⟩:=(zx HX1 Bz).cz;obtain⟨pB0,pB1,pB2,pB3,-⟩:=(hnd'.below (bT hB Bz)).ez;refine hK.out _ _ ⟨pb0,pb1,pb2,pb3,pb4,pb5,pb6,pb7,pB0,pB1,pB2,pB3⟩ (fun _=>?_);try simp only[uW,uX,uY,uZ]
     clear hK K;iterate 2 (refine zUa ?_;try simp only[uW,uX,uY,uZ])
     refine wpPlan_done ?_;go_wp2_with fail
     go_ret2
     have hF:=bT (c:=w12) hB Bz;exact⟨rfl,bT (bT hB Bz)⟩
    ·have HP:Hid (outB (x,y)=false):=zh (by unfold outB;simp only;rw[HZ1.out,HZ2.out,decide_eq_false k1,decide_eq_false k2];rfl);have Bz:=zr wr;obtain⟨pA0,pA1,pA2,pA3,pA4,pA5,pA6,pA7,pA8,-⟩:=(hnd.below (bT hB Bz)).ez;go_upto_region 6 with(fail)
     obtain⟨V11,hW,x1,hN⟩:=zAa wr #[.bool x.lo.s,.slice x.lo.A x.lo.l x.lo.c,.bool x.lo.s',.slice x.lo.A' x.lo.l' x.lo.c',.bool x.hi.s,.slice x.hi.A x.hi.l x.hi.c,.bool x.hi.s',.slice x.hi.A' x.hi.l' x.hi.c',.bool x.int] 44;rw[←hW];clear hW;obtain⟨v1,hb1⟩:=ze wr.heap.size;rw[←hb1] at x1 ⊢;have o0_1:w.heap.size<v1:=zi (zx HX0 Bz).lt;have ow_1:w.heap.size≤v1:=zi (zw hB Bz);replace hB:=bT (bT hB Bz) hN;replace hBW:=bT (bT hBW Bz) hN;replace HX0:=zba HX0 Bz hN;have HX1:=zh x1;clear x1 hN Bz hb1;have Bz:=zr V11;clear pA0 pA1 pA2 pA3 pA4 pA5 pA6 pA7 pA8;obtain⟨pb0,pb1,pb2,pb3,pb4,pb5,pb6,pb7,-⟩:=(zx HX1 Bz).cz;obtain⟨pB0,pB1,pB2,pB3,-⟩:=(hnd'.below (bT hB Bz)).ez;go_wp2_with fail
     (try simp only[vAa,vBa,vC])
     refine zl (zz [0,1,2,3,4,5] (.only 6 (zz [7,8,9,10,11,12,13,14] (.only 15 (zz [16,17] .done))))) [] (zsa pb0 (zsa pb1 (zsa pb2 (zsa pb3 (zsa pb4 (zsa pb5 (zsa pb6 (zsa pb7 (zsa pB0 (zsa pB1 (zsa pB2 (zIa pB3)))))))))))) ?_;iterate 6 (refine zUa ?_;try simp only[uW,uX,uY,uZ])
     refine zC 33 rfl rfl (fun K hK=>?_);go_simp
     with_reducible refine(cmp_q (FrOk.below HYF.out (bT hB (bT (b:=V11) Bz))).r (FrOk.below HVF.out.lof (bT hB (bT (b:=V11) Bz))).r zo z1 HZ1).mono ?_
     rintro e w11 ⟨rfl,b11⟩;replace b11:=zq (a:=V11) b11;replace Bz:=bT Bz b11;clear b11;clear pb0 pb1 pb2 pb3 pb4 pb5 pb6 pb7 pB0 pB1 pB2 pB3;obtain⟨pb0,pb1,pb2,pb3,pb4,pb5,pb6,pb7,-⟩:=(zx HX1 Bz).cz;obtain⟨pB0,pB1,pB2,pB3,-⟩:=(hnd'.below (bT hB Bz)).ez;refine hK.out _ _ ⟨pb0,pb1,pb2,pb3,pb4,pb5,pb6,pb7,pB0,pB1,pB2,pB3⟩ (fun _=>?_);try simp only[uW,uX,uY,uZ]
     clear hK K;iterate 8 (refine zUa ?_;try simp only[uW,uX,uY,uZ])
     refine zC 42 rfl rfl (fun K hK=>?_);go_simp
     with_reducible refine(cmp_q (FrOk.below HYF.out (bT hB (bT (b:=w11) Bz))).r (FrOk.below HVF.out.hif (bT hB (bT (b:=w11) Bz))).r zo z2 HZ2).mono ?_
     rintro e w12 ⟨rfl,b12⟩;replace b12:=zq (a:=w11) b12;replace Bz:=bT Bz b12;clear b12;clear pb0 pb1 pb2 pb3 pb4 pb5 pb6 pb7 pB0 pB1 pB2 pB3;obtain⟨pb0,pb1,pb2,pb3,pb4,pb5,pb6,pb7,-⟩:=(zx HX1 Bz).cz;obtain⟨pB0,pB1,pB2,pB3,-⟩:=(hnd'.below (bT hB Bz)).ez;refine hK.out _ _ ⟨pb0,pb1,pb2,pb3,pb4,pb5,pb6,pb7,pB0,pB1,pB2,pB3⟩ (fun _=>?_);try simp only[uW,uX,uY,uZ]
     clear hK K;iterate 2 (refine zUa ?_;try simp only[uW,uX,uY,uZ])
     refine wpPlan_done ?_;go_wp2_with fail
     go_roundg (vn-(i+1))
     case measure=>have:=HGK.out;omega
     case rel=>exact⟨i+1,zo,rfl,by go_num,bT (bT hBW Bz),take_all HD.out HTI.out (not_no HP.out)⟩
  ·obtain rfl:i=vn:=zo;have i1:¬(i:Int)<(i:Int):=zo;have HF1:Hid ((V.zip X).findIdx? outB=none):=zh (find_no (by have h9:=HD.out;rwa [List.take_of_length_le (by rw[HZL.out];exact Nat.le_refl _)] at h9));clear HD HGK hi hBW HB0 HY0;have Bz:=zr wr;go_wp2_with fail
   with_reducible refine(ofV_q (hx.below (bT hB (bT (b:=wr) Bz))) (zh fun x k=>(hxf.out x k).below (bT hB (bT (b:=wr) Bz))) zo zo (zt hT hB Bz)).mono ?_
   rintro e w19 ⟨A19,n19,c19,rfl,h19,b19⟩;replace b19:=zq (a:=wr) b19;replace Bz:=bT Bz b19;clear b19;have pa1:=(zx HX0 Bz).cell 1 (.slice rA rn rc) rfl;go_wp2_with fail
   have HB2:=zh (bT hB Bz);have HY2:=zh (zx HX0 Bz);have HYN:Hid (n19≤1000):=zh (by have h8:=h19.len;have h9:=nrm_len (idxP (X.map fun x=>x.q));have h7:=idxP_len (X.map fun x=>x.q);have h6:=hx.1;rw[List.length_map] at h7;omega);have HYV:Hid (GV w19 A19 n19 c19 (nrm (idxP (X.map fun x=>x.q))) M):=zh ((h19.gv (nrm_nrm _).rise).mono hM);have HST:Hid (AL1 w19 R (fun x=>!(!holdsQ x (pdot (prs x.L) (idxP (X.map fun x=>x.q))))) rn rn (.int .i64 ((0:Nat):Int)) w19):=zh ⟨0,Nat.zero_le _,rfl,rfl,Below.refl _ _,by simp⟩;obtain⟨wo,hwo⟩:∃x:World,x=wr:=⟨wr,rfl⟩;subst hwo;obtain⟨vn,hvn⟩:∃x:Nat,x=i:=⟨i,rfl⟩;subst hvn;clear hB Bz HX0 h19 i1;go_loopg [52] rn (fun gk s wr=>AL1 w19 R (fun x=>!(!holdsQ x (pdot (prs x.L) (idxP (X.map fun x=>x.q))))) rn gk s wr)
   case atStart=>exact HST.out
   case round =>
    clear HST;obtain⟨i,hi,hgk,rfl,hBW,hd⟩:=hrel;have HGK:=zh hgk;have HD:=zh hd;have hB:=bT HB2.out hBW;have HX0:=zh (HY2.out.below hBW);clear hgk hd;by_cases hlt:i<rn
    ·obtain⟨b,off,rfl,hel⟩:=hrsl.at Rw.cs_len zo zo;obtain⟨x,hxi⟩:∃x,R[i]?=some x:=⟨R[i]'(zi hrsl.1),List.getElem?_eq_getElem _⟩;have HRO:=zh (HR.out x (List.mem_of_getElem? hxi));have HRN:=zh (hrow.out x (List.mem_of_getElem? hxi)).1;have HRK:=zh (hrow.out x (List.mem_of_getElem? hxi)).2;have HTI:=zh hxi;have hnd:=hel i x hxi;have i1:(i:Int)<(rn:Int):=zo;have i2:(0:Int)≤(i:Int):=zo;clear hel hxi;cases hp:holdsQ x (pdot (prs x.L) (idxP (X.map fun x=>x.q)))
     ·have HP:Hid ((!holdsQ x (pdot (prs x.L) (idxP (X.map fun x=>x.q))))=true):=zh (by rw[hp];rfl);have HP2:Hid (holdsQ x (pdot (prs x.L) (nrm (idxP (X.map fun x=>x.q))))=false):=zh (by rw[pdot_nrm_right];exact hp);have huv:u=2∧v=(i:Int):=by have h9:=hz.out;unfold brokenF at h9;rw[if_pos HLE.out] at h9;simp only[HF1.out,(find_at HD.out HTI.out HP.out:R.findIdx? (fun x=>!holdsQ x (pdot (prs x.L) (idxP (X.map fun x=>x.q))))=some i)] at h9;exact⟨(congrArg Prod.fst h9).symm,(congrArg Prod.snd h9).symm⟩
      obtain⟨rfl,rfl⟩:=huv;clear hz hp;have Bz:=zr wr;obtain⟨pA0,pA1,pA2,pA3,pA4,pA5,-⟩:=(hnd.below (bT hB Bz)).ez;go_upto_region 13 with(fail)
      obtain⟨V21,hW,x1,hN⟩:=zAa wr #[.slice x.A x.n x.c,.int .u8 x.kind,.bool x.b.s,.slice x.b.A x.b.l x.b.c,.bool x.b.s',.slice x.b.A' x.b.l' x.b.c'] 35;rw[←hW];clear hW;obtain⟨v1,hb1⟩:=ze wr.heap.size;rw[←hb1] at x1 ⊢;have o0_1:w.heap.size<v1:=zi (zx HX0 Bz).lt;have ow_1:w.heap.size≤v1:=zi (zw hB Bz);replace hB:=bT (bT hB Bz) hN;replace hBW:=bT (bT hBW Bz) hN;replace HX0:=zba HX0 Bz hN;have HX1:=zh x1;clear x1 hN Bz hb1;have Bz:=zr V21;clear pA0 pA1 pA2 pA3 pA4 pA5;obtain⟨pb0,pb1,pb2,pb3,pb4,pb5,-⟩:=(zx HX1 Bz).cz;go_wp2_with fail
      with_reducible refine(holds_q (HRO.out.below (bT hB (bT (b:=V21) Bz))) (HYV.out.below (bT hBW (bT (b:=V21) Bz))) (zi HYN.out) HRN.out zo hm HRK.out hK2 false HP2 (zt hT hB Bz)).mono ?_
      rintro e w21 ⟨rfl,b21⟩;replace b21:=zq (a:=V21) b21;replace Bz:=bT Bz b21;clear b21;clear pb0 pb1 pb2 pb3 pb4 pb5;go_wp2_with fail
      go_ret2
      have hF:=bT (c:=w21) hB Bz;exact⟨rfl,bT (bT hB Bz)⟩
     ·have HP:Hid ((!holdsQ x (pdot (prs x.L) (idxP (X.map fun x=>x.q))))=false):=zh (by rw[hp];rfl);have HP2:Hid (holdsQ x (pdot (prs x.L) (nrm (idxP (X.map fun x=>x.q))))=true):=zh (by rw[pdot_nrm_right];exact hp);clear hp;have Bz:=zr wr;obtain⟨pA0,pA1,pA2,pA3,pA4,pA5,-⟩:=(hnd.below (bT hB Bz)).ez;go_upto_region 13 with(fail)
      obtain⟨V21,hW,x1,hN⟩:=zAa wr #[.slice x.A x.n x.c,.int .u8 x.kind,.bool x.b.s,.slice x.b.A x.b.l x.b.c,.bool x.b.s',.slice x.b.A' x.b.l' x.b.c'] 35;rw[←hW];clear hW;obtain⟨v1,hb1⟩:=ze wr.heap.size;rw[←hb1] at x1 ⊢;have o0_1:w.heap.size<v1:=zi (zx HX0 Bz).lt;have ow_1:w.heap.size≤v1:=zi (zw hB Bz);replace hB:=bT (bT hB Bz) hN;replace hBW:=bT (bT hBW Bz) hN;replace HX0:=zba HX0 Bz hN;have HX1:=zh x1;clear x1 hN Bz hb1;have Bz:=zr V21;clear pA0 pA1 pA2 pA3 pA4 pA5;obtain⟨pb0,pb1,pb2,pb3,pb4,pb5,-⟩:=(zx HX1 Bz).cz;go_wp2_with fail
      with_reducible refine(holds_q (HRO.out.below (bT hB (bT (b:=V21) Bz))) (HYV.out.below (bT hBW (bT (b:=V21) Bz))) (zi HYN.out) HRN.out zo hm HRK.out hK2 true HP2 (zt hT hB Bz)).mono ?_
      rintro e w21 ⟨rfl,b21⟩;replace b21:=zq (a:=V21) b21;replace Bz:=bT Bz b21;clear b21;clear pb0 pb1 pb2 pb3 pb4 pb5;go_wp2_with fail
      go_roundg (rn-(i+1))
      case measure=>have:=HGK.out;omega
      case rel=>exact⟨i+1,zo,rfl,by go_num,bT (bT hBW Bz),take_all HD.out HTI.out (not_no HP.out)⟩
    ·obtain rfl:i=rn:=zo;have i1:¬(i:Int)<(i:Int):=zo;have HF2:Hid (R.findIdx? (fun x=>!holdsQ x (pdot (prs x.L) (idxP (X.map fun x=>x.q))))=none):=zh (find_no (by have h9:=HD.out;rwa [List.take_of_length_le (by rw[hrsl.1];exact Nat.le_refl _)] at h9));clear HD HGK hi hBW HB2 HY2;have Bz:=zr wr;have pa0:=(zx HX0 Bz).cell 0 (.slice vA vn vc) rfl;go_wp2_with fail
     have HB3:=zh (bT hB Bz);have HY3:=zh (zx HX0 Bz);obtain⟨wp,hwp⟩:∃x:World,x=wr:=⟨wr,rfl⟩;subst hwp;have HST:Hid (AL1 wp (V.zip X) (fun p=>!fracB p) vn vn (.int .i64 ((0:Nat):Int)) wp):=zh ⟨0,Nat.zero_le _,rfl,rfl,Below.refl _ _,by simp⟩;obtain⟨rn,hrn⟩:∃x:Nat,x=i:=⟨i,rfl⟩;subst hrn;clear hB Bz HX0 i1;go_loopg [66] vn (fun gk s wr=>AL1 wp (V.zip X) (fun p=>!fracB p) vn gk s wr)
     case atStart=>exact HST.out
     case round =>
      clear HST;obtain⟨i,hi,hgk,rfl,hBW,hd⟩:=hrel;have HGK:=zh hgk;have HD:=zh hd;have hB:=bT HB3.out hBW;have HX0:=zh (HY3.out.below hBW);clear hgk hd;by_cases hlt:i<vn
      ·obtain⟨b,off,rfl,hel⟩:=hvsl.at Vr.cs_len zo zo;obtain⟨b',off',rfl,hel'⟩:=hx.at Fr.cs_len zo zo;obtain⟨x,hxi⟩:∃x,V[i]?=some x:=⟨V[i]'(zi hvsl.1),List.getElem?_eq_getElem _⟩;obtain⟨y,hyi⟩:∃y,X[i]?=some y:=⟨X[i]'(zi hx.1),List.getElem?_eq_getElem _⟩;have HVF:=zh (hv x (List.mem_of_getElem? hxi));have HYF:=zh (hxf.out y (List.mem_of_getElem? hyi));have hnd:=hel i x hxi;have hnd':=hel' i y hyi;have HTI:Hid ((V.zip X)[i]?=some (x,y)):=zh (by rw[List.getElem?_zip_eq_some];exact⟨hxi,hyi⟩);have i1:(i:Int)<(vn:Int):=zo;have i2:(0:Int)≤(i:Int):=zo;have i3:(i:Int)<(xn:Int):=zo;clear hel hel' hxi hyi;obtain⟨lo,hu,it⟩:=x;cases it
       ·have HP:Hid (fracB (⟨lo,hu,false⟩,y)=false):=zh rfl;have Bz:=zr wr;obtain⟨pA0,pA1,pA2,pA3,pA4,pA5,pA6,pA7,pA8,-⟩:=(hnd.below (bT hB Bz)).ez;go_upto_region 19 with(fail)
        obtain⟨V31,hW,x1,hN⟩:=zAa wr #[.bool lo.s,.slice lo.A lo.l lo.c,.bool lo.s',.slice lo.A' lo.l' lo.c',.bool hu.s,.slice hu.A hu.l hu.c,.bool hu.s',.slice hu.A' hu.l' hu.c',.bool false] 44;rw[←hW];clear hW;obtain⟨v1,hb1⟩:=ze wr.heap.size;rw[←hb1] at x1 ⊢;have o0_1:w.heap.size<v1:=zi (zx HX0 Bz).lt;have ow_1:w.heap.size≤v1:=zi (zw hB Bz);replace hB:=bT (bT hB Bz) hN;replace hBW:=bT (bT hBW Bz) hN;replace HX0:=zba HX0 Bz hN;have HX1:=zh x1;clear x1 hN Bz hb1;have Bz:=zr V31;clear pA0 pA1 pA2 pA3 pA4 pA5 pA6 pA7 pA8;have pb8:=(zx HX1 Bz).cell 8 (.bool false) rfl;go_wp2_with fail
        go_roundg (vn-(i+1))
        case measure=>have:=HGK.out;omega
        case rel=>exact⟨i+1,zo,rfl,by go_num,bT (bT hBW Bz),take_all HD.out HTI.out (not_no HP.out)⟩
       ·cases hw:decide (y.q.den=1)
        ·have HW:=zh hw;have HP:Hid (fracB (⟨lo,hu,true⟩,y)=true):=zh (by unfold fracB;simp only;rw[hw];rfl);have huv:u=3∧v=(i:Int):=by have h9:=hz.out;unfold brokenF at h9;rw[if_pos HLE.out] at h9;simp only[HF1.out,HF2.out,(find_at HD.out HTI.out HP.out:(V.zip X).findIdx? fracB=some i)] at h9;exact⟨(congrArg Prod.fst h9).symm,(congrArg Prod.snd h9).symm⟩
         obtain⟨rfl,rfl⟩:=huv;clear hz hw;have Bz:=zr wr;obtain⟨pA0,pA1,pA2,pA3,pA4,pA5,pA6,pA7,pA8,-⟩:=(hnd.below (bT hB Bz)).ez;go_upto_region 19 with(fail)
         obtain⟨V31,hW,x1,hN⟩:=zAa wr #[.bool lo.s,.slice lo.A lo.l lo.c,.bool lo.s',.slice lo.A' lo.l' lo.c',.bool hu.s,.slice hu.A hu.l hu.c,.bool hu.s',.slice hu.A' hu.l' hu.c',.bool true] 44;rw[←hW];clear hW;obtain⟨v1,hb1⟩:=ze wr.heap.size;rw[←hb1] at x1 ⊢;have o0_1:w.heap.size<v1:=zi (zx HX0 Bz).lt;have ow_1:w.heap.size≤v1:=zi (zw hB Bz);replace hB:=bT (bT hB Bz) hN;replace hBW:=bT (bT hBW Bz) hN;replace HX0:=zba HX0 Bz hN;have HX1:=zh x1;clear x1 hN Bz hb1;have Bz:=zr V31;clear pA0 pA1 pA2 pA3 pA4 pA5 pA6 pA7 pA8;have pb8:=(zx HX1 Bz).cell 8 (.bool true) rfl;obtain⟨pB0,pB1,pB2,pB3,-⟩:=(hnd'.below (bT hB Bz)).ez;go_wp2_with fail
         with_reducible refine(isWhole_q (FrOk.below HYF.out (bT hB (bT (b:=V31) Bz))).r zo false HW).mono ?_
         rintro e w31 ⟨rfl,b31⟩;replace b31:=zq (a:=V31) b31;replace Bz:=bT Bz b31;clear b31;clear pb8 pB0 pB1 pB2 pB3;go_wp2_with fail
         go_ret2
         have hF:=bT (c:=w31) hB Bz;exact⟨rfl,bT (bT hB Bz)⟩
        ·have HW:=zh hw;have HP:Hid (fracB (⟨lo,hu,true⟩,y)=false):=zh (by unfold fracB;simp only;rw[hw];rfl);clear hw;have Bz:=zr wr;obtain⟨pA0,pA1,pA2,pA3,pA4,pA5,pA6,pA7,pA8,-⟩:=(hnd.below (bT hB Bz)).ez;go_upto_region 19 with(fail)
         obtain⟨V31,hW,x1,hN⟩:=zAa wr #[.bool lo.s,.slice lo.A lo.l lo.c,.bool lo.s',.slice lo.A' lo.l' lo.c',.bool hu.s,.slice hu.A hu.l hu.c,.bool hu.s',.slice hu.A' hu.l' hu.c',.bool true] 44;rw[←hW];clear hW;obtain⟨v1,hb1⟩:=ze wr.heap.size;rw[←hb1] at x1 ⊢;have o0_1:w.heap.size<v1:=zi (zx HX0 Bz).lt;have ow_1:w.heap.size≤v1:=zi (zw hB Bz);replace hB:=bT (bT hB Bz) hN;replace hBW:=bT (bT hBW Bz) hN;replace HX0:=zba HX0 Bz hN;have HX1:=zh x1;clear x1 hN Bz hb1;have Bz:=zr V31;clear pA0 pA1 pA2 pA3 pA4 pA5 pA6 pA7 pA8;have pb8:=(zx HX1 Bz).cell 8 (.bool true) rfl;obtain⟨pB0,pB1,pB2,pB3,-⟩:=(hnd'.below (bT hB Bz)).ez;go_wp2_with fail
         with_reducible refine(isWhole_q (FrOk.below HYF.out (bT hB (bT (b:=V31) Bz))).r zo true HW).mono ?_
         rintro e w31 ⟨rfl,b31⟩;replace b31:=zq (a:=V31) b31;replace Bz:=bT Bz b31;clear b31;clear pb8 pB0 pB1 pB2 pB3;go_wp2_with fail
         go_roundg (vn-(i+1))
         case measure=>have:=HGK.out;omega
         case rel=>exact⟨i+1,zo,rfl,by go_num,bT (bT hBW Bz),take_all HD.out HTI.out (not_no HP.out)⟩
      ·obtain rfl:i=vn:=zo;have i1:¬(i:Int)<(i:Int):=zo;have HF3:Hid ((V.zip X).findIdx? fracB=none):=zh (find_no (by have h9:=HD.out;rwa [List.take_of_length_le (by rw[HZL.out];exact Nat.le_refl _)] at h9));have huv:u=0∧v=0:=by have h9:=hz.out;unfold brokenF at h9;rw[if_pos HLE.out] at h9;simp only[HF1.out,HF2.out,HF3.out] at h9;exact⟨(congrArg Prod.fst h9).symm,(congrArg Prod.snd h9).symm⟩
       obtain⟨rfl,rfl⟩:=huv;clear hz HD HGK;have Bz:=zr wr;go_wp2_with fail
       go_ret2
       have hF:=bT (c:=wr) hB Bz;exact⟨rfl,bT (bT hB Bz)⟩
theorem broken_q {w:World} {m mx M KK:Nat} {xA:Option Addr} {xn xc:Nat} {p:Pg} {X:List Fr} (h:PgOk w m p) (hx:Sl Fr.cs 4 w xA xn xc X) (hxf:Hid (∀x∈X,FrOk w mx x)) (hm:m≤20000000000) (hmx:mx≤100000000) (hxn:xn≤1000) (hM:mx+3≤M) (hM2:M≤15000000000) (hrow:Hid (∀x∈p.R,x.n≤1000∧1+x.n*(x.n*(m+2)+M+3)≤KK)) (hK2:KK≤15000000001) (u v:Int) (hz:Hid (brokenF p.V p.R X=(u,v))) (hT:Hid (Tab w)) :
  Calls Tryz.prog 28 #[.agg #[.slice p.vA p.vn p.vc,.slice p.rA p.rn p.rc,.slice p.cA p.cn p.cc],.slice xA xn xc] w fun e w'=>e=.returned (.tuple #[.int .i64 u,.int .i64 v])∧Below w.heap.size w w':=by
 obtain⟨vA,vn,vc,V,rA,rn,rc,R,cA,cn,cc,C⟩:=p;exact broken_r h hx hxf hm hmx hxn hM hM2 hrow hK2 u v hz hT
end Go.Proofs.YtjkgjiofmgapfaaGreatDoor
