/-
  The first thing that a point does not hold: program.Broken. Written by wip/gen/pr3.py.
-/
import Derived.Test.YtjkgjiofmgapfaaGreatDoorYMx2
set_option maxHeartbeats 16000000
set_option maxRecDepth 100000
namespace Go.Proofs.YtjkgjiofmgapfaaGreatDoor
open Go.RowKit Tw
def outB (p:Vr×Fr):Bool:=decide (cmpQ p.2.q p.1.lo.q<0) || decide (0<cmpQ p.2.q p.1.hi.q)
def fracB (p:Vr×Fr):Bool:=p.1.int&&!decide (p.2.q.den=1)
def brokenF (V:List Vr) (R:List Rw) (X:List Fr):Int×Int :=
 if X.length=V.length then
  match (V.zip X).findIdx? outB with
  | some i=>(1,(i:Int))
  | none =>
   match R.findIdx? (fun x=>!holdsQ x (pdot (prs x.L) (idxP (X.map fun x=>x.q)))) with
   | some i=>(2,(i:Int))
   | none =>
    match (V.zip X).findIdx? fracB with
    | some i=>(3,(i:Int))
    | none=>(0,0)
 else(4,0)
theorem find_at {α:Type} {p:α→Bool}:∀{L:List α} {i:Nat} {x:α},(L.take i).all (fun x=>!p x)=true→L[i]?=some x→p x=true→L.findIdx? p=some i
 | [],_,_,_,h,_=>by simp at h
 | y :: L,0,x,_,h,hp=>by
  have:y=x:=by simpa using h
  subst this
  simp[List.findIdx?_cons,hp]
 | y :: L,i+1,x,ha,h,hp=>by
  rw[List.take_succ_cons,List.all_cons,Bool.and_eq_true,Bool.not_eq_true'] at ha
  rw[List.findIdx?_cons,ha.1,find_at ha.2 (by simpa using h) hp]
  simp
theorem find_no {α:Type} {p:α→Bool} {L:List α} (h:L.all (fun x=>!p x)=true):L.findIdx? p=none:=by
 rw[List.findIdx?_eq_none_iff]
 intro x hx
 have:=List.all_eq_true.1 h x hx
 simpa using this
theorem not_no {α:Type} {p:α→Bool} {x:α} (h:p x=false):(!p x)=true:=by rw[h];rfl
theorem broken_r {w:World} {m mx M KK:Nat} {vA rA cA xA:Option Addr} {vn vc rn rc cn cc xn xc:Nat} {V:List Vr} {R:List Rw} {C:List Tm} {X:List Fr} (h:PgOk w m ⟨vA,vn,vc,V,rA,rn,rc,R,cA,cn,cc,C⟩) (hx:Sl Fr.cs 4 w xA xn xc X) (hxf:Hid (∀x∈X,FrOk w mx x)) (hm:m≤20000000000) (hmx:mx≤1000) (hxn:xn≤1000) (hM:mx+3≤M) (hM2:M≤15000000000) (hrow:Hid (∀x∈R,x.n≤1000∧1+x.n*(x.n*(m+2)+M+3)≤KK)) (hK2:KK≤15000000001) (u v:Int) (hz:Hid (brokenF V R X=(u,v))) (hT:Hid (Tab w)) :
  Calls Tryz.prog 28 #[.agg #[.slice vA vn vc,.slice rA rn rc,.slice cA cn cc],.slice xA xn xc] w fun e w'=>e=.returned (.tuple #[.int .i64 u,.int .i64 v])∧Below w.heap.size w w':=by
 have hvsl:Sl Vr.cs 9 w vA vn vc V:=h.vsl
 have hrsl:Sl Rw.cs 6 w rA rn rc R:=h.rsl
 have hv:∀x∈V,VrOk w m x:=h.v
 have HR:Hid (∀x∈R,RwOk w m x):=zh h.r
 have hlens:vn≤2000000∧rn≤2000000:=⟨h.lens.1,h.lens.2.1⟩
 clear h
 by_cases hl:xn=vn
 case neg =>
  have g1:((xn:Int) !=(vn:Int))=true:=by simp;omega
  have huv:u=4∧v=0:=by have h9:=hz.out;unfold brokenF at h9;rw[if_neg (by rw[hx.1,hvsl.1];exact hl)] at h9;exact⟨(congrArg Prod.fst h9).symm,(congrArg Prod.snd h9).symm⟩
  obtain⟨rfl,rfl⟩:=huv
  clear hz hl
  obtain⟨W,hW,x0,hB⟩:=zAc w #[.slice vA vn vc,.slice rA rn rc,.slice cA cn cc] 27
  have HX0:=zh x0
  clear x0
  have Bz:=Below.refl W.heap.size W
  have p0_0:=(zx HX0 Bz).cell 0 (.slice vA vn vc) rfl
  go_enter Tryz.func28,Tryz.ntmps28
  go_wp2_with fail
  rw[←hW]
  clear hW
  go_wp2_with fail
  go_ret2
  have hF:=zAa (c:=W) hB Bz
  exact⟨rfl,zAa hF (by go_grown)⟩
 have g1:((xn:Int) !=(vn:Int))=false:=by simp;omega
 have HLE:Hid (X.length=V.length):=zh (by rw[hx.1,hvsl.1];exact hl)
 have HZL:Hid ((V.zip X).length=vn):=zh (by rw[List.length_zip,hx.1,hvsl.1,hl];exact Nat.min_self _)
 obtain⟨W,hW,x0,hB⟩:=zAc w #[.slice vA vn vc,.slice rA rn rc,.slice cA cn cc] 27
 have HX0:=zh x0
 clear x0
 have Bz:=Below.refl W.heap.size W
 have p0_0:=(zx HX0 Bz).cell 0 (.slice vA vn vc) rfl
 go_enter Tryz.func28,Tryz.ntmps28
 go_wp2_with fail
 rw[←hW]
 clear hW
 go_wp2_with fail
 have HB0:=zh (zAa hB Bz)
 have HY0:=zh (zx HX0 Bz)
 have HST:Hid (AL1 W (V.zip X) (fun p=>!outB p) vn vn (.int .i64 ((0:Nat):Int)) W):=zh ⟨0,Nat.zero_le _,rfl,rfl,Below.refl _ _,by simp⟩
 have hle:xn≤vn∧vn≤xn:=by omega
 clear hB Bz HX0 hl
 go_loopg [22] vn (fun gk s wr=>AL1 W (V.zip X) (fun p=>!outB p) vn gk s wr)
 case atStart=>exact HST.out
 case round =>
  clear HST
  obtain⟨i,hi,hgk,rfl,hBW,hd⟩:=hrel
  have HGK:=zh hgk
  have HD:=zh hd
  have hB:=zAa HB0.out hBW
  have HX0:=zh (HY0.out.below hBW)
  clear hgk hd
  by_cases hlt:i<vn
  ·obtain⟨b,off,rfl,hel⟩:=hvsl.at Vr.cs_len (by omega) (by omega)
   obtain⟨b',off',rfl,hel'⟩:=hx.at Fr.cs_len (by omega) (by omega)
   obtain⟨x,hxi⟩:∃x,V[i]?=some x:=⟨V[i]'(by have:=hvsl.1;omega),List.getElem?_eq_getElem _⟩
   obtain⟨y,hyi⟩:∃y,X[i]?=some y:=⟨X[i]'(by have:=hx.1;omega),List.getElem?_eq_getElem _⟩
   have HVF:=zh (hv x (List.mem_of_getElem? hxi))
   have HYF:=zh (hxf.out y (List.mem_of_getElem? hyi))
   have hnd:=hel i x hxi
   have hnd':=hel' i y hyi
   have HTI:Hid ((V.zip X)[i]?=some (x,y)):=zh (by rw[List.getElem?_zip_eq_some];exact⟨hxi,hyi⟩)
   have i1:(i:Int)<(vn:Int):=by omega
   have i2:(0:Int)≤(i:Int):=by omega
   have i3:(i:Int)<(xn:Int):=by omega
   clear hel hel' hxi hyi
   obtain⟨z1,HZ1⟩:∃z,Hid (cmpQ y.q x.lo.q=z):=⟨_,zh rfl⟩
   obtain⟨z2,HZ2⟩:∃z,Hid (cmpQ y.q x.hi.q=z):=⟨_,zh rfl⟩
   by_cases k1:z1<0
   ·have HP:Hid (outB (x,y)=true):=zh (by unfold outB;simp only;rw[HZ1.out,decide_eq_true k1];rfl)
    have huv:u=1∧v=(i:Int):=by have h9:=hz.out;unfold brokenF at h9;rw[if_pos HLE.out,find_at HD.out HTI.out HP.out] at h9;exact⟨(congrArg Prod.fst h9).symm,(congrArg Prod.snd h9).symm⟩
    obtain⟨rfl,rfl⟩:=huv
    clear hz
    have Bz:=Below.refl wr.heap.size wr
    obtain⟨p50_0,p50_1,p50_2,p50_3,p50_4,p50_5,p50_6,p50_7,p50_8,-⟩:=(hnd.below (zAa hB Bz)).ez
    go_upto_region 6 with(fail)
    obtain⟨V11,hW,x1,hN⟩:=zAc wr #[.bool x.lo.s,.slice x.lo.A x.lo.l x.lo.c,.bool x.lo.s',.slice x.lo.A' x.lo.l' x.lo.c',.bool x.hi.s,.slice x.hi.A x.hi.l x.hi.c,.bool x.hi.s',.slice x.hi.A' x.hi.l' x.hi.c',.bool x.int] 44
    rw[←hW]
    clear hW
    obtain⟨v1,hb1⟩:∃b,b=wr.heap.size:=⟨_,rfl⟩
    rw[←hb1] at x1 ⊢
    have o0_1:w.heap.size<v1:=by have:=(zx HX0 Bz).lt;omega
    have ow_1:w.heap.size≤v1:=by have:=zw hB Bz;omega
    replace hB:=zAa (zAa hB Bz) hN
    replace hBW:=zAa (zAa hBW Bz) hN
    replace HX0:=zh ((zx HX0 Bz).below hN)
    have HX1:=zh x1
    clear x1 hN Bz hb1
    have Bz:=Below.refl V11.heap.size V11
    clear p50_0 p50_1 p50_2 p50_3 p50_4 p50_5 p50_6 p50_7 p50_8
    obtain⟨p1_0,p1_1,p1_2,p1_3,-⟩:=(zx HX1 Bz).cz
    obtain⟨p51_0,p51_1,p51_2,p51_3,-⟩:=(hnd'.below (zAa hB Bz)).ez
    go_wp2_with fail
    (try simp only[List.append_eq,List.cons_append,List.nil_append])
    refine wp_region_plan (.take 0 (.take 1 (.take 2 (.take 3 (.take 4 (.take 5 (.only 6 (.take 7 (.take 8 (.take 9 (.take 10 (.take 11 (.take 12 (.take 13 (.take 14 (.only 15 (.take 16 (.take 17 .done)))))))))))))))))) [] (fun w'=>w'.cell? ⟨v1,0,none⟩=some (.bool x.lo.s)∧w'.cell? ⟨v1,1,none⟩=some (.slice x.lo.A x.lo.l x.lo.c)∧w'.cell? ⟨v1,2,none⟩=some (.bool x.lo.s')∧w'.cell? ⟨v1,3,none⟩=some (.slice x.lo.A' x.lo.l' x.lo.c')∧w'.cell? ⟨b',off'+i*4,none⟩=some (.bool y.s)∧w'.cell? ⟨b',off'+i*4+1,none⟩=some (.slice y.A y.l y.c)∧w'.cell? ⟨b',off'+i*4+2,none⟩=some (.bool y.s')∧w'.cell? ⟨b',off'+i*4+3,none⟩=some (.slice y.A' y.l' y.c')) (by kernel_rfl) (by kernel_rfl) ⟨p1_0,p1_1,p1_2,p1_3,p51_0,p51_1,p51_2,p51_3⟩ ?_
    iterate 6 (refine zT rfl rfl (fun w' ⟨p1_0,p1_1,p1_2,p1_3,p51_0,p51_1,p51_2,p51_3⟩=>by go_simp<;>with_reducible rfl) ?_;try simp only[uW,uX,uY,uZ])
    refine zC 33 rfl rfl (fun K hK=>?_)
    go_simp
    with_reducible refine(cmp_q (FrOk.below HYF.out (zAa hB (zAa (b:=V11) Bz (by go_grown)))).r (FrOk.below HVF.out.lof (zAa hB (zAa (b:=V11) Bz (by go_grown)))).r (by omega) z1 HZ1).mono ?_
    rintro e w11 ⟨rfl,b11⟩
    replace b11:=zAa (a:=V11) (by go_grown) b11
    replace Bz:=zAa Bz b11
    clear b11
    clear p1_0 p1_1 p1_2 p1_3 p51_0 p51_1 p51_2 p51_3
    obtain⟨p1_0,p1_1,p1_2,p1_3,-⟩:=(zx HX1 Bz).cz
    obtain⟨p51_0,p51_1,p51_2,p51_3,-⟩:=(hnd'.below (zAa hB Bz)).ez
    refine hK.out _ _ ⟨p1_0,p1_1,p1_2,p1_3,p51_0,p51_1,p51_2,p51_3⟩ (fun _=>?_)
    try simp only[uW,uX,uY,uZ]
    clear hK K
    iterate 2 (refine zT rfl rfl (fun w' ⟨p1_0,p1_1,p1_2,p1_3,p51_0,p51_1,p51_2,p51_3⟩=>by go_simp<;>with_reducible rfl) ?_;try simp only[uW,uX,uY,uZ])
    iterate 6 (refine zN rfl rfl ?_;try simp only[uW,uX,uY,uZ])
    refine wpPlan_pass (o:=⟨some 42,_,_,_,_,_⟩) rfl rfl ⟨p1_0,p1_1,p1_2,p1_3,p51_0,p51_1,p51_2,p51_3⟩ ?_
    try simp only[uW,uX,uY,uZ]
    refine zN rfl rfl ?_
    try simp only[uW,uX,uY,uZ]
    refine zT rfl rfl (fun w' ⟨p1_0,p1_1,p1_2,p1_3,p51_0,p51_1,p51_2,p51_3⟩=>by go_simp<;>with_reducible rfl) ?_
    try simp only[uW,uX,uY,uZ]
    refine wpPlan_done ?_
    go_wp2_with fail
    go_ret2
    have hF:=zAa (c:=w11) hB Bz
    exact⟨rfl,zAa (zAa hB Bz) (by go_grown)⟩
   ·have d1:decide (z1<0)=false:=decide_eq_false k1
    by_cases k2:0<z2
    ·have HP:Hid (outB (x,y)=true):=zh (by unfold outB;simp only;rw[HZ1.out,HZ2.out,decide_eq_false k1,decide_eq_true k2];rfl)
     have huv:u=1∧v=(i:Int):=by have h9:=hz.out;unfold brokenF at h9;rw[if_pos HLE.out,find_at HD.out HTI.out HP.out] at h9;exact⟨(congrArg Prod.fst h9).symm,(congrArg Prod.snd h9).symm⟩
     obtain⟨rfl,rfl⟩:=huv
     clear hz
     have Bz:=Below.refl wr.heap.size wr
     obtain⟨p50_0,p50_1,p50_2,p50_3,p50_4,p50_5,p50_6,p50_7,p50_8,-⟩:=(hnd.below (zAa hB Bz)).ez
     go_upto_region 6 with(fail)
     obtain⟨V11,hW,x1,hN⟩:=zAc wr #[.bool x.lo.s,.slice x.lo.A x.lo.l x.lo.c,.bool x.lo.s',.slice x.lo.A' x.lo.l' x.lo.c',.bool x.hi.s,.slice x.hi.A x.hi.l x.hi.c,.bool x.hi.s',.slice x.hi.A' x.hi.l' x.hi.c',.bool x.int] 44
     rw[←hW]
     clear hW
     obtain⟨v1,hb1⟩:∃b,b=wr.heap.size:=⟨_,rfl⟩
     rw[←hb1] at x1 ⊢
     have o0_1:w.heap.size<v1:=by have:=(zx HX0 Bz).lt;omega
     have ow_1:w.heap.size≤v1:=by have:=zw hB Bz;omega
     replace hB:=zAa (zAa hB Bz) hN
     replace hBW:=zAa (zAa hBW Bz) hN
     replace HX0:=zh ((zx HX0 Bz).below hN)
     have HX1:=zh x1
     clear x1 hN Bz hb1
     have Bz:=Below.refl V11.heap.size V11
     clear p50_0 p50_1 p50_2 p50_3 p50_4 p50_5 p50_6 p50_7 p50_8
     obtain⟨p1_0,p1_1,p1_2,p1_3,p1_4,p1_5,p1_6,p1_7,-⟩:=(zx HX1 Bz).cz
     obtain⟨p51_0,p51_1,p51_2,p51_3,-⟩:=(hnd'.below (zAa hB Bz)).ez
     go_wp2_with fail
     (try simp only[List.append_eq,List.cons_append,List.nil_append])
     refine wp_region_plan (.take 0 (.take 1 (.take 2 (.take 3 (.take 4 (.take 5 (.only 6 (.take 7 (.take 8 (.take 9 (.take 10 (.take 11 (.take 12 (.take 13 (.take 14 (.only 15 (.take 16 (.take 17 .done)))))))))))))))))) [] (fun w'=>w'.cell? ⟨v1,0,none⟩=some (.bool x.lo.s)∧w'.cell? ⟨v1,1,none⟩=some (.slice x.lo.A x.lo.l x.lo.c)∧w'.cell? ⟨v1,2,none⟩=some (.bool x.lo.s')∧w'.cell? ⟨v1,3,none⟩=some (.slice x.lo.A' x.lo.l' x.lo.c')∧w'.cell? ⟨v1,4,none⟩=some (.bool x.hi.s)∧w'.cell? ⟨v1,5,none⟩=some (.slice x.hi.A x.hi.l x.hi.c)∧w'.cell? ⟨v1,6,none⟩=some (.bool x.hi.s')∧w'.cell? ⟨v1,7,none⟩=some (.slice x.hi.A' x.hi.l' x.hi.c')∧w'.cell? ⟨b',off'+i*4,none⟩=some (.bool y.s)∧w'.cell? ⟨b',off'+i*4+1,none⟩=some (.slice y.A y.l y.c)∧w'.cell? ⟨b',off'+i*4+2,none⟩=some (.bool y.s')∧w'.cell? ⟨b',off'+i*4+3,none⟩=some (.slice y.A' y.l' y.c')) (by kernel_rfl) (by kernel_rfl) ⟨p1_0,p1_1,p1_2,p1_3,p1_4,p1_5,p1_6,p1_7,p51_0,p51_1,p51_2,p51_3⟩ ?_
     iterate 6 (refine zT rfl rfl (fun w' ⟨p1_0,p1_1,p1_2,p1_3,p1_4,p1_5,p1_6,p1_7,p51_0,p51_1,p51_2,p51_3⟩=>by go_simp<;>with_reducible rfl) ?_;try simp only[uW,uX,uY,uZ])
     refine zC 33 rfl rfl (fun K hK=>?_)
     go_simp
     with_reducible refine(cmp_q (FrOk.below HYF.out (zAa hB (zAa (b:=V11) Bz (by go_grown)))).r (FrOk.below HVF.out.lof (zAa hB (zAa (b:=V11) Bz (by go_grown)))).r (by omega) z1 HZ1).mono ?_
     rintro e w11 ⟨rfl,b11⟩
     replace b11:=zAa (a:=V11) (by go_grown) b11
     replace Bz:=zAa Bz b11
     clear b11
     clear p1_0 p1_1 p1_2 p1_3 p1_4 p1_5 p1_6 p1_7 p51_0 p51_1 p51_2 p51_3
     obtain⟨p1_0,p1_1,p1_2,p1_3,p1_4,p1_5,p1_6,p1_7,-⟩:=(zx HX1 Bz).cz
     obtain⟨p51_0,p51_1,p51_2,p51_3,-⟩:=(hnd'.below (zAa hB Bz)).ez
     refine hK.out _ _ ⟨p1_0,p1_1,p1_2,p1_3,p1_4,p1_5,p1_6,p1_7,p51_0,p51_1,p51_2,p51_3⟩ (fun _=>?_)
     try simp only[uW,uX,uY,uZ]
     clear hK K
     iterate 8 (refine zT rfl rfl (fun w' ⟨p1_0,p1_1,p1_2,p1_3,p1_4,p1_5,p1_6,p1_7,p51_0,p51_1,p51_2,p51_3⟩=>by go_simp<;>with_reducible rfl) ?_;try simp only[uW,uX,uY,uZ])
     refine zC 42 rfl rfl (fun K hK=>?_)
     go_simp
     with_reducible refine(cmp_q (FrOk.below HYF.out (zAa hB (zAa (b:=w11) Bz (by go_grown)))).r (FrOk.below HVF.out.hif (zAa hB (zAa (b:=w11) Bz (by go_grown)))).r (by omega) z2 HZ2).mono ?_
     rintro e w12 ⟨rfl,b12⟩
     replace b12:=zAa (a:=w11) (by go_grown) b12
     replace Bz:=zAa Bz b12
     clear b12
     clear p1_0 p1_1 p1_2 p1_3 p1_4 p1_5 p1_6 p1_7 p51_0 p51_1 p51_2 p51_3
     obtain⟨p1_0,p1_1,p1_2,p1_3,p1_4,p1_5,p1_6,p1_7,-⟩:=(zx HX1 Bz).cz
     obtain⟨p51_0,p51_1,p51_2,p51_3,-⟩:=(hnd'.below (zAa hB Bz)).ez
     refine hK.out _ _ ⟨p1_0,p1_1,p1_2,p1_3,p1_4,p1_5,p1_6,p1_7,p51_0,p51_1,p51_2,p51_3⟩ (fun _=>?_)
     try simp only[uW,uX,uY,uZ]
     clear hK K
     iterate 2 (refine zT rfl rfl (fun w' ⟨p1_0,p1_1,p1_2,p1_3,p1_4,p1_5,p1_6,p1_7,p51_0,p51_1,p51_2,p51_3⟩=>by go_simp<;>with_reducible rfl) ?_;try simp only[uW,uX,uY,uZ])
     refine wpPlan_done ?_
     go_wp2_with fail
     go_ret2
     have hF:=zAa (c:=w12) hB Bz
     exact⟨rfl,zAa (zAa hB Bz) (by go_grown)⟩
    ·have HP:Hid (outB (x,y)=false):=zh (by unfold outB;simp only;rw[HZ1.out,HZ2.out,decide_eq_false k1,decide_eq_false k2];rfl)
     have Bz:=Below.refl wr.heap.size wr
     obtain⟨p50_0,p50_1,p50_2,p50_3,p50_4,p50_5,p50_6,p50_7,p50_8,-⟩:=(hnd.below (zAa hB Bz)).ez
     go_upto_region 6 with(fail)
     obtain⟨V11,hW,x1,hN⟩:=zAc wr #[.bool x.lo.s,.slice x.lo.A x.lo.l x.lo.c,.bool x.lo.s',.slice x.lo.A' x.lo.l' x.lo.c',.bool x.hi.s,.slice x.hi.A x.hi.l x.hi.c,.bool x.hi.s',.slice x.hi.A' x.hi.l' x.hi.c',.bool x.int] 44
     rw[←hW]
     clear hW
     obtain⟨v1,hb1⟩:∃b,b=wr.heap.size:=⟨_,rfl⟩
     rw[←hb1] at x1 ⊢
     have o0_1:w.heap.size<v1:=by have:=(zx HX0 Bz).lt;omega
     have ow_1:w.heap.size≤v1:=by have:=zw hB Bz;omega
     replace hB:=zAa (zAa hB Bz) hN
     replace hBW:=zAa (zAa hBW Bz) hN
     replace HX0:=zh ((zx HX0 Bz).below hN)
     have HX1:=zh x1
     clear x1 hN Bz hb1
     have Bz:=Below.refl V11.heap.size V11
     clear p50_0 p50_1 p50_2 p50_3 p50_4 p50_5 p50_6 p50_7 p50_8
     obtain⟨p1_0,p1_1,p1_2,p1_3,p1_4,p1_5,p1_6,p1_7,-⟩:=(zx HX1 Bz).cz
     obtain⟨p51_0,p51_1,p51_2,p51_3,-⟩:=(hnd'.below (zAa hB Bz)).ez
     go_wp2_with fail
     (try simp only[List.append_eq,List.cons_append,List.nil_append])
     refine wp_region_plan (.take 0 (.take 1 (.take 2 (.take 3 (.take 4 (.take 5 (.only 6 (.take 7 (.take 8 (.take 9 (.take 10 (.take 11 (.take 12 (.take 13 (.take 14 (.only 15 (.take 16 (.take 17 .done)))))))))))))))))) [] (fun w'=>w'.cell? ⟨v1,0,none⟩=some (.bool x.lo.s)∧w'.cell? ⟨v1,1,none⟩=some (.slice x.lo.A x.lo.l x.lo.c)∧w'.cell? ⟨v1,2,none⟩=some (.bool x.lo.s')∧w'.cell? ⟨v1,3,none⟩=some (.slice x.lo.A' x.lo.l' x.lo.c')∧w'.cell? ⟨v1,4,none⟩=some (.bool x.hi.s)∧w'.cell? ⟨v1,5,none⟩=some (.slice x.hi.A x.hi.l x.hi.c)∧w'.cell? ⟨v1,6,none⟩=some (.bool x.hi.s')∧w'.cell? ⟨v1,7,none⟩=some (.slice x.hi.A' x.hi.l' x.hi.c')∧w'.cell? ⟨b',off'+i*4,none⟩=some (.bool y.s)∧w'.cell? ⟨b',off'+i*4+1,none⟩=some (.slice y.A y.l y.c)∧w'.cell? ⟨b',off'+i*4+2,none⟩=some (.bool y.s')∧w'.cell? ⟨b',off'+i*4+3,none⟩=some (.slice y.A' y.l' y.c')) (by kernel_rfl) (by kernel_rfl) ⟨p1_0,p1_1,p1_2,p1_3,p1_4,p1_5,p1_6,p1_7,p51_0,p51_1,p51_2,p51_3⟩ ?_
     iterate 6 (refine zT rfl rfl (fun w' ⟨p1_0,p1_1,p1_2,p1_3,p1_4,p1_5,p1_6,p1_7,p51_0,p51_1,p51_2,p51_3⟩=>by go_simp<;>with_reducible rfl) ?_;try simp only[uW,uX,uY,uZ])
     refine zC 33 rfl rfl (fun K hK=>?_)
     go_simp
     with_reducible refine(cmp_q (FrOk.below HYF.out (zAa hB (zAa (b:=V11) Bz (by go_grown)))).r (FrOk.below HVF.out.lof (zAa hB (zAa (b:=V11) Bz (by go_grown)))).r (by omega) z1 HZ1).mono ?_
     rintro e w11 ⟨rfl,b11⟩
     replace b11:=zAa (a:=V11) (by go_grown) b11
     replace Bz:=zAa Bz b11
     clear b11
     clear p1_0 p1_1 p1_2 p1_3 p1_4 p1_5 p1_6 p1_7 p51_0 p51_1 p51_2 p51_3
     obtain⟨p1_0,p1_1,p1_2,p1_3,p1_4,p1_5,p1_6,p1_7,-⟩:=(zx HX1 Bz).cz
     obtain⟨p51_0,p51_1,p51_2,p51_3,-⟩:=(hnd'.below (zAa hB Bz)).ez
     refine hK.out _ _ ⟨p1_0,p1_1,p1_2,p1_3,p1_4,p1_5,p1_6,p1_7,p51_0,p51_1,p51_2,p51_3⟩ (fun _=>?_)
     try simp only[uW,uX,uY,uZ]
     clear hK K
     iterate 8 (refine zT rfl rfl (fun w' ⟨p1_0,p1_1,p1_2,p1_3,p1_4,p1_5,p1_6,p1_7,p51_0,p51_1,p51_2,p51_3⟩=>by go_simp<;>with_reducible rfl) ?_;try simp only[uW,uX,uY,uZ])
     refine zC 42 rfl rfl (fun K hK=>?_)
     go_simp
     with_reducible refine(cmp_q (FrOk.below HYF.out (zAa hB (zAa (b:=w11) Bz (by go_grown)))).r (FrOk.below HVF.out.hif (zAa hB (zAa (b:=w11) Bz (by go_grown)))).r (by omega) z2 HZ2).mono ?_
     rintro e w12 ⟨rfl,b12⟩
     replace b12:=zAa (a:=w11) (by go_grown) b12
     replace Bz:=zAa Bz b12
     clear b12
     clear p1_0 p1_1 p1_2 p1_3 p1_4 p1_5 p1_6 p1_7 p51_0 p51_1 p51_2 p51_3
     obtain⟨p1_0,p1_1,p1_2,p1_3,p1_4,p1_5,p1_6,p1_7,-⟩:=(zx HX1 Bz).cz
     obtain⟨p51_0,p51_1,p51_2,p51_3,-⟩:=(hnd'.below (zAa hB Bz)).ez
     refine hK.out _ _ ⟨p1_0,p1_1,p1_2,p1_3,p1_4,p1_5,p1_6,p1_7,p51_0,p51_1,p51_2,p51_3⟩ (fun _=>?_)
     try simp only[uW,uX,uY,uZ]
     clear hK K
     iterate 2 (refine zT rfl rfl (fun w' ⟨p1_0,p1_1,p1_2,p1_3,p1_4,p1_5,p1_6,p1_7,p51_0,p51_1,p51_2,p51_3⟩=>by go_simp<;>with_reducible rfl) ?_;try simp only[uW,uX,uY,uZ])
     refine wpPlan_done ?_
     go_wp2_with fail
     go_roundg (vn-(i+1))
     case measure=>have:=HGK.out;omega
     case rel=>exact⟨i+1,by omega,rfl,by go_num,zAa (zAa hBW Bz) (by go_grown),take_all HD.out HTI.out (not_no HP.out)⟩
  ·obtain rfl:i=vn:=by omega
   have i1:¬(i:Int)<(i:Int):=by omega
   have HF1:Hid ((V.zip X).findIdx? outB=none):=zh (find_no (by have h9:=HD.out;rwa [List.take_of_length_le (by rw[HZL.out];exact Nat.le_refl _)] at h9))
   clear HD HGK hi hBW HB0 HY0
   have Bz:=Below.refl wr.heap.size wr
   go_wp2_with fail
   with_reducible refine(ofV_q (hx.below (zAa hB (zAa (b:=wr) Bz (by go_grown)))) (zh fun x k=>(hxf.out x k).below (zAa hB (zAa (b:=wr) Bz (by go_grown)))) (by omega) (by omega) (zh (Tab.below hT.out (zAa hB (zAa (b:=wr) Bz (by go_grown)))))).mono ?_
   rintro e w19 ⟨A19,n19,c19,rfl,h19,b19⟩
   replace b19:=zAa (a:=wr) (by go_grown) b19
   replace Bz:=zAa Bz b19
   clear b19
   have p0_1:=(zx HX0 Bz).cell 1 (.slice rA rn rc) rfl
   go_wp2_with fail
   have HB2:=zh (zAa hB Bz)
   have HY2:=zh (zx HX0 Bz)
   have HYN:Hid (n19≤1000):=zh (by have h8:=h19.len;have h9:=nrm_len (idxP (X.map fun x=>x.q));have h7:=idxP_len (X.map fun x=>x.q);have h6:=hx.1;rw[List.length_map] at h7;omega)
   have HYV:Hid (GV w19 A19 n19 c19 (nrm (idxP (X.map fun x=>x.q))) M):=zh ((h19.gv (nrm_nrm _).rise).mono hM)
   have HST:Hid (AL1 w19 R (fun x=>!(!holdsQ x (pdot (prs x.L) (idxP (X.map fun x=>x.q))))) rn rn (.int .i64 ((0:Nat):Int)) w19):=zh ⟨0,Nat.zero_le _,rfl,rfl,Below.refl _ _,by simp⟩
   obtain⟨wo,hwo⟩:∃x:World,x=wr:=⟨wr,rfl⟩
   subst hwo
   obtain⟨vn,hvn⟩:∃x:Nat,x=i:=⟨i,rfl⟩
   subst hvn
   clear hB Bz HX0 h19 i1
   go_loopg [52] rn (fun gk s wr=>AL1 w19 R (fun x=>!(!holdsQ x (pdot (prs x.L) (idxP (X.map fun x=>x.q))))) rn gk s wr)
   case atStart=>exact HST.out
   case round =>
    clear HST
    obtain⟨i,hi,hgk,rfl,hBW,hd⟩:=hrel
    have HGK:=zh hgk
    have HD:=zh hd
    have hB:=zAa HB2.out hBW
    have HX0:=zh (HY2.out.below hBW)
    clear hgk hd
    by_cases hlt:i<rn
    ·obtain⟨b,off,rfl,hel⟩:=hrsl.at Rw.cs_len (by omega) (by omega)
     obtain⟨x,hxi⟩:∃x,R[i]?=some x:=⟨R[i]'(by have:=hrsl.1;omega),List.getElem?_eq_getElem _⟩
     have HRO:=zh (HR.out x (List.mem_of_getElem? hxi))
     have HRN:=zh (hrow.out x (List.mem_of_getElem? hxi)).1
     have HRK:=zh (hrow.out x (List.mem_of_getElem? hxi)).2
     have HTI:=zh hxi
     have hnd:=hel i x hxi
     have i1:(i:Int)<(rn:Int):=by omega
     have i2:(0:Int)≤(i:Int):=by omega
     clear hel hxi
     cases hp:holdsQ x (pdot (prs x.L) (idxP (X.map fun x=>x.q)))
     ·have HP:Hid ((!holdsQ x (pdot (prs x.L) (idxP (X.map fun x=>x.q))))=true):=zh (by rw[hp];rfl)
      have HP2:Hid (holdsQ x (pdot (prs x.L) (nrm (idxP (X.map fun x=>x.q))))=false):=zh (by rw[pdot_nrm_right];exact hp)
      have huv:u=2∧v=(i:Int):=by have h9:=hz.out;unfold brokenF at h9;rw[if_pos HLE.out] at h9;simp only[HF1.out,(find_at HD.out HTI.out HP.out:R.findIdx? (fun x=>!holdsQ x (pdot (prs x.L) (idxP (X.map fun x=>x.q))))=some i)] at h9;exact⟨(congrArg Prod.fst h9).symm,(congrArg Prod.snd h9).symm⟩
      obtain⟨rfl,rfl⟩:=huv
      clear hz hp
      have Bz:=Below.refl wr.heap.size wr
      obtain⟨p50_0,p50_1,p50_2,p50_3,p50_4,p50_5,-⟩:=(hnd.below (zAa hB Bz)).ez
      go_upto_region 13 with(fail)
      obtain⟨V21,hW,x1,hN⟩:=zAc wr #[.slice x.A x.n x.c,.int .u8 x.kind,.bool x.b.s,.slice x.b.A x.b.l x.b.c,.bool x.b.s',.slice x.b.A' x.b.l' x.b.c'] 35
      rw[←hW]
      clear hW
      obtain⟨v1,hb1⟩:∃b,b=wr.heap.size:=⟨_,rfl⟩
      rw[←hb1] at x1 ⊢
      have o0_1:w.heap.size<v1:=by have:=(zx HX0 Bz).lt;omega
      have ow_1:w.heap.size≤v1:=by have:=zw hB Bz;omega
      replace hB:=zAa (zAa hB Bz) hN
      replace hBW:=zAa (zAa hBW Bz) hN
      replace HX0:=zh ((zx HX0 Bz).below hN)
      have HX1:=zh x1
      clear x1 hN Bz hb1
      have Bz:=Below.refl V21.heap.size V21
      clear p50_0 p50_1 p50_2 p50_3 p50_4 p50_5
      obtain⟨p1_0,p1_1,p1_2,p1_3,p1_4,p1_5,-⟩:=(zx HX1 Bz).cz
      go_wp2_with fail
      with_reducible refine(holds_q (HRO.out.below (zAa hB (zAa (b:=V21) Bz (by go_grown)))) (HYV.out.below (zAa hBW (zAa (b:=V21) Bz (by go_grown)))) (by have:=HYN.out;omega) HRN.out (by omega) hm HRK.out hK2 false HP2 (zh (Tab.below hT.out (zAa hB (zAa (b:=V21) Bz (by go_grown)))))).mono ?_
      rintro e w21 ⟨rfl,b21⟩
      replace b21:=zAa (a:=V21) (by go_grown) b21
      replace Bz:=zAa Bz b21
      clear b21
      clear p1_0 p1_1 p1_2 p1_3 p1_4 p1_5
      go_wp2_with fail
      go_ret2
      have hF:=zAa (c:=w21) hB Bz
      exact⟨rfl,zAa (zAa hB Bz) (by go_grown)⟩
     ·have HP:Hid ((!holdsQ x (pdot (prs x.L) (idxP (X.map fun x=>x.q))))=false):=zh (by rw[hp];rfl)
      have HP2:Hid (holdsQ x (pdot (prs x.L) (nrm (idxP (X.map fun x=>x.q))))=true):=zh (by rw[pdot_nrm_right];exact hp)
      clear hp
      have Bz:=Below.refl wr.heap.size wr
      obtain⟨p50_0,p50_1,p50_2,p50_3,p50_4,p50_5,-⟩:=(hnd.below (zAa hB Bz)).ez
      go_upto_region 13 with(fail)
      obtain⟨V21,hW,x1,hN⟩:=zAc wr #[.slice x.A x.n x.c,.int .u8 x.kind,.bool x.b.s,.slice x.b.A x.b.l x.b.c,.bool x.b.s',.slice x.b.A' x.b.l' x.b.c'] 35
      rw[←hW]
      clear hW
      obtain⟨v1,hb1⟩:∃b,b=wr.heap.size:=⟨_,rfl⟩
      rw[←hb1] at x1 ⊢
      have o0_1:w.heap.size<v1:=by have:=(zx HX0 Bz).lt;omega
      have ow_1:w.heap.size≤v1:=by have:=zw hB Bz;omega
      replace hB:=zAa (zAa hB Bz) hN
      replace hBW:=zAa (zAa hBW Bz) hN
      replace HX0:=zh ((zx HX0 Bz).below hN)
      have HX1:=zh x1
      clear x1 hN Bz hb1
      have Bz:=Below.refl V21.heap.size V21
      clear p50_0 p50_1 p50_2 p50_3 p50_4 p50_5
      obtain⟨p1_0,p1_1,p1_2,p1_3,p1_4,p1_5,-⟩:=(zx HX1 Bz).cz
      go_wp2_with fail
      with_reducible refine(holds_q (HRO.out.below (zAa hB (zAa (b:=V21) Bz (by go_grown)))) (HYV.out.below (zAa hBW (zAa (b:=V21) Bz (by go_grown)))) (by have:=HYN.out;omega) HRN.out (by omega) hm HRK.out hK2 true HP2 (zh (Tab.below hT.out (zAa hB (zAa (b:=V21) Bz (by go_grown)))))).mono ?_
      rintro e w21 ⟨rfl,b21⟩
      replace b21:=zAa (a:=V21) (by go_grown) b21
      replace Bz:=zAa Bz b21
      clear b21
      clear p1_0 p1_1 p1_2 p1_3 p1_4 p1_5
      go_wp2_with fail
      go_roundg (rn-(i+1))
      case measure=>have:=HGK.out;omega
      case rel=>exact⟨i+1,by omega,rfl,by go_num,zAa (zAa hBW Bz) (by go_grown),take_all HD.out HTI.out (not_no HP.out)⟩
    ·obtain rfl:i=rn:=by omega
     have i1:¬(i:Int)<(i:Int):=by omega
     have HF2:Hid (R.findIdx? (fun x=>!holdsQ x (pdot (prs x.L) (idxP (X.map fun x=>x.q))))=none):=zh (find_no (by have h9:=HD.out;rwa [List.take_of_length_le (by rw[hrsl.1];exact Nat.le_refl _)] at h9))
     clear HD HGK hi hBW HB2 HY2
     have Bz:=Below.refl wr.heap.size wr
     have p0_0:=(zx HX0 Bz).cell 0 (.slice vA vn vc) rfl
     go_wp2_with fail
     have HB3:=zh (zAa hB Bz)
     have HY3:=zh (zx HX0 Bz)
     obtain⟨wp,hwp⟩:∃x:World,x=wr:=⟨wr,rfl⟩
     subst hwp
     have HST:Hid (AL1 wp (V.zip X) (fun p=>!fracB p) vn vn (.int .i64 ((0:Nat):Int)) wp):=zh ⟨0,Nat.zero_le _,rfl,rfl,Below.refl _ _,by simp⟩
     obtain⟨rn,hrn⟩:∃x:Nat,x=i:=⟨i,rfl⟩
     subst hrn
     clear hB Bz HX0 i1
     go_loopg [66] vn (fun gk s wr=>AL1 wp (V.zip X) (fun p=>!fracB p) vn gk s wr)
     case atStart=>exact HST.out
     case round =>
      clear HST
      obtain⟨i,hi,hgk,rfl,hBW,hd⟩:=hrel
      have HGK:=zh hgk
      have HD:=zh hd
      have hB:=zAa HB3.out hBW
      have HX0:=zh (HY3.out.below hBW)
      clear hgk hd
      by_cases hlt:i<vn
      ·obtain⟨b,off,rfl,hel⟩:=hvsl.at Vr.cs_len (by omega) (by omega)
       obtain⟨b',off',rfl,hel'⟩:=hx.at Fr.cs_len (by omega) (by omega)
       obtain⟨x,hxi⟩:∃x,V[i]?=some x:=⟨V[i]'(by have:=hvsl.1;omega),List.getElem?_eq_getElem _⟩
       obtain⟨y,hyi⟩:∃y,X[i]?=some y:=⟨X[i]'(by have:=hx.1;omega),List.getElem?_eq_getElem _⟩
       have HVF:=zh (hv x (List.mem_of_getElem? hxi))
       have HYF:=zh (hxf.out y (List.mem_of_getElem? hyi))
       have hnd:=hel i x hxi
       have hnd':=hel' i y hyi
       have HTI:Hid ((V.zip X)[i]?=some (x,y)):=zh (by rw[List.getElem?_zip_eq_some];exact⟨hxi,hyi⟩)
       have i1:(i:Int)<(vn:Int):=by omega
       have i2:(0:Int)≤(i:Int):=by omega
       have i3:(i:Int)<(xn:Int):=by omega
       clear hel hel' hxi hyi
       obtain⟨lo,hu,it⟩:=x
       cases it
       ·have HP:Hid (fracB (⟨lo,hu,false⟩,y)=false):=zh rfl
        have Bz:=Below.refl wr.heap.size wr
        obtain⟨p50_0,p50_1,p50_2,p50_3,p50_4,p50_5,p50_6,p50_7,p50_8,-⟩:=(hnd.below (zAa hB Bz)).ez
        go_upto_region 19 with(fail)
        obtain⟨V31,hW,x1,hN⟩:=zAc wr #[.bool lo.s,.slice lo.A lo.l lo.c,.bool lo.s',.slice lo.A' lo.l' lo.c',.bool hu.s,.slice hu.A hu.l hu.c,.bool hu.s',.slice hu.A' hu.l' hu.c',.bool false] 44
        rw[←hW]
        clear hW
        obtain⟨v1,hb1⟩:∃b,b=wr.heap.size:=⟨_,rfl⟩
        rw[←hb1] at x1 ⊢
        have o0_1:w.heap.size<v1:=by have:=(zx HX0 Bz).lt;omega
        have ow_1:w.heap.size≤v1:=by have:=zw hB Bz;omega
        replace hB:=zAa (zAa hB Bz) hN
        replace hBW:=zAa (zAa hBW Bz) hN
        replace HX0:=zh ((zx HX0 Bz).below hN)
        have HX1:=zh x1
        clear x1 hN Bz hb1
        have Bz:=Below.refl V31.heap.size V31
        clear p50_0 p50_1 p50_2 p50_3 p50_4 p50_5 p50_6 p50_7 p50_8
        have p1_8:=(zx HX1 Bz).cell 8 (.bool false) rfl
        go_wp2_with fail
        go_roundg (vn-(i+1))
        case measure=>have:=HGK.out;omega
        case rel=>exact⟨i+1,by omega,rfl,by go_num,zAa (zAa hBW Bz) (by go_grown),take_all HD.out HTI.out (not_no HP.out)⟩
       ·cases hw:decide (y.q.den=1)
        ·have HW:=zh hw
         have HP:Hid (fracB (⟨lo,hu,true⟩,y)=true):=zh (by unfold fracB;simp only;rw[hw];rfl)
         have huv:u=3∧v=(i:Int):=by have h9:=hz.out;unfold brokenF at h9;rw[if_pos HLE.out] at h9;simp only[HF1.out,HF2.out,(find_at HD.out HTI.out HP.out:(V.zip X).findIdx? fracB=some i)] at h9;exact⟨(congrArg Prod.fst h9).symm,(congrArg Prod.snd h9).symm⟩
         obtain⟨rfl,rfl⟩:=huv
         clear hz hw
         have Bz:=Below.refl wr.heap.size wr
         obtain⟨p50_0,p50_1,p50_2,p50_3,p50_4,p50_5,p50_6,p50_7,p50_8,-⟩:=(hnd.below (zAa hB Bz)).ez
         go_upto_region 19 with(fail)
         obtain⟨V31,hW,x1,hN⟩:=zAc wr #[.bool lo.s,.slice lo.A lo.l lo.c,.bool lo.s',.slice lo.A' lo.l' lo.c',.bool hu.s,.slice hu.A hu.l hu.c,.bool hu.s',.slice hu.A' hu.l' hu.c',.bool true] 44
         rw[←hW]
         clear hW
         obtain⟨v1,hb1⟩:∃b,b=wr.heap.size:=⟨_,rfl⟩
         rw[←hb1] at x1 ⊢
         have o0_1:w.heap.size<v1:=by have:=(zx HX0 Bz).lt;omega
         have ow_1:w.heap.size≤v1:=by have:=zw hB Bz;omega
         replace hB:=zAa (zAa hB Bz) hN
         replace hBW:=zAa (zAa hBW Bz) hN
         replace HX0:=zh ((zx HX0 Bz).below hN)
         have HX1:=zh x1
         clear x1 hN Bz hb1
         have Bz:=Below.refl V31.heap.size V31
         clear p50_0 p50_1 p50_2 p50_3 p50_4 p50_5 p50_6 p50_7 p50_8
         have p1_8:=(zx HX1 Bz).cell 8 (.bool true) rfl
         obtain⟨p51_0,p51_1,p51_2,p51_3,-⟩:=(hnd'.below (zAa hB Bz)).ez
         go_wp2_with fail
         with_reducible refine(isWhole_q (FrOk.below HYF.out (zAa hB (zAa (b:=V31) Bz (by go_grown)))).r (by omega) false HW).mono ?_
         rintro e w31 ⟨rfl,b31⟩
         replace b31:=zAa (a:=V31) (by go_grown) b31
         replace Bz:=zAa Bz b31
         clear b31
         clear p1_8 p51_0 p51_1 p51_2 p51_3
         go_wp2_with fail
         go_ret2
         have hF:=zAa (c:=w31) hB Bz
         exact⟨rfl,zAa (zAa hB Bz) (by go_grown)⟩
        ·have HW:=zh hw
         have HP:Hid (fracB (⟨lo,hu,true⟩,y)=false):=zh (by unfold fracB;simp only;rw[hw];rfl)
         clear hw
         have Bz:=Below.refl wr.heap.size wr
         obtain⟨p50_0,p50_1,p50_2,p50_3,p50_4,p50_5,p50_6,p50_7,p50_8,-⟩:=(hnd.below (zAa hB Bz)).ez
         go_upto_region 19 with(fail)
         obtain⟨V31,hW,x1,hN⟩:=zAc wr #[.bool lo.s,.slice lo.A lo.l lo.c,.bool lo.s',.slice lo.A' lo.l' lo.c',.bool hu.s,.slice hu.A hu.l hu.c,.bool hu.s',.slice hu.A' hu.l' hu.c',.bool true] 44
         rw[←hW]
         clear hW
         obtain⟨v1,hb1⟩:∃b,b=wr.heap.size:=⟨_,rfl⟩
         rw[←hb1] at x1 ⊢
         have o0_1:w.heap.size<v1:=by have:=(zx HX0 Bz).lt;omega
         have ow_1:w.heap.size≤v1:=by have:=zw hB Bz;omega
         replace hB:=zAa (zAa hB Bz) hN
         replace hBW:=zAa (zAa hBW Bz) hN
         replace HX0:=zh ((zx HX0 Bz).below hN)
         have HX1:=zh x1
         clear x1 hN Bz hb1
         have Bz:=Below.refl V31.heap.size V31
         clear p50_0 p50_1 p50_2 p50_3 p50_4 p50_5 p50_6 p50_7 p50_8
         have p1_8:=(zx HX1 Bz).cell 8 (.bool true) rfl
         obtain⟨p51_0,p51_1,p51_2,p51_3,-⟩:=(hnd'.below (zAa hB Bz)).ez
         go_wp2_with fail
         with_reducible refine(isWhole_q (FrOk.below HYF.out (zAa hB (zAa (b:=V31) Bz (by go_grown)))).r (by omega) true HW).mono ?_
         rintro e w31 ⟨rfl,b31⟩
         replace b31:=zAa (a:=V31) (by go_grown) b31
         replace Bz:=zAa Bz b31
         clear b31
         clear p1_8 p51_0 p51_1 p51_2 p51_3
         go_wp2_with fail
         go_roundg (vn-(i+1))
         case measure=>have:=HGK.out;omega
         case rel=>exact⟨i+1,by omega,rfl,by go_num,zAa (zAa hBW Bz) (by go_grown),take_all HD.out HTI.out (not_no HP.out)⟩
      ·obtain rfl:i=vn:=by omega
       have i1:¬(i:Int)<(i:Int):=by omega
       have HF3:Hid ((V.zip X).findIdx? fracB=none):=zh (find_no (by have h9:=HD.out;rwa [List.take_of_length_le (by rw[HZL.out];exact Nat.le_refl _)] at h9))
       have huv:u=0∧v=0:=by have h9:=hz.out;unfold brokenF at h9;rw[if_pos HLE.out] at h9;simp only[HF1.out,HF2.out,HF3.out] at h9;exact⟨(congrArg Prod.fst h9).symm,(congrArg Prod.snd h9).symm⟩
       obtain⟨rfl,rfl⟩:=huv
       clear hz HD HGK
       have Bz:=Below.refl wr.heap.size wr
       go_wp2_with fail
       go_ret2
       have hF:=zAa (c:=wr) hB Bz
       exact⟨rfl,zAa (zAa hB Bz) (by go_grown)⟩
theorem broken_q {w:World} {m mx M KK:Nat} {xA:Option Addr} {xn xc:Nat} {p:Pg} {X:List Fr} (h:PgOk w m p) (hx:Sl Fr.cs 4 w xA xn xc X) (hxf:Hid (∀x∈X,FrOk w mx x)) (hm:m≤20000000000) (hmx:mx≤1000) (hxn:xn≤1000) (hM:mx+3≤M) (hM2:M≤15000000000) (hrow:Hid (∀x∈p.R,x.n≤1000∧1+x.n*(x.n*(m+2)+M+3)≤KK)) (hK2:KK≤15000000001) (u v:Int) (hz:Hid (brokenF p.V p.R X=(u,v))) (hT:Hid (Tab w)) :
  Calls Tryz.prog 28 #[.agg #[.slice p.vA p.vn p.vc,.slice p.rA p.rn p.rc,.slice p.cA p.cn p.cc],.slice xA xn xc] w fun e w'=>e=.returned (.tuple #[.int .i64 u,.int .i64 v])∧Below w.heap.size w w':=by
 obtain⟨vA,vn,vc,V,rA,rn,rc,R,cA,cn,cc,C⟩:=p
 exact broken_r h hx hxf hm hmx hxn hM hM2 hrow hK2 u v hz hT
end Go.Proofs.YtjkgjiofmgapfaaGreatDoor
