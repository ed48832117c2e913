/-
  ProgramSpans, the walk where all is right. Written by wip/gen/pr12.py.
-/
import Derived.Test.YtjkgjiofmgapfaaGreatDoorYPsD
set_option maxHeartbeats 32000000
set_option maxRecDepth 100000
namespace Go.Proofs.YtjkgjiofmgapfaaGreatDoor
open Go.RowKit Tw
theorem cmpQ_le {a b:Rat} (h:a≤b):cmpQ a b≤0:=by
 unfold cmpQ
 by_cases e:a<b
 ·rw[if_pos e];decide
 ·rw[if_neg e,if_pos (Rat.le_antisymm h (Rat.not_lt.1 e))];decide
theorem PgOk.mono {w:World} {m m':Nat} {p:Pg} (h:PgOk w m p) (hm:m≤m'):PgOk w m' p :=
 ⟨h.vsl,fun x hx=>⟨(h.v x hx).1.mono hm,(h.v x hx).2.mono hm⟩,h.rsl,fun x hx=>⟨(h.r x hx).sl,fun t ht=>((h.r x hx).fr t ht).mono hm,(h.r x hx).len,(h.r x hx).nil,(h.r x hx).b.mono hm⟩,h.csl,fun t ht=>(h.cf t ht).mono hm,h.lens,h.nil⟩
theorem lst_len (V:List Vr) (P:List (Int×Rat)) (n:Nat):(lstF V P n).length=n:=by unfold lstF;rw[List.length_map,List.length_range]
theorem mst_len (V:List Vr) (P:List (Int×Rat)) (n:Nat):(mstF V P n).length=n:=by unfold mstF;rw[List.length_map,List.length_range]
theorem lst_ok {w:World} {V:List Vr} {P:List (Int×Rat)} {n:Nat} (hv:∀x∈V,VrOk w 8 x):∀x∈lstF V P n,FrOk w 40 x:=fun x hx=>by
 obtain⟨j,_,rfl⟩:=List.mem_map.1 hx
 cases e:V[j]? with
 | none=>exact zFr_ok w (by omega)
 | some v =>
  have h:=hv v (List.mem_of_getElem? e)
  simp only
  split
  ·exact h.2.mono (by omega)
  ·exact h.1.mono (by omega)
theorem mst_ok {w:World} {V:List Vr} {P:List (Int×Rat)} {n:Nat} (hv:∀x∈V,VrOk w 8 x):∀x∈mstF V P n,FrOk w 40 x:=fun x hx=>by
 obtain⟨j,_,rfl⟩:=List.mem_map.1 hx
 cases e:V[j]? with
 | none=>exact zFr_ok w (by omega)
 | some v =>
  have h:=hv v (List.mem_of_getElem? e)
  simp only
  split
  ·exact h.1.mono (by omega)
  ·exact h.2.mono (by omega)
theorem AllRn.ok {w:World} {L:List Fr} (h:AllRn w 40 L):∀x∈L,FrOk w 40 x:=fun x hx=>by
 have h1:=h x hx
 have h2:=h1.1.fr (m:=40) (by omega)
 rwa [←h1.2.1] at h2
theorem spans_ok {w:World} {KB vn vc rn rc cn cc n c qn qc:Nat} {vA rA cA A qA:Option Addr} {V:List Vr} {RR:List Rw} {C:List Tm} {L:List Tm} {P:List (Int×Rat)} {QL:List Int} (h:PgIn w KB ⟨vA,vn,vc,V,rA,rn,rc,RR,cA,cn,cc,C⟩) (hKB:KB≤1048576) (ha:Sl Tm.cs 5 w A n c L) (haf:Hid (∀t∈L,FrOk w KB t.x)) (hn:n≤KB) (hnil:A=none→c=0) (hqs:Hid (Sl ics 1 w qA qn qc QL)) (hP:prs L=P) (HG:Hid (greatP ⟨vA,vn,vc,V,rA,rn,rc,RR,cA,cn,cc,C⟩=false)) (hr:rightP ⟨vA,vn,vc,V,rA,rn,rc,RR,cA,cn,cc,C⟩=true) (HA:Hid (rightB L (vn:Int)=true)) (hT:Hid (Tab w)) :
  Calls Tryz.prog 4 #[.agg #[.slice vA vn vc,.slice rA rn rc,.slice cA cn cc],.slice A n c,.slice qA qn qc] w (Yes w):=by
 have hK2:KB≤2000000:=by omega
 have hok:=h.ok hK2 HG.out
 have HOK:=zh hok.1
 have hvn:vn≤12:=hok.2.1
 have HR:Hid ((if rightP ⟨vA,vn,vc,V,rA,rn,rc,RR,cA,cn,cc,C⟩ then(0:Int) else 100)=0):=zh (by rw[hr];rfl)
 have hvsl:Sl Vr.cs 9 w vA vn vc V:=h.vsl
 have HVL:Hid (V.length=vn):=zh hvsl.1
 have HVO:Hid (∀x∈V,VrOk w 8 x):=zh hok.1.v
 have HBN:=zh (rightP_bnd hr)
 have hn12:n≤12:=by
  have h1:=right_len HA.out
  rw[ha.1] at h1
  omega
 have HGV:Hid (GV w A n c P (n*(KB+2))):=zh (by rw[←hP];exact gv_fr ha haf.out hnil (Nat.le_refl _))
 have hnk:n*(KB+2)≤12*1048578:=Nat.mul_le_mul hn12 (by omega)
 have HGM:Hid (n*(KB+2)≤15000000000):=zh (by omega)
 have HGS:Hid (n*(KB+2)+1≤800000000000):=zh (by omega)
 clear hok hnk
 obtain⟨W,hW,x0,hB⟩:=zAc w #[.slice vA vn vc,.slice rA rn rc,.slice cA cn cc] 27
 have HX0:=zh x0
 clear x0
 have Bz:=Below.refl W.heap.size W
 obtain⟨p0_0,p0_1,p0_2,-⟩:=(zx HX0 Bz).cz
 go_enter Tryz.func4,Tryz.ntmps4
 go_wp2_with fail
 rw[←hW]
 clear hW
 have hBW:=Below.refl W.heap.size W
 have hwW:=HX0.out.lt
 go_wp2_with fail
 with_reducible refine(great_p (p:=⟨vA,vn,vc,V,rA,rn,rc,RR,cA,cn,cc,C⟩) (h.below (zAa hB (zAa (b:=W) Bz (by go_grown)))) hK2 false HG).mono ?_
 rintro e w1 ⟨rfl,b1⟩
 replace b1:=zAa (a:=W) (by go_grown) b1
 replace Bz:=zAa Bz b1
 clear b1
 clear p0_0 p0_1 p0_2
 obtain⟨p0_0,p0_1,p0_2,-⟩:=(zx HX0 Bz).cz
 go_wp2_with fail
 with_reducible refine(pright_q (p:=⟨vA,vn,vc,V,rA,rn,rc,RR,cA,cn,cc,C⟩) (PgOk.below HOK.out (zAa hB (zAa (b:=w1) Bz (by go_grown)))) (by decide) 0 HR (zh (Tab.below hT.out (zAa hB (zAa (b:=w1) Bz (by go_grown)))))).mono ?_
 rintro e w2 ⟨rfl,b2⟩
 replace b2:=zAa (a:=w1) (by go_grown) b2
 replace Bz:=zAa Bz b2
 clear b2
 clear p0_0 p0_1 p0_2
 have p0_0:=(zx HX0 Bz).cell 0 (.slice vA vn vc) rfl
 go_wp2_with fail
 with_reducible refine(right_q (ha.below (zAa hB (zAa (b:=w2) Bz (by go_grown)))) (fun t ht=>(haf.out t ht).below (zAa hB (zAa (b:=w2) Bz (by go_grown)))) (by omega) (by omega) true HA (zh (Tab.below hT.out (zAa hB (zAa (b:=w2) Bz (by go_grown)))))).mono ?_
 rintro e w3 ⟨rfl,b3⟩
 replace b3:=zAa (a:=w2) (by go_grown) b3
 replace Bz:=zAa Bz b3
 clear b3
 clear p0_0
 have p0_0:=(zx HX0 Bz).cell 0 (.slice vA vn vc) rfl
 go_wp2_with fail
 have HST:Hid (SPS w W V P #[.slice vA vn vc,.slice rA rn rc,.slice cA cn cc] vn vn (.slice none 0 0) (.slice none 0 0) (.slice none 0 0) (.int .i64 ((0:Nat):Int)) w3):=zh ⟨0,none,none,none,0,0,0,[],Nat.zero_le _,rfl,rfl,rfl,rfl,rfl,HX0.out.below Bz,OwnR.nil _ _ _ _,OwnR.nil _ _ _ _,OwnR.nil _ _ _ _,Ap.nil _,Ap.nil _,Ap.nil _,(fun x hx=>by cases hx),(fun j y v h1 _=>by simp at h1),zAa hB Bz,zAa hBW Bz⟩
 clear hB hBW Bz HX0
 go_loopg [7,8,9,35] vn (fun gk s7 s8 s9 s35 wr=>SPS w W V P #[.slice vA vn vc,.slice rA rn rc,.slice cA cn cc] vn gk s7 s8 s9 s35 wr)
 case atStart=>exact HST.out
 case round =>
  clear HST
  obtain⟨i,H1,H2,H3,c1,c2,c3,X,hi,hgk,rfl,rfl,rfl,rfl,x0,hox,hoy,hoz,apXY,apXZ,apYZ,hxs,hbt,hB,hBW⟩:=hrel
  have HX0:=zh x0
  have HGK:=zh hgk
  have HBT:=zh hbt
  have HXL:=zh (hox.eltn elt_frs (by omega))
  clear x0 hgk hbt
  by_cases hlt:i<vn
  ·have apYX:=apXY.symm
   have apZX:=apXZ.symm
   have apZY:=apYZ.symm
   obtain⟨b,off,rfl,hel⟩:=hvsl.at Vr.cs_len (by omega) (by omega)
   obtain⟨x,hxi⟩:∃x,V[i]?=some x:=⟨V[i]'(by rw[HVL.out];exact hlt),List.getElem?_eq_getElem _⟩
   have HVF:=zh (HVO.out x (List.mem_of_getElem? hxi))
   have HVS:Hid (sz x.lo.q≤9∧sz x.hi.q≤9):=zh ⟨by have:=R.sz HVF.out.lof.r;omega,by have:=R.sz HVF.out.hif.r;omega⟩
   have HLE:Hid (x.lo.q≤x.hi.q):=zh (HBN.out x (List.mem_of_getElem? hxi))
   have HVI:=zh hxi
   have hnd:=hel i x hxi
   have i1:(i:Int)<(vn:Int):=by omega
   have i2:(0:Int)≤(i:Int):=by omega
   clear hel hxi
   obtain⟨sg,HSG⟩:∃sg,Hid ((pget P (i:Int)).num.sign=sg):=⟨_,zh rfl⟩
   by_cases hsg:sg<0
   ·have HNG:Hid ((pget P (i:Int)).num.sign<0):=zh (by rw[HSG.out];exact hsg)
    have Bz:=Below.refl wr.heap.size wr
    obtain⟨p50_0,p50_1,p50_2,p50_3,p50_4,p50_5,p50_6,p50_7,p50_8,-⟩:=(hnd.below (zAa hB Bz)).ez
    go_upto_region 7 with(fail)
    obtain⟨V11,hW,x1,hN⟩:=zAc wr #[.bool x.lo.s,.slice x.lo.A x.lo.l x.lo.c,.bool x.lo.s',.slice x.lo.A' x.lo.l' x.lo.c',.bool x.hi.s,.slice x.hi.A x.hi.l x.hi.c,.bool x.hi.s',.slice x.hi.A' x.hi.l' x.hi.c',.bool x.int] 44
    rw[←hW]
    clear hW
    obtain⟨v1,hb1⟩:∃b,b=wr.heap.size:=⟨_,rfl⟩
    rw[←hb1] at x1 ⊢
    have o0_1:w.heap.size<v1:=by have:=(zx HX0 Bz).lt;omega
    have ow_1:w.heap.size≤v1:=by have:=zw hB Bz;omega
    have nv1_ox:=OwnR.off' (b:=v1) hox (by omega)
    have nv1_oy:=OwnR.off' (b:=v1) hoy (by omega)
    have nv1_oz:=OwnR.off' (b:=v1) hoz (by omega)
    replace hox:=hox.below hN
    replace hoy:=hoy.below hN
    replace hoz:=hoz.below hN
    replace hxs:=hxs.below hN
    replace hB:=zAa (zAa hB Bz) hN
    replace hBW:=zAa (zAa hBW Bz) hN
    replace HX0:=zh ((zx HX0 Bz).below hN)
    have HX1:=zh x1
    clear x1 hN Bz hb1
    have Bz:=Below.refl V11.heap.size V11
    clear p50_0 p50_1 p50_2 p50_3 p50_4 p50_5 p50_6 p50_7 p50_8
    go_upto_if 43 with(fail)
    go_cut [12] (fun v wy=>∃z:Nat,z≤4∧v=.int .i64 (z:Int)∧wy=V11)
    case first =>
     by_cases hq1:i<qn
     ·have hq2:(i:Int)<(qn:Int):=by omega
      obtain⟨u,hu⟩:∃u,QL[i]?=some u:=⟨QL[i]'(by have:=hqs.out.1;omega),List.getElem?_eq_getElem _⟩
      obtain⟨qb,qo,hqe,hqel⟩:=hqs.out.at' ics_len (by omega) hq1
      have hqn:ElA w qb (qo+i) (ics u):=by have:=hqel i u hu;rwa [Nat.mul_one] at this
      have p60_0:=(hqn.below (zAa hB Bz)).c0 (u:=.int .i64 u) rfl
      obtain⟨z,hz4,m1,m2,m3,m4,m5⟩:=rem5 u
      subst hqe
      go_wp2_with fail
      go_meet
      case rel=>exact⟨z,hz4,rfl,rfl⟩
     ·have hq2:¬(i:Int)<(qn:Int):=by omega
      go_wp2_with fail
      go_meet
      case rel=>exact⟨0,by omega,rfl,rfl⟩
    case rest =>
    obtain⟨z,hz4,rfl,hwy⟩:=hcut
    obtain rfl:V11=_:=hwy.symm
    obtain⟨p1_0,p1_1,p1_2,p1_3,p1_4,p1_5,p1_6,p1_7,-⟩:=(zx HX1 Bz).cz
    go_wp2_with fail
    (try simp only[List.append_eq,List.cons_append,List.nil_append])
    refine wp_region_plan (.pure 0 (.pure 1 (.take 2 (.pure 3 (.pure 5 (.take 6 (.pure 7 (.take 8 (.only 4 (.only 9 (.only 10 (.only 11 (.only 12 (.only 13 (.pure 14 .done))))))))))))))) [13] (fun w'=>w'.cell? ⟨v1,0,none⟩=some (.bool x.lo.s)∧w'.cell? ⟨v1,1,none⟩=some (.slice x.lo.A x.lo.l x.lo.c)∧w'.cell? ⟨v1,2,none⟩=some (.bool x.lo.s')∧w'.cell? ⟨v1,3,none⟩=some (.slice x.lo.A' x.lo.l' x.lo.c')∧w'.cell? ⟨v1,4,none⟩=some (.bool x.hi.s)∧w'.cell? ⟨v1,5,none⟩=some (.slice x.hi.A x.hi.l x.hi.c)∧w'.cell? ⟨v1,6,none⟩=some (.bool x.hi.s')∧w'.cell? ⟨v1,7,none⟩=some (.slice x.hi.A' x.hi.l' x.hi.c')) (by kernel_rfl) (by kernel_rfl) ⟨p1_0,p1_1,p1_2,p1_3,p1_4,p1_5,p1_6,p1_7⟩ ?_
    iterate 2 (refine zP rfl rfl (fun w'=>by go_simp<;>with_reducible rfl) ?_;try simp only[uW,uX,uY,uZ])
    refine zT rfl rfl (fun w' ⟨p1_0,p1_1,p1_2,p1_3,p1_4,p1_5,p1_6,p1_7⟩=>by go_simp<;>with_reducible rfl) ?_
    try simp only[uW,uX,uY,uZ]
    iterate 2 (refine zP rfl rfl (fun w'=>by go_simp<;>with_reducible rfl) ?_;try simp only[uW,uX,uY,uZ])
    refine zT rfl rfl (fun w' ⟨p1_0,p1_1,p1_2,p1_3,p1_4,p1_5,p1_6,p1_7⟩=>by go_simp<;>with_reducible rfl) ?_
    try simp only[uW,uX,uY,uZ]
    refine zP rfl rfl (fun w'=>by go_simp<;>with_reducible rfl) ?_
    try simp only[uW,uX,uY,uZ]
    refine zT rfl rfl (fun w' ⟨p1_0,p1_1,p1_2,p1_3,p1_4,p1_5,p1_6,p1_7⟩=>by go_simp<;>with_reducible rfl) ?_
    try simp only[uW,uX,uY,uZ]
    refine zC 55 rfl rfl (fun K hK=>?_)
    go_simp
    with_reducible refine(of_q (z:Int) 4 (zh (by omega)) (zh (by omega)) (zh (Tab.below hT.out (zAa hB (zAa (b:=V11) Bz (by go_grown)))))).mono ?_
    rintro e w11 ⟨s11,A11,c11,l11,s11r,A11r,c11r,l11r,rfl,h11,b11⟩
    replace b11:=zAa (a:=V11) (by go_grown) b11
    replace hox:=hox.below b11
    replace hoy:=hoy.below b11
    replace hoz:=hoz.below b11
    replace hxs:=hxs.below b11
    replace Bz:=zAa Bz b11
    clear b11
    have hs1:=sz_of4 hz4
    clear p1_0 p1_1 p1_2 p1_3 p1_4 p1_5 p1_6 p1_7
    obtain⟨p1_0,p1_1,p1_2,p1_3,p1_4,p1_5,p1_6,p1_7,-⟩:=(zx HX1 Bz).cz
    refine hK.out _ _ ⟨p1_0,p1_1,p1_2,p1_3,p1_4,p1_5,p1_6,p1_7⟩ (fun _=>?_)
    try simp only[uW,uX,uY,uZ]
    clear hK K
    refine zC 60 rfl rfl (fun K hK=>?_)
    go_simp
    with_reducible refine(sub_q (FrOk.below HVF.out.hif (zAa hB (zAa (b:=w11) Bz (by go_grown)))).r (FrOk.below HVF.out.lof (zAa hB (zAa (b:=w11) Bz (by go_grown)))).r (by omega) (zh (Tab.below hT.out (zAa hB (zAa (b:=w11) Bz (by go_grown)))))).mono ?_
    rintro e w12 ⟨s12,A12,c12,l12,s12r,A12r,c12r,l12r,rfl,h12,b12⟩
    replace b12:=zAa (a:=w11) (by go_grown) b12
    replace h11:=h11.below b12
    replace hox:=hox.below b12
    replace hoy:=hoy.below b12
    replace hoz:=hoz.below b12
    replace hxs:=hxs.below b12
    replace Bz:=zAa Bz b12
    clear b12
    have hs2:=sz_sub HVS.out.2 HVS.out.1
    clear p1_0 p1_1 p1_2 p1_3 p1_4 p1_5 p1_6 p1_7
    obtain⟨p1_0,p1_1,p1_2,p1_3,p1_4,p1_5,p1_6,p1_7,-⟩:=(zx HX1 Bz).cz
    refine hK.out _ _ ⟨p1_0,p1_1,p1_2,p1_3,p1_4,p1_5,p1_6,p1_7⟩ (fun _=>?_)
    try simp only[uW,uX,uY,uZ]
    clear hK K
    refine zC 61 rfl rfl (fun K hK=>?_)
    go_simp
    with_reducible refine(mul_q (RN.r' (RN.below h11 (by go_grown)) hs1) (RN.r' (RN.below h12 (by go_grown)) hs2) (by omega) (zh (Tab.below hT.out (zAa hB (zAa (b:=w12) Bz (by go_grown)))))).mono ?_
    rintro e w13 ⟨s13,A13,c13,l13,s13r,A13r,c13r,l13r,rfl,h13,b13⟩
    replace b13:=zAa (a:=w12) (by go_grown) b13
    replace hox:=hox.below b13
    replace hoy:=hoy.below b13
    replace hoz:=hoz.below b13
    replace hxs:=hxs.below b13
    replace Bz:=zAa Bz b13
    clear b13
    have hs3:=sz_mul hs1 hs2
    clear p1_0 p1_1 p1_2 p1_3 p1_4 p1_5 p1_6 p1_7
    obtain⟨p1_0,p1_1,p1_2,p1_3,p1_4,p1_5,p1_6,p1_7,-⟩:=(zx HX1 Bz).cz
    refine hK.out _ _ ⟨p1_0,p1_1,p1_2,p1_3,p1_4,p1_5,p1_6,p1_7⟩ (fun _=>?_)
    try simp only[uW,uX,uY,uZ]
    clear hK K
    refine zC 62 rfl rfl (fun K hK=>?_)
    go_simp
    with_reducible refine(add_q (FrOk.below HVF.out.lof (zAa hB (zAa (b:=w13) Bz (by go_grown)))).r (RN.r' (RN.below h13 (by go_grown)) hs3) (by omega) (zh (Tab.below hT.out (zAa hB (zAa (b:=w13) Bz (by go_grown)))))).mono ?_
    rintro e w14 ⟨s14,A14,c14,l14,s14r,A14r,c14r,l14r,rfl,h14,b14⟩
    replace b14:=zAa (a:=w13) (by go_grown) b14
    replace hox:=hox.below b14
    replace hoy:=hoy.below b14
    replace hoz:=hoz.below b14
    replace hxs:=hxs.below b14
    replace Bz:=zAa Bz b14
    clear b14
    have hs4:=sz_add HVS.out.1 hs3
    clear p1_0 p1_1 p1_2 p1_3 p1_4 p1_5 p1_6 p1_7
    obtain⟨p1_0,p1_1,p1_2,p1_3,p1_4,p1_5,p1_6,p1_7,-⟩:=(zx HX1 Bz).cz
    refine hK.out _ _ ⟨p1_0,p1_1,p1_2,p1_3,p1_4,p1_5,p1_6,p1_7⟩ (fun _=>?_)
    try simp only[uW,uX,uY,uZ]
    clear hK K
    refine zC 63 rfl rfl (fun K hK=>?_)
    go_simp
    refine hK.out _ _ ⟨(zAb p1_0),(zAb p1_1),(zAb p1_2),(zAb p1_3),(zAb p1_4),(zAb p1_5),(zAb p1_6),(zAb p1_7)⟩ (fun _=>?_)
    try simp only[uW,uX,uY,uZ]
    clear hK K
    refine wpPlan_late (o:=⟨some 64,_,_,_,_,_⟩) rfl rfl (by decide) (fun K hK=>?_)
    obtain⟨V12,hW,x2,hN⟩:=zAc w14 #[.bool s14,.slice A14 l14 c14,.bool s14r,.slice A14r l14r c14r] 33
    rw[←hW]
    clear hW
    obtain⟨v2,hb2⟩:∃b,b=w14.heap.size:=⟨_,rfl⟩
    rw[←hb2] at x2 ⊢
    have o0_2:w.heap.size<v2:=by have:=(zx HX0 Bz).lt;omega
    have o1_2:v1<v2:=by have:=(zx HX1 Bz).lt;omega
    have ow_2:w.heap.size≤v2:=by have:=zw hB Bz;omega
    have nv2_ox:=OwnR.off' (b:=v2) hox (by omega)
    have nv2_oy:=OwnR.off' (b:=v2) hoy (by omega)
    have nv2_oz:=OwnR.off' (b:=v2) hoz (by omega)
    replace h14:=h14.below hN
    replace hox:=hox.below hN
    replace hoy:=hoy.below hN
    replace hoz:=hoz.below hN
    replace hxs:=hxs.below hN
    replace hB:=zAa (zAa hB Bz) hN
    replace hBW:=zAa (zAa hBW Bz) hN
    replace HX0:=zh ((zx HX0 Bz).below hN)
    replace HX1:=zh ((zx HX1 Bz).below hN)
    have HX2:=zh x2
    clear x2 hN Bz hb2
    have Bz:=Below.refl V12.heap.size V12
    clear p1_0 p1_1 p1_2 p1_3 p1_4 p1_5 p1_6 p1_7
    have hdr:V12.drew.heap.size=V12.heap.size:=rfl
    have hdr2:V12.drew.drew.heap.size=V12.heap.size:=rfl
    refine Elt.wp elt_frs (.tmp 51) (.tmp 63) rfl (W.heap.size) (.slice H1 i c1) (i) (X) rfl hox (.slice (some ⟨v2,0,none⟩) 1 1) (1) ([⟨s14,A14,c14,l14,s14r,A14r,c14r,l14r,x.lo.q+qof (z:Int) 4*(x.hi.q-x.lo.q),true⟩]) rfl (From.one (HX2.out.below (zAa Bz (by go_grown))) (⟨s14,A14,c14,l14,s14r,A14r,c14r,l14r,x.lo.q+qof (z:Int) 4*(x.hi.q-x.lo.q),true⟩) rfl (elt_frs.len _)) (by omega) (by have:=hBW.size;have:=Bz.size;omega) ?_
    intro H15 c15 w15 ho15 hg15
    refine hK.out _ _ ?_
    try simp only[uW,uX,uY,uZ]
    clear hK K
    replace hB:=(zAa (zAa hB Bz) (by go_grown)).trans (hg15.below (by have:=zw hB Bz;omega) (fun g hg=>by have:=hox.base g hg;omega))
    replace hBW:=(zAa (zAa hBW Bz) (by go_grown)).trans (hg15.below (by have:=hBW.size;have:=Bz.size;omega) (fun g hg=>by have:=hox.base g hg;omega))
    replace HX0:=zh (hg15.bx (HX0.out.below (zAa Bz (by go_grown))) (hox.off (by omega)))
    have nv1_own15:=hg15.ne (HX1.out.below (zAa Bz (by go_grown))).lt nv1_ox
    replace HX1:=zh (hg15.bx (HX1.out.below (zAa Bz (by go_grown))) nv1_ox)
    have nv2_own15:=hg15.ne (HX2.out.below (zAa Bz (by go_grown))).lt nv2_ox
    replace HX2:=zh (hg15.bx (HX2.out.below (zAa Bz (by go_grown))) nv2_ox)
    have apYX':=hg15.ap hoy apYX
    have apXY':=apYX'.symm
    replace hoy:=(OwnR.below hoy (by go_grown)).grown hg15 apYX
    clear apYX apXY
    have apYX:=apYX'
    have apXY:=apXY'
    clear apYX' apXY'
    have apZX':=hg15.ap hoz apZX
    have apXZ':=apZX'.symm
    replace hoz:=(OwnR.below hoz (by go_grown)).grown hg15 apZX
    clear apZX apXZ
    have apZX:=apZX'
    have apXZ:=apXZ'
    clear apZX' apXZ'
    clear hdr hdr2
    replace h14:=h14.k hg15.k
    replace hxs:=hxs.k hg15.k
    clear hg15 Bz
    have Bz:=Below.refl w15.heap.size w15
    obtain⟨p1_0,p1_1,p1_2,p1_3,p1_4,p1_5,p1_6,p1_7,-⟩:=(zx HX1 Bz).cz
    refine zP rfl rfl (fun w'=>by go_simp<;>with_reducible rfl) ?_
    try simp only[uW,uX,uY,uZ]
    refine wpPlan_done ?_
    go_wp2_with fail
    with_reducible refine(getW (n*(KB+2)) n (n*(KB+2)+1) (i:Int) (HGV.out.below (zAa hB (zAa (b:=w15) Bz (by go_grown)))) (Nat.le_refl _) (by omega) (Nat.le_trans HGM.out (by decide)) (Nat.le_refl _) (zh (Tab.below hT.out (zAa hB (zAa (b:=w15) Bz (by go_grown)))))).mono ?_
    rintro e w16 ⟨s16,A16,c16,l16,s16r,A16r,c16r,l16r,rfl,h16,z16,b16⟩
    replace b16:=zAa (a:=w15) (by go_grown) b16
    replace h14:=h14.below b16
    replace ho15:=ho15.below b16
    replace hoy:=hoy.below b16
    replace hoz:=hoz.below b16
    replace hxs:=hxs.below b16
    replace Bz:=zAa Bz b16
    clear b16
    clear p1_0 p1_1 p1_2 p1_3 p1_4 p1_5 p1_6 p1_7
    go_wp2_with fail
    with_reducible refine(sign_q (RN.r' (RN.below h16 (by go_grown)) z16) HGS.out sg HSG).mono ?_
    rintro e w17 ⟨rfl,b17⟩
    replace b17:=zAa (a:=w16) (by go_grown) b17
    replace h14:=h14.below b17
    replace ho15:=ho15.below b17
    replace hoy:=hoy.below b17
    replace hoz:=hoz.below b17
    replace hxs:=hxs.below b17
    replace Bz:=zAa Bz b17
    clear b17
    obtain⟨p1_0,p1_1,p1_2,p1_3,p1_4,p1_5,p1_6,p1_7,-⟩:=(zx HX1 Bz).cz
    go_wp2_with fail
    (try simp only[List.append_eq,List.cons_append,List.nil_append])
    refine wp_region_plan (.pure 0 (.pure 1 (.take 2 (.pure 5 (.pure 6 (.take 7 (.two 3 (.two 4 (.only 8 (.only 9 (.pure 10 (.pure 11 .done)))) 8 (.only 4 (.only 9 (.pure 10 (.pure 11 .done))))) 8 (.only 3 (.only 4 (.only 9 (.pure 10 (.pure 11 .done)))))))))))) [9] (fun w'=>w'.cell? ⟨v1,0,none⟩=some (.bool x.lo.s)∧w'.cell? ⟨v1,1,none⟩=some (.slice x.lo.A x.lo.l x.lo.c)∧w'.cell? ⟨v1,2,none⟩=some (.bool x.lo.s')∧w'.cell? ⟨v1,3,none⟩=some (.slice x.lo.A' x.lo.l' x.lo.c')∧w'.cell? ⟨v1,4,none⟩=some (.bool x.hi.s)∧w'.cell? ⟨v1,5,none⟩=some (.slice x.hi.A x.hi.l x.hi.c)∧w'.cell? ⟨v1,6,none⟩=some (.bool x.hi.s')∧w'.cell? ⟨v1,7,none⟩=some (.slice x.hi.A' x.hi.l' x.hi.c')) (by kernel_rfl) (by kernel_rfl) ⟨p1_0,p1_1,p1_2,p1_3,p1_4,p1_5,p1_6,p1_7⟩ ?_
    iterate 2 (refine zP rfl rfl (fun w'=>by go_simp<;>with_reducible rfl) ?_;try simp only[uW,uX,uY,uZ])
    refine zT rfl rfl (fun w' ⟨p1_0,p1_1,p1_2,p1_3,p1_4,p1_5,p1_6,p1_7⟩=>by go_simp<;>with_reducible rfl) ?_
    try simp only[uW,uX,uY,uZ]
    iterate 2 (refine zP rfl rfl (fun w'=>by go_simp<;>with_reducible rfl) ?_;try simp only[uW,uX,uY,uZ])
    refine zT rfl rfl (fun w' ⟨p1_0,p1_1,p1_2,p1_3,p1_4,p1_5,p1_6,p1_7⟩=>by go_simp<;>with_reducible rfl) ?_
    try simp only[uW,uX,uY,uZ]
    refine wpPlan_two (o:=⟨some 73,_,_,_,_,_⟩) (o':=⟨some 78,_,_,_,_,_⟩) rfl rfl rfl rfl (fun K hK=>?_) (fun K hK=>?_)
    ·go_simp
     refine hK.out _ _ ⟨(zAb p1_0),(zAb p1_1),(zAb p1_2),(zAb p1_3),(zAb p1_4),(zAb p1_5),(zAb p1_6),(zAb p1_7)⟩ (fun _=>?_)
     try simp only[uW,uX,uY,uZ]
     clear hK K
     refine wpPlan_two (o:=⟨some 74,_,_,_,_,_⟩) (o':=⟨some 78,_,_,_,_,_⟩) rfl rfl rfl rfl (fun K hK=>?_) (fun K hK=>?_)
     ·obtain⟨V13,hW,x3,hN⟩:=zAc w17 #[.bool x.hi.s,.slice x.hi.A x.hi.l x.hi.c,.bool x.hi.s',.slice x.hi.A' x.hi.l' x.hi.c'] 33
      rw[←hW]
      clear hW
      obtain⟨v3,hb3⟩:∃b,b=w17.heap.size:=⟨_,rfl⟩
      rw[←hb3] at x3 ⊢
      have o0_3:w.heap.size<v3:=by have:=(zx HX0 Bz).lt;omega
      have o1_3:v1<v3:=by have:=(zx HX1 Bz).lt;omega
      have o2_3:v2<v3:=by have:=(zx HX2 Bz).lt;omega
      have ow_3:w.heap.size≤v3:=by have:=zw hB Bz;omega
      have nv3_oy:=OwnR.off' (b:=v3) hoy (by omega)
      have nv3_oz:=OwnR.off' (b:=v3) hoz (by omega)
      have nv3_own15:=OwnR.off' (b:=v3) ho15 (by omega)
      replace h14:=h14.below hN
      replace ho15:=ho15.below hN
      replace hoy:=hoy.below hN
      replace hoz:=hoz.below hN
      replace hxs:=hxs.below hN
      replace hB:=zAa (zAa hB Bz) hN
      replace hBW:=zAa (zAa hBW Bz) hN
      replace HX0:=zh ((zx HX0 Bz).below hN)
      replace HX1:=zh ((zx HX1 Bz).below hN)
      replace HX2:=zh ((zx HX2 Bz).below hN)
      have HX3:=zh x3
      clear x3 hN Bz hb3
      have Bz:=Below.refl V13.heap.size V13
      clear p1_0 p1_1 p1_2 p1_3 p1_4 p1_5 p1_6 p1_7
      have hdr:V13.drew.heap.size=V13.heap.size:=rfl
      have hdr2:V13.drew.drew.heap.size=V13.heap.size:=rfl
      refine Elt.wp elt_frs (.tmp 70) (.tmp 73) rfl (W.heap.size) (.slice H2 i c2) (i) (lstF V P i) rfl hoy (.slice (some ⟨v3,0,none⟩) 1 1) (1) ([x.hi]) rfl (From.one (HX3.out.below (zAa Bz (by go_grown))) (x.hi) rfl (elt_frs.len _)) (by omega) (by have:=hBW.size;have:=Bz.size;omega) ?_
      intro H18 c18 w18 ho18 hg18
      replace hB:=(zAa (zAa hB Bz) (by go_grown)).trans (hg18.below (by have:=zw hB Bz;omega) (fun g hg=>by have:=hoy.base g hg;omega))
      replace hBW:=(zAa (zAa hBW Bz) (by go_grown)).trans (hg18.below (by have:=hBW.size;have:=Bz.size;omega) (fun g hg=>by have:=hoy.base g hg;omega))
      replace HX0:=zh (hg18.bx (HX0.out.below (zAa Bz (by go_grown))) (hoy.off (by omega)))
      have nv1_own18:=hg18.ne (HX1.out.below (zAa Bz (by go_grown))).lt nv1_oy
      replace HX1:=zh (hg18.bx (HX1.out.below (zAa Bz (by go_grown))) nv1_oy)
      have nv2_own18:=hg18.ne (HX2.out.below (zAa Bz (by go_grown))).lt nv2_oy
      replace HX2:=zh (hg18.bx (HX2.out.below (zAa Bz (by go_grown))) nv2_oy)
      have nv3_own18:=hg18.ne (HX3.out.below (zAa Bz (by go_grown))).lt nv3_oy
      replace HX3:=zh (hg18.bx (HX3.out.below (zAa Bz (by go_grown))) nv3_oy)
      have apZY':=hg18.ap hoz apZY
      have apYZ':=apZY'.symm
      replace hoz:=(OwnR.below hoz (by go_grown)).grown hg18 apZY
      clear apZY apYZ
      have apZY:=apZY'
      have apYZ:=apYZ'
      clear apZY' apYZ'
      have apXY':=hg18.ap ho15 apXY
      have apYX':=apXY'.symm
      replace ho15:=(OwnR.below ho15 (by go_grown)).grown hg18 apXY
      clear apXY apYX
      have apXY:=apXY'
      have apYX:=apYX'
      clear apXY' apYX'
      clear hdr hdr2
      replace h14:=h14.k hg18.k
      replace hxs:=hxs.k hg18.k
      clear hg18 Bz
      have Bz:=Below.refl w18.heap.size w18
      obtain⟨p1_0,p1_1,p1_2,p1_3,p1_4,p1_5,p1_6,p1_7,-⟩:=(zx HX1 Bz).cz
      refine hK.out _ _ ⟨p1_0,p1_1,p1_2,p1_3,p1_4,p1_5,p1_6,p1_7⟩ (fun _=>?_)
      try simp only[uW,uX,uY,uZ]
      clear hK K
      refine zC 78 rfl rfl (fun K hK=>?_)
      go_simp
      refine hK.out _ _ ⟨(zAb p1_0),(zAb p1_1),(zAb p1_2),(zAb p1_3),(zAb p1_4),(zAb p1_5),(zAb p1_6),(zAb p1_7)⟩ (fun _=>?_)
      try simp only[uW,uX,uY,uZ]
      clear hK K
      refine wpPlan_late (o:=⟨some 79,_,_,_,_,_⟩) rfl rfl (by decide) (fun K hK=>?_)
      obtain⟨V14,hW,x4,hN⟩:=zAc w18 #[.bool x.lo.s,.slice x.lo.A x.lo.l x.lo.c,.bool x.lo.s',.slice x.lo.A' x.lo.l' x.lo.c'] 33
      rw[←hW]
      clear hW
      obtain⟨v4,hb4⟩:∃b,b=w18.heap.size:=⟨_,rfl⟩
      rw[←hb4] at x4 ⊢
      have o0_4:w.heap.size<v4:=by have:=(zx HX0 Bz).lt;omega
      have o1_4:v1<v4:=by have:=(zx HX1 Bz).lt;omega
      have o2_4:v2<v4:=by have:=(zx HX2 Bz).lt;omega
      have o3_4:v3<v4:=by have:=(zx HX3 Bz).lt;omega
      have ow_4:w.heap.size≤v4:=by have:=zw hB Bz;omega
      have nv4_oz:=OwnR.off' (b:=v4) hoz (by omega)
      have nv4_own15:=OwnR.off' (b:=v4) ho15 (by omega)
      have nv4_own18:=OwnR.off' (b:=v4) ho18 (by omega)
      replace h14:=h14.below hN
      replace ho15:=ho15.below hN
      replace ho18:=ho18.below hN
      replace hoz:=hoz.below hN
      replace hxs:=hxs.below hN
      replace hB:=zAa (zAa hB Bz) hN
      replace hBW:=zAa (zAa hBW Bz) hN
      replace HX0:=zh ((zx HX0 Bz).below hN)
      replace HX1:=zh ((zx HX1 Bz).below hN)
      replace HX2:=zh ((zx HX2 Bz).below hN)
      replace HX3:=zh ((zx HX3 Bz).below hN)
      have HX4:=zh x4
      clear x4 hN Bz hb4
      have Bz:=Below.refl V14.heap.size V14
      clear p1_0 p1_1 p1_2 p1_3 p1_4 p1_5 p1_6 p1_7
      have hdr:V14.drew.heap.size=V14.heap.size:=rfl
      have hdr2:V14.drew.drew.heap.size=V14.heap.size:=rfl
      refine Elt.wp elt_frs (.tmp 75) (.tmp 78) rfl (W.heap.size) (.slice H3 i c3) (i) (mstF V P i) rfl hoz (.slice (some ⟨v4,0,none⟩) 1 1) (1) ([x.lo]) rfl (From.one (HX4.out.below (zAa Bz (by go_grown))) (x.lo) rfl (elt_frs.len _)) (by omega) (by have:=hBW.size;have:=Bz.size;omega) ?_
      intro H19 c19 w19 ho19 hg19
      refine hK.out _ _ ?_
      try simp only[uW,uX,uY,uZ]
      clear hK K
      replace hB:=(zAa (zAa hB Bz) (by go_grown)).trans (hg19.below (by have:=zw hB Bz;omega) (fun g hg=>by have:=hoz.base g hg;omega))
      replace hBW:=(zAa (zAa hBW Bz) (by go_grown)).trans (hg19.below (by have:=hBW.size;have:=Bz.size;omega) (fun g hg=>by have:=hoz.base g hg;omega))
      replace HX0:=zh (hg19.bx (HX0.out.below (zAa Bz (by go_grown))) (hoz.off (by omega)))
      have nv1_own19:=hg19.ne (HX1.out.below (zAa Bz (by go_grown))).lt nv1_oz
      replace HX1:=zh (hg19.bx (HX1.out.below (zAa Bz (by go_grown))) nv1_oz)
      have nv2_own19:=hg19.ne (HX2.out.below (zAa Bz (by go_grown))).lt nv2_oz
      replace HX2:=zh (hg19.bx (HX2.out.below (zAa Bz (by go_grown))) nv2_oz)
      have nv3_own19:=hg19.ne (HX3.out.below (zAa Bz (by go_grown))).lt nv3_oz
      replace HX3:=zh (hg19.bx (HX3.out.below (zAa Bz (by go_grown))) nv3_oz)
      have nv4_own19:=hg19.ne (HX4.out.below (zAa Bz (by go_grown))).lt nv4_oz
      replace HX4:=zh (hg19.bx (HX4.out.below (zAa Bz (by go_grown))) nv4_oz)
      have apXZ':=hg19.ap ho15 apXZ
      have apZX':=apXZ'.symm
      replace ho15:=(OwnR.below ho15 (by go_grown)).grown hg19 apXZ
      clear apXZ apZX
      have apXZ:=apXZ'
      have apZX:=apZX'
      clear apXZ' apZX'
      have apYZ':=hg19.ap ho18 apYZ
      have apZY':=apYZ'.symm
      replace ho18:=(OwnR.below ho18 (by go_grown)).grown hg19 apYZ
      clear apYZ apZY
      have apYZ:=apYZ'
      have apZY:=apZY'
      clear apYZ' apZY'
      clear hdr hdr2
      replace h14:=h14.k hg19.k
      replace hxs:=hxs.k hg19.k
      clear hg19 Bz
      have Bz:=Below.refl w19.heap.size w19
      obtain⟨p1_0,p1_1,p1_2,p1_3,p1_4,p1_5,p1_6,p1_7,-⟩:=(zx HX1 Bz).cz
      iterate 2 (refine zP rfl rfl (fun w'=>by go_simp<;>with_reducible rfl) ?_;try simp only[uW,uX,uY,uZ])
      refine wpPlan_done ?_
      go_wp2_with fail
      go_roundg (vn-(i+1))
      case measure=>have:=HGK.out;omega
      case rel=>exact⟨i+1,H15,H18,H19,c15,c18,c19,X++[⟨s14,A14,c14,l14,s14r,A14r,c14r,l14r,x.lo.q+qof (z:Int) 4*(x.hi.q-x.lo.q),true⟩],by omega,rfl,by rfl,by rfl,by rfl,by go_num,HX0.out.below (zAa Bz (by go_grown)),OwnR.below ho15 (by go_grown),by rw[lstF_neg HVI.out HNG.out];exact OwnR.below ho18 (by go_grown),by rw[mstF_neg HVI.out HNG.out];exact OwnR.below ho19 (by go_grown),apXY,apXZ,apYZ,AllRn.snoc (AllRn.below hxs (by go_grown)) (AllRn.put h14 (by omega)),Btw.snoc HBT.out HXL.out HVI.out (btw_q hz4 HLE.out),zAa (zAa hB Bz) (by go_grown),zAa (zAa hBW Bz) (by go_grown)⟩
     ·go_simp
      refine hK.out _ _ ⟨(zAb (zAb p1_0)),(zAb (zAb p1_1)),(zAb (zAb p1_2)),(zAb (zAb p1_3)),(zAb (zAb p1_4)),(zAb (zAb p1_5)),(zAb (zAb p1_6)),(zAb (zAb p1_7))⟩ (fun _=>?_)
      try simp only[uW,uX,uY,uZ]
      clear hK K
      refine zC 74 rfl rfl (fun K hK=>?_)
      obtain⟨V13,hW,x3,x4,hN⟩:=boxes2 w17 #[.bool x.hi.s,.slice x.hi.A x.hi.l x.hi.c,.bool x.hi.s',.slice x.hi.A' x.hi.l' x.hi.c'] 33 #[.bool x.lo.s,.slice x.lo.A x.lo.l x.lo.c,.bool x.lo.s',.slice x.lo.A' x.lo.l' x.lo.c'] 33
      rw[←hW]
      clear hW
      obtain⟨v4,hb4⟩:∃b,b=w17.heap.size+1:=⟨_,rfl⟩
      rw[←hb4] at x4 ⊢
      obtain⟨v3,hb3⟩:∃b,b=w17.heap.size:=⟨_,rfl⟩
      rw[←hb3] at x3 ⊢
      have o0_3:w.heap.size<v3:=by have:=(zx HX0 Bz).lt;omega
      have o1_3:v1<v3:=by have:=(zx HX1 Bz).lt;omega
      have o2_3:v2<v3:=by have:=(zx HX2 Bz).lt;omega
      have ow_3:w.heap.size≤v3:=by have:=zw hB Bz;omega
      have nv3_oy:=OwnR.off' (b:=v3) hoy (by omega)
      have nv3_oz:=OwnR.off' (b:=v3) hoz (by omega)
      have nv3_own15:=OwnR.off' (b:=v3) ho15 (by omega)
      have o0_4:w.heap.size<v4:=by have:=(zx HX0 Bz).lt;omega
      have o1_4:v1<v4:=by have:=(zx HX1 Bz).lt;omega
      have o2_4:v2<v4:=by have:=(zx HX2 Bz).lt;omega
      have o3_4:v3<v4:=by omega
      have ow_4:w.heap.size≤v4:=by have:=zw hB Bz;omega
      have nv4_oy:=OwnR.off' (b:=v4) hoy (by omega)
      have nv4_oz:=OwnR.off' (b:=v4) hoz (by omega)
      have nv4_own15:=OwnR.off' (b:=v4) ho15 (by omega)
      replace h14:=h14.below hN
      replace ho15:=ho15.below hN
      replace hoy:=hoy.below hN
      replace hoz:=hoz.below hN
      replace hxs:=hxs.below hN
      replace hB:=zAa (zAa hB Bz) hN
      replace hBW:=zAa (zAa hBW Bz) hN
      replace HX0:=zh ((zx HX0 Bz).below hN)
      replace HX1:=zh ((zx HX1 Bz).below hN)
      replace HX2:=zh ((zx HX2 Bz).below hN)
      have HX3:=zh x3
      have HX4:=zh x4
      clear x3 x4 hN Bz hb3 hb4
      have Bz:=Below.refl V13.heap.size V13
      clear p1_0 p1_1 p1_2 p1_3 p1_4 p1_5 p1_6 p1_7
      have hdr:V13.drew.heap.size=V13.heap.size:=rfl
      have hdr2:V13.drew.drew.heap.size=V13.heap.size:=rfl
      refine Elt.wp elt_frs (.tmp 70) (.tmp 73) rfl (W.heap.size) (.slice H2 i c2) (i) (lstF V P i) rfl hoy (.slice (some ⟨v3,0,none⟩) 1 1) (1) ([x.hi]) rfl (From.one (HX3.out.below (zAa Bz (by go_grown))) (x.hi) rfl (elt_frs.len _)) (by omega) (by have:=hBW.size;have:=Bz.size;omega) ?_
      intro H18 c18 w18 ho18 hg18
      replace hB:=(zAa (zAa hB Bz) (by go_grown)).trans (hg18.below (by have:=zw hB Bz;omega) (fun g hg=>by have:=hoy.base g hg;omega))
      replace hBW:=(zAa (zAa hBW Bz) (by go_grown)).trans (hg18.below (by have:=hBW.size;have:=Bz.size;omega) (fun g hg=>by have:=hoy.base g hg;omega))
      replace HX0:=zh (hg18.bx (HX0.out.below (zAa Bz (by go_grown))) (hoy.off (by omega)))
      have nv1_own18:=hg18.ne (HX1.out.below (zAa Bz (by go_grown))).lt nv1_oy
      replace HX1:=zh (hg18.bx (HX1.out.below (zAa Bz (by go_grown))) nv1_oy)
      have nv2_own18:=hg18.ne (HX2.out.below (zAa Bz (by go_grown))).lt nv2_oy
      replace HX2:=zh (hg18.bx (HX2.out.below (zAa Bz (by go_grown))) nv2_oy)
      have nv3_own18:=hg18.ne (HX3.out.below (zAa Bz (by go_grown))).lt nv3_oy
      replace HX3:=zh (hg18.bx (HX3.out.below (zAa Bz (by go_grown))) nv3_oy)
      have nv4_own18:=hg18.ne (HX4.out.below (zAa Bz (by go_grown))).lt nv4_oy
      replace HX4:=zh (hg18.bx (HX4.out.below (zAa Bz (by go_grown))) nv4_oy)
      have apZY':=hg18.ap hoz apZY
      have apYZ':=apZY'.symm
      replace hoz:=(OwnR.below hoz (by go_grown)).grown hg18 apZY
      clear apZY apYZ
      have apZY:=apZY'
      have apYZ:=apYZ'
      clear apZY' apYZ'
      have apXY':=hg18.ap ho15 apXY
      have apYX':=apXY'.symm
      replace ho15:=(OwnR.below ho15 (by go_grown)).grown hg18 apXY
      clear apXY apYX
      have apXY:=apXY'
      have apYX:=apYX'
      clear apXY' apYX'
      clear hdr hdr2
      replace h14:=h14.k hg18.k
      replace hxs:=hxs.k hg18.k
      clear hg18 Bz
      have Bz:=Below.refl w18.heap.size w18
      obtain⟨p1_0,p1_1,p1_2,p1_3,p1_4,p1_5,p1_6,p1_7,-⟩:=(zx HX1 Bz).cz
      refine hK.out _ _ ⟨p1_0,p1_1,p1_2,p1_3,p1_4,p1_5,p1_6,p1_7⟩ (fun _=>?_)
      try simp only[uW,uX,uY,uZ]
      clear hK K
      refine wpPlan_late (o:=⟨some 79,_,_,_,_,_⟩) rfl rfl (by decide) (fun K hK=>?_)
      have hdr:w18.drew.heap.size=w18.heap.size:=rfl
      have hdr2:w18.drew.drew.heap.size=w18.heap.size:=rfl
      refine Elt.wp elt_frs (.tmp 75) (.tmp 78) rfl (W.heap.size) (.slice H3 i c3) (i) (mstF V P i) rfl hoz (.slice (some ⟨v4,0,none⟩) 1 1) (1) ([x.lo]) rfl (From.one (HX4.out.below (zAa Bz (by go_grown))) (x.lo) rfl (elt_frs.len _)) (by omega) (by have:=hBW.size;have:=Bz.size;omega) ?_
      intro H19 c19 w19 ho19 hg19
      refine hK.out _ _ ?_
      try simp only[uW,uX,uY,uZ]
      clear hK K
      replace hB:=(zAa (zAa hB Bz) (by go_grown)).trans (hg19.below (by have:=zw hB Bz;omega) (fun g hg=>by have:=hoz.base g hg;omega))
      replace hBW:=(zAa (zAa hBW Bz) (by go_grown)).trans (hg19.below (by have:=hBW.size;have:=Bz.size;omega) (fun g hg=>by have:=hoz.base g hg;omega))
      replace HX0:=zh (hg19.bx (HX0.out.below (zAa Bz (by go_grown))) (hoz.off (by omega)))
      have nv1_own19:=hg19.ne (HX1.out.below (zAa Bz (by go_grown))).lt nv1_oz
      replace HX1:=zh (hg19.bx (HX1.out.below (zAa Bz (by go_grown))) nv1_oz)
      have nv2_own19:=hg19.ne (HX2.out.below (zAa Bz (by go_grown))).lt nv2_oz
      replace HX2:=zh (hg19.bx (HX2.out.below (zAa Bz (by go_grown))) nv2_oz)
      have nv3_own19:=hg19.ne (HX3.out.below (zAa Bz (by go_grown))).lt nv3_oz
      replace HX3:=zh (hg19.bx (HX3.out.below (zAa Bz (by go_grown))) nv3_oz)
      have nv4_own19:=hg19.ne (HX4.out.below (zAa Bz (by go_grown))).lt nv4_oz
      replace HX4:=zh (hg19.bx (HX4.out.below (zAa Bz (by go_grown))) nv4_oz)
      have apXZ':=hg19.ap ho15 apXZ
      have apZX':=apXZ'.symm
      replace ho15:=(OwnR.below ho15 (by go_grown)).grown hg19 apXZ
      clear apXZ apZX
      have apXZ:=apXZ'
      have apZX:=apZX'
      clear apXZ' apZX'
      have apYZ':=hg19.ap ho18 apYZ
      have apZY':=apYZ'.symm
      replace ho18:=(OwnR.below ho18 (by go_grown)).grown hg19 apYZ
      clear apYZ apZY
      have apYZ:=apYZ'
      have apZY:=apZY'
      clear apYZ' apZY'
      clear hdr hdr2
      replace h14:=h14.k hg19.k
      replace hxs:=hxs.k hg19.k
      clear hg19 Bz
      have Bz:=Below.refl w19.heap.size w19
      clear p1_0 p1_1 p1_2 p1_3 p1_4 p1_5 p1_6 p1_7
      obtain⟨p1_0,p1_1,p1_2,p1_3,p1_4,p1_5,p1_6,p1_7,-⟩:=(zx HX1 Bz).cz
      iterate 2 (refine zP rfl rfl (fun w'=>by go_simp<;>with_reducible rfl) ?_;try simp only[uW,uX,uY,uZ])
      refine wpPlan_done ?_
      go_wp2_with fail
      go_roundg (vn-(i+1))
      case measure=>have:=HGK.out;omega
      case rel=>exact⟨i+1,H15,H18,H19,c15,c18,c19,X++[⟨s14,A14,c14,l14,s14r,A14r,c14r,l14r,x.lo.q+qof (z:Int) 4*(x.hi.q-x.lo.q),true⟩],by omega,rfl,by rfl,by rfl,by rfl,by go_num,HX0.out.below (zAa Bz (by go_grown)),OwnR.below ho15 (by go_grown),by rw[lstF_neg HVI.out HNG.out];exact OwnR.below ho18 (by go_grown),by rw[mstF_neg HVI.out HNG.out];exact OwnR.below ho19 (by go_grown),apXY,apXZ,apYZ,AllRn.snoc (AllRn.below hxs (by go_grown)) (AllRn.put h14 (by omega)),Btw.snoc HBT.out HXL.out HVI.out (btw_q hz4 HLE.out),zAa (zAa hB Bz) (by go_grown),zAa (zAa hBW Bz) (by go_grown)⟩
    ·go_simp
     refine hK.out _ _ ⟨(zAb p1_0),(zAb p1_1),(zAb p1_2),(zAb p1_3),(zAb p1_4),(zAb p1_5),(zAb p1_6),(zAb p1_7)⟩ (fun _=>?_)
     try simp only[uW,uX,uY,uZ]
     clear hK K
     refine zC 73 rfl rfl (fun K hK=>?_)
     go_simp
     refine hK.out _ _ ⟨(zAb (zAb p1_0)),(zAb (zAb p1_1)),(zAb (zAb p1_2)),(zAb (zAb p1_3)),(zAb (zAb p1_4)),(zAb (zAb p1_5)),(zAb (zAb p1_6)),(zAb (zAb p1_7))⟩ (fun _=>?_)
     try simp only[uW,uX,uY,uZ]
     clear hK K
     refine zC 74 rfl rfl (fun K hK=>?_)
     obtain⟨V13,hW,x3,x4,hN⟩:=boxes2 w17 #[.bool x.lo.s,.slice x.lo.A x.lo.l x.lo.c,.bool x.lo.s',.slice x.lo.A' x.lo.l' x.lo.c'] 33 #[.bool x.hi.s,.slice x.hi.A x.hi.l x.hi.c,.bool x.hi.s',.slice x.hi.A' x.hi.l' x.hi.c'] 33
     rw[←hW]
     clear hW
     obtain⟨v4,hb4⟩:∃b,b=w17.heap.size+1:=⟨_,rfl⟩
     rw[←hb4] at x4 ⊢
     obtain⟨v3,hb3⟩:∃b,b=w17.heap.size:=⟨_,rfl⟩
     rw[←hb3] at x3 ⊢
     have o0_3:w.heap.size<v3:=by have:=(zx HX0 Bz).lt;omega
     have o1_3:v1<v3:=by have:=(zx HX1 Bz).lt;omega
     have o2_3:v2<v3:=by have:=(zx HX2 Bz).lt;omega
     have ow_3:w.heap.size≤v3:=by have:=zw hB Bz;omega
     have nv3_oy:=OwnR.off' (b:=v3) hoy (by omega)
     have nv3_oz:=OwnR.off' (b:=v3) hoz (by omega)
     have nv3_own15:=OwnR.off' (b:=v3) ho15 (by omega)
     have o0_4:w.heap.size<v4:=by have:=(zx HX0 Bz).lt;omega
     have o1_4:v1<v4:=by have:=(zx HX1 Bz).lt;omega
     have o2_4:v2<v4:=by have:=(zx HX2 Bz).lt;omega
     have o3_4:v3<v4:=by omega
     have ow_4:w.heap.size≤v4:=by have:=zw hB Bz;omega
     have nv4_oy:=OwnR.off' (b:=v4) hoy (by omega)
     have nv4_oz:=OwnR.off' (b:=v4) hoz (by omega)
     have nv4_own15:=OwnR.off' (b:=v4) ho15 (by omega)
     replace h14:=h14.below hN
     replace ho15:=ho15.below hN
     replace hoy:=hoy.below hN
     replace hoz:=hoz.below hN
     replace hxs:=hxs.below hN
     replace hB:=zAa (zAa hB Bz) hN
     replace hBW:=zAa (zAa hBW Bz) hN
     replace HX0:=zh ((zx HX0 Bz).below hN)
     replace HX1:=zh ((zx HX1 Bz).below hN)
     replace HX2:=zh ((zx HX2 Bz).below hN)
     have HX3:=zh x3
     have HX4:=zh x4
     clear x3 x4 hN Bz hb3 hb4
     have Bz:=Below.refl V13.heap.size V13
     clear p1_0 p1_1 p1_2 p1_3 p1_4 p1_5 p1_6 p1_7
     have hdr:V13.drew.heap.size=V13.heap.size:=rfl
     have hdr2:V13.drew.drew.heap.size=V13.heap.size:=rfl
     refine Elt.wp elt_frs (.tmp 70) (.tmp 73) rfl (W.heap.size) (.slice H2 i c2) (i) (lstF V P i) rfl hoy (.slice (some ⟨v4,0,none⟩) 1 1) (1) ([x.hi]) rfl (From.one (HX4.out.below (zAa Bz (by go_grown))) (x.hi) rfl (elt_frs.len _)) (by omega) (by have:=hBW.size;have:=Bz.size;omega) ?_
     intro H18 c18 w18 ho18 hg18
     replace hB:=(zAa (zAa hB Bz) (by go_grown)).trans (hg18.below (by have:=zw hB Bz;omega) (fun g hg=>by have:=hoy.base g hg;omega))
     replace hBW:=(zAa (zAa hBW Bz) (by go_grown)).trans (hg18.below (by have:=hBW.size;have:=Bz.size;omega) (fun g hg=>by have:=hoy.base g hg;omega))
     replace HX0:=zh (hg18.bx (HX0.out.below (zAa Bz (by go_grown))) (hoy.off (by omega)))
     have nv1_own18:=hg18.ne (HX1.out.below (zAa Bz (by go_grown))).lt nv1_oy
     replace HX1:=zh (hg18.bx (HX1.out.below (zAa Bz (by go_grown))) nv1_oy)
     have nv2_own18:=hg18.ne (HX2.out.below (zAa Bz (by go_grown))).lt nv2_oy
     replace HX2:=zh (hg18.bx (HX2.out.below (zAa Bz (by go_grown))) nv2_oy)
     have nv3_own18:=hg18.ne (HX3.out.below (zAa Bz (by go_grown))).lt nv3_oy
     replace HX3:=zh (hg18.bx (HX3.out.below (zAa Bz (by go_grown))) nv3_oy)
     have nv4_own18:=hg18.ne (HX4.out.below (zAa Bz (by go_grown))).lt nv4_oy
     replace HX4:=zh (hg18.bx (HX4.out.below (zAa Bz (by go_grown))) nv4_oy)
     have apZY':=hg18.ap hoz apZY
     have apYZ':=apZY'.symm
     replace hoz:=(OwnR.below hoz (by go_grown)).grown hg18 apZY
     clear apZY apYZ
     have apZY:=apZY'
     have apYZ:=apYZ'
     clear apZY' apYZ'
     have apXY':=hg18.ap ho15 apXY
     have apYX':=apXY'.symm
     replace ho15:=(OwnR.below ho15 (by go_grown)).grown hg18 apXY
     clear apXY apYX
     have apXY:=apXY'
     have apYX:=apYX'
     clear apXY' apYX'
     clear hdr hdr2
     replace h14:=h14.k hg18.k
     replace hxs:=hxs.k hg18.k
     clear hg18 Bz
     have Bz:=Below.refl w18.heap.size w18
     obtain⟨p1_0,p1_1,p1_2,p1_3,p1_4,p1_5,p1_6,p1_7,-⟩:=(zx HX1 Bz).cz
     refine hK.out _ _ ⟨p1_0,p1_1,p1_2,p1_3,p1_4,p1_5,p1_6,p1_7⟩ (fun _=>?_)
     try simp only[uW,uX,uY,uZ]
     clear hK K
     refine wpPlan_late (o:=⟨some 79,_,_,_,_,_⟩) rfl rfl (by decide) (fun K hK=>?_)
     have hdr:w18.drew.heap.size=w18.heap.size:=rfl
     have hdr2:w18.drew.drew.heap.size=w18.heap.size:=rfl
     refine Elt.wp elt_frs (.tmp 75) (.tmp 78) rfl (W.heap.size) (.slice H3 i c3) (i) (mstF V P i) rfl hoz (.slice (some ⟨v3,0,none⟩) 1 1) (1) ([x.lo]) rfl (From.one (HX3.out.below (zAa Bz (by go_grown))) (x.lo) rfl (elt_frs.len _)) (by omega) (by have:=hBW.size;have:=Bz.size;omega) ?_
     intro H19 c19 w19 ho19 hg19
     refine hK.out _ _ ?_
     try simp only[uW,uX,uY,uZ]
     clear hK K
     replace hB:=(zAa (zAa hB Bz) (by go_grown)).trans (hg19.below (by have:=zw hB Bz;omega) (fun g hg=>by have:=hoz.base g hg;omega))
     replace hBW:=(zAa (zAa hBW Bz) (by go_grown)).trans (hg19.below (by have:=hBW.size;have:=Bz.size;omega) (fun g hg=>by have:=hoz.base g hg;omega))
     replace HX0:=zh (hg19.bx (HX0.out.below (zAa Bz (by go_grown))) (hoz.off (by omega)))
     have nv1_own19:=hg19.ne (HX1.out.below (zAa Bz (by go_grown))).lt nv1_oz
     replace HX1:=zh (hg19.bx (HX1.out.below (zAa Bz (by go_grown))) nv1_oz)
     have nv2_own19:=hg19.ne (HX2.out.below (zAa Bz (by go_grown))).lt nv2_oz
     replace HX2:=zh (hg19.bx (HX2.out.below (zAa Bz (by go_grown))) nv2_oz)
     have nv3_own19:=hg19.ne (HX3.out.below (zAa Bz (by go_grown))).lt nv3_oz
     replace HX3:=zh (hg19.bx (HX3.out.below (zAa Bz (by go_grown))) nv3_oz)
     have nv4_own19:=hg19.ne (HX4.out.below (zAa Bz (by go_grown))).lt nv4_oz
     replace HX4:=zh (hg19.bx (HX4.out.below (zAa Bz (by go_grown))) nv4_oz)
     have apXZ':=hg19.ap ho15 apXZ
     have apZX':=apXZ'.symm
     replace ho15:=(OwnR.below ho15 (by go_grown)).grown hg19 apXZ
     clear apXZ apZX
     have apXZ:=apXZ'
     have apZX:=apZX'
     clear apXZ' apZX'
     have apYZ':=hg19.ap ho18 apYZ
     have apZY':=apYZ'.symm
     replace ho18:=(OwnR.below ho18 (by go_grown)).grown hg19 apYZ
     clear apYZ apZY
     have apYZ:=apYZ'
     have apZY:=apZY'
     clear apYZ' apZY'
     clear hdr hdr2
     replace h14:=h14.k hg19.k
     replace hxs:=hxs.k hg19.k
     clear hg19 Bz
     have Bz:=Below.refl w19.heap.size w19
     clear p1_0 p1_1 p1_2 p1_3 p1_4 p1_5 p1_6 p1_7
     obtain⟨p1_0,p1_1,p1_2,p1_3,p1_4,p1_5,p1_6,p1_7,-⟩:=(zx HX1 Bz).cz
     iterate 2 (refine zP rfl rfl (fun w'=>by go_simp<;>with_reducible rfl) ?_;try simp only[uW,uX,uY,uZ])
     refine wpPlan_done ?_
     go_wp2_with fail
     go_roundg (vn-(i+1))
     case measure=>have:=HGK.out;omega
     case rel=>exact⟨i+1,H15,H18,H19,c15,c18,c19,X++[⟨s14,A14,c14,l14,s14r,A14r,c14r,l14r,x.lo.q+qof (z:Int) 4*(x.hi.q-x.lo.q),true⟩],by omega,rfl,by rfl,by rfl,by rfl,by go_num,HX0.out.below (zAa Bz (by go_grown)),OwnR.below ho15 (by go_grown),by rw[lstF_neg HVI.out HNG.out];exact OwnR.below ho18 (by go_grown),by rw[mstF_neg HVI.out HNG.out];exact OwnR.below ho19 (by go_grown),apXY,apXZ,apYZ,AllRn.snoc (AllRn.below hxs (by go_grown)) (AllRn.put h14 (by omega)),Btw.snoc HBT.out HXL.out HVI.out (btw_q hz4 HLE.out),zAa (zAa hB Bz) (by go_grown),zAa (zAa hBW Bz) (by go_grown)⟩
   ·have HNG:Hid (0≤(pget P (i:Int)).num.sign):=zh (by rw[HSG.out];omega)
    have Bz:=Below.refl wr.heap.size wr
    obtain⟨p50_0,p50_1,p50_2,p50_3,p50_4,p50_5,p50_6,p50_7,p50_8,-⟩:=(hnd.below (zAa hB Bz)).ez
    go_upto_region 7 with(fail)
    obtain⟨V11,hW,x1,hN⟩:=zAc wr #[.bool x.lo.s,.slice x.lo.A x.lo.l x.lo.c,.bool x.lo.s',.slice x.lo.A' x.lo.l' x.lo.c',.bool x.hi.s,.slice x.hi.A x.hi.l x.hi.c,.bool x.hi.s',.slice x.hi.A' x.hi.l' x.hi.c',.bool x.int] 44
    rw[←hW]
    clear hW
    obtain⟨v1,hb1⟩:∃b,b=wr.heap.size:=⟨_,rfl⟩
    rw[←hb1] at x1 ⊢
    have o0_1:w.heap.size<v1:=by have:=(zx HX0 Bz).lt;omega
    have ow_1:w.heap.size≤v1:=by have:=zw hB Bz;omega
    have nv1_ox:=OwnR.off' (b:=v1) hox (by omega)
    have nv1_oy:=OwnR.off' (b:=v1) hoy (by omega)
    have nv1_oz:=OwnR.off' (b:=v1) hoz (by omega)
    replace hox:=hox.below hN
    replace hoy:=hoy.below hN
    replace hoz:=hoz.below hN
    replace hxs:=hxs.below hN
    replace hB:=zAa (zAa hB Bz) hN
    replace hBW:=zAa (zAa hBW Bz) hN
    replace HX0:=zh ((zx HX0 Bz).below hN)
    have HX1:=zh x1
    clear x1 hN Bz hb1
    have Bz:=Below.refl V11.heap.size V11
    clear p50_0 p50_1 p50_2 p50_3 p50_4 p50_5 p50_6 p50_7 p50_8
    go_upto_if 43 with(fail)
    go_cut [12] (fun v wy=>∃z:Nat,z≤4∧v=.int .i64 (z:Int)∧wy=V11)
    case first =>
     by_cases hq1:i<qn
     ·have hq2:(i:Int)<(qn:Int):=by omega
      obtain⟨u,hu⟩:∃u,QL[i]?=some u:=⟨QL[i]'(by have:=hqs.out.1;omega),List.getElem?_eq_getElem _⟩
      obtain⟨qb,qo,hqe,hqel⟩:=hqs.out.at' ics_len (by omega) hq1
      have hqn:ElA w qb (qo+i) (ics u):=by have:=hqel i u hu;rwa [Nat.mul_one] at this
      have p60_0:=(hqn.below (zAa hB Bz)).c0 (u:=.int .i64 u) rfl
      obtain⟨z,hz4,m1,m2,m3,m4,m5⟩:=rem5 u
      subst hqe
      go_wp2_with fail
      go_meet
      case rel=>exact⟨z,hz4,rfl,rfl⟩
     ·have hq2:¬(i:Int)<(qn:Int):=by omega
      go_wp2_with fail
      go_meet
      case rel=>exact⟨0,by omega,rfl,rfl⟩
    case rest =>
    obtain⟨z,hz4,rfl,hwy⟩:=hcut
    obtain rfl:V11=_:=hwy.symm
    obtain⟨p1_0,p1_1,p1_2,p1_3,p1_4,p1_5,p1_6,p1_7,-⟩:=(zx HX1 Bz).cz
    go_wp2_with fail
    (try simp only[List.append_eq,List.cons_append,List.nil_append])
    refine wp_region_plan (.pure 0 (.pure 1 (.take 2 (.pure 3 (.pure 5 (.take 6 (.pure 7 (.take 8 (.only 4 (.only 9 (.only 10 (.only 11 (.only 12 (.only 13 (.pure 14 .done))))))))))))))) [13] (fun w'=>w'.cell? ⟨v1,0,none⟩=some (.bool x.lo.s)∧w'.cell? ⟨v1,1,none⟩=some (.slice x.lo.A x.lo.l x.lo.c)∧w'.cell? ⟨v1,2,none⟩=some (.bool x.lo.s')∧w'.cell? ⟨v1,3,none⟩=some (.slice x.lo.A' x.lo.l' x.lo.c')∧w'.cell? ⟨v1,4,none⟩=some (.bool x.hi.s)∧w'.cell? ⟨v1,5,none⟩=some (.slice x.hi.A x.hi.l x.hi.c)∧w'.cell? ⟨v1,6,none⟩=some (.bool x.hi.s')∧w'.cell? ⟨v1,7,none⟩=some (.slice x.hi.A' x.hi.l' x.hi.c')) (by kernel_rfl) (by kernel_rfl) ⟨p1_0,p1_1,p1_2,p1_3,p1_4,p1_5,p1_6,p1_7⟩ ?_
    iterate 2 (refine zP rfl rfl (fun w'=>by go_simp<;>with_reducible rfl) ?_;try simp only[uW,uX,uY,uZ])
    refine zT rfl rfl (fun w' ⟨p1_0,p1_1,p1_2,p1_3,p1_4,p1_5,p1_6,p1_7⟩=>by go_simp<;>with_reducible rfl) ?_
    try simp only[uW,uX,uY,uZ]
    iterate 2 (refine zP rfl rfl (fun w'=>by go_simp<;>with_reducible rfl) ?_;try simp only[uW,uX,uY,uZ])
    refine zT rfl rfl (fun w' ⟨p1_0,p1_1,p1_2,p1_3,p1_4,p1_5,p1_6,p1_7⟩=>by go_simp<;>with_reducible rfl) ?_
    try simp only[uW,uX,uY,uZ]
    refine zP rfl rfl (fun w'=>by go_simp<;>with_reducible rfl) ?_
    try simp only[uW,uX,uY,uZ]
    refine zT rfl rfl (fun w' ⟨p1_0,p1_1,p1_2,p1_3,p1_4,p1_5,p1_6,p1_7⟩=>by go_simp<;>with_reducible rfl) ?_
    try simp only[uW,uX,uY,uZ]
    refine zC 55 rfl rfl (fun K hK=>?_)
    go_simp
    with_reducible refine(of_q (z:Int) 4 (zh (by omega)) (zh (by omega)) (zh (Tab.below hT.out (zAa hB (zAa (b:=V11) Bz (by go_grown)))))).mono ?_
    rintro e w11 ⟨s11,A11,c11,l11,s11r,A11r,c11r,l11r,rfl,h11,b11⟩
    replace b11:=zAa (a:=V11) (by go_grown) b11
    replace hox:=hox.below b11
    replace hoy:=hoy.below b11
    replace hoz:=hoz.below b11
    replace hxs:=hxs.below b11
    replace Bz:=zAa Bz b11
    clear b11
    have hs1:=sz_of4 hz4
    clear p1_0 p1_1 p1_2 p1_3 p1_4 p1_5 p1_6 p1_7
    obtain⟨p1_0,p1_1,p1_2,p1_3,p1_4,p1_5,p1_6,p1_7,-⟩:=(zx HX1 Bz).cz
    refine hK.out _ _ ⟨p1_0,p1_1,p1_2,p1_3,p1_4,p1_5,p1_6,p1_7⟩ (fun _=>?_)
    try simp only[uW,uX,uY,uZ]
    clear hK K
    refine zC 60 rfl rfl (fun K hK=>?_)
    go_simp
    with_reducible refine(sub_q (FrOk.below HVF.out.hif (zAa hB (zAa (b:=w11) Bz (by go_grown)))).r (FrOk.below HVF.out.lof (zAa hB (zAa (b:=w11) Bz (by go_grown)))).r (by omega) (zh (Tab.below hT.out (zAa hB (zAa (b:=w11) Bz (by go_grown)))))).mono ?_
    rintro e w12 ⟨s12,A12,c12,l12,s12r,A12r,c12r,l12r,rfl,h12,b12⟩
    replace b12:=zAa (a:=w11) (by go_grown) b12
    replace h11:=h11.below b12
    replace hox:=hox.below b12
    replace hoy:=hoy.below b12
    replace hoz:=hoz.below b12
    replace hxs:=hxs.below b12
    replace Bz:=zAa Bz b12
    clear b12
    have hs2:=sz_sub HVS.out.2 HVS.out.1
    clear p1_0 p1_1 p1_2 p1_3 p1_4 p1_5 p1_6 p1_7
    obtain⟨p1_0,p1_1,p1_2,p1_3,p1_4,p1_5,p1_6,p1_7,-⟩:=(zx HX1 Bz).cz
    refine hK.out _ _ ⟨p1_0,p1_1,p1_2,p1_3,p1_4,p1_5,p1_6,p1_7⟩ (fun _=>?_)
    try simp only[uW,uX,uY,uZ]
    clear hK K
    refine zC 61 rfl rfl (fun K hK=>?_)
    go_simp
    with_reducible refine(mul_q (RN.r' (RN.below h11 (by go_grown)) hs1) (RN.r' (RN.below h12 (by go_grown)) hs2) (by omega) (zh (Tab.below hT.out (zAa hB (zAa (b:=w12) Bz (by go_grown)))))).mono ?_
    rintro e w13 ⟨s13,A13,c13,l13,s13r,A13r,c13r,l13r,rfl,h13,b13⟩
    replace b13:=zAa (a:=w12) (by go_grown) b13
    replace hox:=hox.below b13
    replace hoy:=hoy.below b13
    replace hoz:=hoz.below b13
    replace hxs:=hxs.below b13
    replace Bz:=zAa Bz b13
    clear b13
    have hs3:=sz_mul hs1 hs2
    clear p1_0 p1_1 p1_2 p1_3 p1_4 p1_5 p1_6 p1_7
    obtain⟨p1_0,p1_1,p1_2,p1_3,p1_4,p1_5,p1_6,p1_7,-⟩:=(zx HX1 Bz).cz
    refine hK.out _ _ ⟨p1_0,p1_1,p1_2,p1_3,p1_4,p1_5,p1_6,p1_7⟩ (fun _=>?_)
    try simp only[uW,uX,uY,uZ]
    clear hK K
    refine zC 62 rfl rfl (fun K hK=>?_)
    go_simp
    with_reducible refine(add_q (FrOk.below HVF.out.lof (zAa hB (zAa (b:=w13) Bz (by go_grown)))).r (RN.r' (RN.below h13 (by go_grown)) hs3) (by omega) (zh (Tab.below hT.out (zAa hB (zAa (b:=w13) Bz (by go_grown)))))).mono ?_
    rintro e w14 ⟨s14,A14,c14,l14,s14r,A14r,c14r,l14r,rfl,h14,b14⟩
    replace b14:=zAa (a:=w13) (by go_grown) b14
    replace hox:=hox.below b14
    replace hoy:=hoy.below b14
    replace hoz:=hoz.below b14
    replace hxs:=hxs.below b14
    replace Bz:=zAa Bz b14
    clear b14
    have hs4:=sz_add HVS.out.1 hs3
    clear p1_0 p1_1 p1_2 p1_3 p1_4 p1_5 p1_6 p1_7
    obtain⟨p1_0,p1_1,p1_2,p1_3,p1_4,p1_5,p1_6,p1_7,-⟩:=(zx HX1 Bz).cz
    refine hK.out _ _ ⟨p1_0,p1_1,p1_2,p1_3,p1_4,p1_5,p1_6,p1_7⟩ (fun _=>?_)
    try simp only[uW,uX,uY,uZ]
    clear hK K
    refine zC 63 rfl rfl (fun K hK=>?_)
    go_simp
    refine hK.out _ _ ⟨(zAb p1_0),(zAb p1_1),(zAb p1_2),(zAb p1_3),(zAb p1_4),(zAb p1_5),(zAb p1_6),(zAb p1_7)⟩ (fun _=>?_)
    try simp only[uW,uX,uY,uZ]
    clear hK K
    refine wpPlan_late (o:=⟨some 64,_,_,_,_,_⟩) rfl rfl (by decide) (fun K hK=>?_)
    obtain⟨V12,hW,x2,hN⟩:=zAc w14 #[.bool s14,.slice A14 l14 c14,.bool s14r,.slice A14r l14r c14r] 33
    rw[←hW]
    clear hW
    obtain⟨v2,hb2⟩:∃b,b=w14.heap.size:=⟨_,rfl⟩
    rw[←hb2] at x2 ⊢
    have o0_2:w.heap.size<v2:=by have:=(zx HX0 Bz).lt;omega
    have o1_2:v1<v2:=by have:=(zx HX1 Bz).lt;omega
    have ow_2:w.heap.size≤v2:=by have:=zw hB Bz;omega
    have nv2_ox:=OwnR.off' (b:=v2) hox (by omega)
    have nv2_oy:=OwnR.off' (b:=v2) hoy (by omega)
    have nv2_oz:=OwnR.off' (b:=v2) hoz (by omega)
    replace h14:=h14.below hN
    replace hox:=hox.below hN
    replace hoy:=hoy.below hN
    replace hoz:=hoz.below hN
    replace hxs:=hxs.below hN
    replace hB:=zAa (zAa hB Bz) hN
    replace hBW:=zAa (zAa hBW Bz) hN
    replace HX0:=zh ((zx HX0 Bz).below hN)
    replace HX1:=zh ((zx HX1 Bz).below hN)
    have HX2:=zh x2
    clear x2 hN Bz hb2
    have Bz:=Below.refl V12.heap.size V12
    clear p1_0 p1_1 p1_2 p1_3 p1_4 p1_5 p1_6 p1_7
    have hdr:V12.drew.heap.size=V12.heap.size:=rfl
    have hdr2:V12.drew.drew.heap.size=V12.heap.size:=rfl
    refine Elt.wp elt_frs (.tmp 51) (.tmp 63) rfl (W.heap.size) (.slice H1 i c1) (i) (X) rfl hox (.slice (some ⟨v2,0,none⟩) 1 1) (1) ([⟨s14,A14,c14,l14,s14r,A14r,c14r,l14r,x.lo.q+qof (z:Int) 4*(x.hi.q-x.lo.q),true⟩]) rfl (From.one (HX2.out.below (zAa Bz (by go_grown))) (⟨s14,A14,c14,l14,s14r,A14r,c14r,l14r,x.lo.q+qof (z:Int) 4*(x.hi.q-x.lo.q),true⟩) rfl (elt_frs.len _)) (by omega) (by have:=hBW.size;have:=Bz.size;omega) ?_
    intro H15 c15 w15 ho15 hg15
    refine hK.out _ _ ?_
    try simp only[uW,uX,uY,uZ]
    clear hK K
    replace hB:=(zAa (zAa hB Bz) (by go_grown)).trans (hg15.below (by have:=zw hB Bz;omega) (fun g hg=>by have:=hox.base g hg;omega))
    replace hBW:=(zAa (zAa hBW Bz) (by go_grown)).trans (hg15.below (by have:=hBW.size;have:=Bz.size;omega) (fun g hg=>by have:=hox.base g hg;omega))
    replace HX0:=zh (hg15.bx (HX0.out.below (zAa Bz (by go_grown))) (hox.off (by omega)))
    have nv1_own15:=hg15.ne (HX1.out.below (zAa Bz (by go_grown))).lt nv1_ox
    replace HX1:=zh (hg15.bx (HX1.out.below (zAa Bz (by go_grown))) nv1_ox)
    have nv2_own15:=hg15.ne (HX2.out.below (zAa Bz (by go_grown))).lt nv2_ox
    replace HX2:=zh (hg15.bx (HX2.out.below (zAa Bz (by go_grown))) nv2_ox)
    have apYX':=hg15.ap hoy apYX
    have apXY':=apYX'.symm
    replace hoy:=(OwnR.below hoy (by go_grown)).grown hg15 apYX
    clear apYX apXY
    have apYX:=apYX'
    have apXY:=apXY'
    clear apYX' apXY'
    have apZX':=hg15.ap hoz apZX
    have apXZ':=apZX'.symm
    replace hoz:=(OwnR.below hoz (by go_grown)).grown hg15 apZX
    clear apZX apXZ
    have apZX:=apZX'
    have apXZ:=apXZ'
    clear apZX' apXZ'
    clear hdr hdr2
    replace h14:=h14.k hg15.k
    replace hxs:=hxs.k hg15.k
    clear hg15 Bz
    have Bz:=Below.refl w15.heap.size w15
    obtain⟨p1_0,p1_1,p1_2,p1_3,p1_4,p1_5,p1_6,p1_7,-⟩:=(zx HX1 Bz).cz
    refine zP rfl rfl (fun w'=>by go_simp<;>with_reducible rfl) ?_
    try simp only[uW,uX,uY,uZ]
    refine wpPlan_done ?_
    go_wp2_with fail
    with_reducible refine(getW (n*(KB+2)) n (n*(KB+2)+1) (i:Int) (HGV.out.below (zAa hB (zAa (b:=w15) Bz (by go_grown)))) (Nat.le_refl _) (by omega) (Nat.le_trans HGM.out (by decide)) (Nat.le_refl _) (zh (Tab.below hT.out (zAa hB (zAa (b:=w15) Bz (by go_grown)))))).mono ?_
    rintro e w16 ⟨s16,A16,c16,l16,s16r,A16r,c16r,l16r,rfl,h16,z16,b16⟩
    replace b16:=zAa (a:=w15) (by go_grown) b16
    replace h14:=h14.below b16
    replace ho15:=ho15.below b16
    replace hoy:=hoy.below b16
    replace hoz:=hoz.below b16
    replace hxs:=hxs.below b16
    replace Bz:=zAa Bz b16
    clear b16
    clear p1_0 p1_1 p1_2 p1_3 p1_4 p1_5 p1_6 p1_7
    go_wp2_with fail
    with_reducible refine(sign_q (RN.r' (RN.below h16 (by go_grown)) z16) HGS.out sg HSG).mono ?_
    rintro e w17 ⟨rfl,b17⟩
    replace b17:=zAa (a:=w16) (by go_grown) b17
    replace h14:=h14.below b17
    replace ho15:=ho15.below b17
    replace hoy:=hoy.below b17
    replace hoz:=hoz.below b17
    replace hxs:=hxs.below b17
    replace Bz:=zAa Bz b17
    clear b17
    obtain⟨p1_0,p1_1,p1_2,p1_3,p1_4,p1_5,p1_6,p1_7,-⟩:=(zx HX1 Bz).cz
    go_wp2_with fail
    (try simp only[List.append_eq,List.cons_append,List.nil_append])
    refine wp_region_plan (.pure 0 (.pure 1 (.take 2 (.pure 5 (.pure 6 (.take 7 (.two 3 (.two 4 (.only 8 (.only 9 (.pure 10 (.pure 11 .done)))) 8 (.only 4 (.only 9 (.pure 10 (.pure 11 .done))))) 8 (.only 3 (.only 4 (.only 9 (.pure 10 (.pure 11 .done)))))))))))) [9] (fun w'=>w'.cell? ⟨v1,0,none⟩=some (.bool x.lo.s)∧w'.cell? ⟨v1,1,none⟩=some (.slice x.lo.A x.lo.l x.lo.c)∧w'.cell? ⟨v1,2,none⟩=some (.bool x.lo.s')∧w'.cell? ⟨v1,3,none⟩=some (.slice x.lo.A' x.lo.l' x.lo.c')∧w'.cell? ⟨v1,4,none⟩=some (.bool x.hi.s)∧w'.cell? ⟨v1,5,none⟩=some (.slice x.hi.A x.hi.l x.hi.c)∧w'.cell? ⟨v1,6,none⟩=some (.bool x.hi.s')∧w'.cell? ⟨v1,7,none⟩=some (.slice x.hi.A' x.hi.l' x.hi.c')) (by kernel_rfl) (by kernel_rfl) ⟨p1_0,p1_1,p1_2,p1_3,p1_4,p1_5,p1_6,p1_7⟩ ?_
    iterate 2 (refine zP rfl rfl (fun w'=>by go_simp<;>with_reducible rfl) ?_;try simp only[uW,uX,uY,uZ])
    refine zT rfl rfl (fun w' ⟨p1_0,p1_1,p1_2,p1_3,p1_4,p1_5,p1_6,p1_7⟩=>by go_simp<;>with_reducible rfl) ?_
    try simp only[uW,uX,uY,uZ]
    iterate 2 (refine zP rfl rfl (fun w'=>by go_simp<;>with_reducible rfl) ?_;try simp only[uW,uX,uY,uZ])
    refine zT rfl rfl (fun w' ⟨p1_0,p1_1,p1_2,p1_3,p1_4,p1_5,p1_6,p1_7⟩=>by go_simp<;>with_reducible rfl) ?_
    try simp only[uW,uX,uY,uZ]
    refine wpPlan_two (o:=⟨some 83,_,_,_,_,_⟩) (o':=⟨some 88,_,_,_,_,_⟩) rfl rfl rfl rfl (fun K hK=>?_) (fun K hK=>?_)
    ·go_simp
     refine hK.out _ _ ⟨(zAb p1_0),(zAb p1_1),(zAb p1_2),(zAb p1_3),(zAb p1_4),(zAb p1_5),(zAb p1_6),(zAb p1_7)⟩ (fun _=>?_)
     try simp only[uW,uX,uY,uZ]
     clear hK K
     refine wpPlan_two (o:=⟨some 84,_,_,_,_,_⟩) (o':=⟨some 88,_,_,_,_,_⟩) rfl rfl rfl rfl (fun K hK=>?_) (fun K hK=>?_)
     ·obtain⟨V13,hW,x3,hN⟩:=zAc w17 #[.bool x.lo.s,.slice x.lo.A x.lo.l x.lo.c,.bool x.lo.s',.slice x.lo.A' x.lo.l' x.lo.c'] 33
      rw[←hW]
      clear hW
      obtain⟨v3,hb3⟩:∃b,b=w17.heap.size:=⟨_,rfl⟩
      rw[←hb3] at x3 ⊢
      have o0_3:w.heap.size<v3:=by have:=(zx HX0 Bz).lt;omega
      have o1_3:v1<v3:=by have:=(zx HX1 Bz).lt;omega
      have o2_3:v2<v3:=by have:=(zx HX2 Bz).lt;omega
      have ow_3:w.heap.size≤v3:=by have:=zw hB Bz;omega
      have nv3_oy:=OwnR.off' (b:=v3) hoy (by omega)
      have nv3_oz:=OwnR.off' (b:=v3) hoz (by omega)
      have nv3_own15:=OwnR.off' (b:=v3) ho15 (by omega)
      replace h14:=h14.below hN
      replace ho15:=ho15.below hN
      replace hoy:=hoy.below hN
      replace hoz:=hoz.below hN
      replace hxs:=hxs.below hN
      replace hB:=zAa (zAa hB Bz) hN
      replace hBW:=zAa (zAa hBW Bz) hN
      replace HX0:=zh ((zx HX0 Bz).below hN)
      replace HX1:=zh ((zx HX1 Bz).below hN)
      replace HX2:=zh ((zx HX2 Bz).below hN)
      have HX3:=zh x3
      clear x3 hN Bz hb3
      have Bz:=Below.refl V13.heap.size V13
      clear p1_0 p1_1 p1_2 p1_3 p1_4 p1_5 p1_6 p1_7
      have hdr:V13.drew.heap.size=V13.heap.size:=rfl
      have hdr2:V13.drew.drew.heap.size=V13.heap.size:=rfl
      refine Elt.wp elt_frs (.tmp 80) (.tmp 83) rfl (W.heap.size) (.slice H2 i c2) (i) (lstF V P i) rfl hoy (.slice (some ⟨v3,0,none⟩) 1 1) (1) ([x.lo]) rfl (From.one (HX3.out.below (zAa Bz (by go_grown))) (x.lo) rfl (elt_frs.len _)) (by omega) (by have:=hBW.size;have:=Bz.size;omega) ?_
      intro H18 c18 w18 ho18 hg18
      replace hB:=(zAa (zAa hB Bz) (by go_grown)).trans (hg18.below (by have:=zw hB Bz;omega) (fun g hg=>by have:=hoy.base g hg;omega))
      replace hBW:=(zAa (zAa hBW Bz) (by go_grown)).trans (hg18.below (by have:=hBW.size;have:=Bz.size;omega) (fun g hg=>by have:=hoy.base g hg;omega))
      replace HX0:=zh (hg18.bx (HX0.out.below (zAa Bz (by go_grown))) (hoy.off (by omega)))
      have nv1_own18:=hg18.ne (HX1.out.below (zAa Bz (by go_grown))).lt nv1_oy
      replace HX1:=zh (hg18.bx (HX1.out.below (zAa Bz (by go_grown))) nv1_oy)
      have nv2_own18:=hg18.ne (HX2.out.below (zAa Bz (by go_grown))).lt nv2_oy
      replace HX2:=zh (hg18.bx (HX2.out.below (zAa Bz (by go_grown))) nv2_oy)
      have nv3_own18:=hg18.ne (HX3.out.below (zAa Bz (by go_grown))).lt nv3_oy
      replace HX3:=zh (hg18.bx (HX3.out.below (zAa Bz (by go_grown))) nv3_oy)
      have apZY':=hg18.ap hoz apZY
      have apYZ':=apZY'.symm
      replace hoz:=(OwnR.below hoz (by go_grown)).grown hg18 apZY
      clear apZY apYZ
      have apZY:=apZY'
      have apYZ:=apYZ'
      clear apZY' apYZ'
      have apXY':=hg18.ap ho15 apXY
      have apYX':=apXY'.symm
      replace ho15:=(OwnR.below ho15 (by go_grown)).grown hg18 apXY
      clear apXY apYX
      have apXY:=apXY'
      have apYX:=apYX'
      clear apXY' apYX'
      clear hdr hdr2
      replace h14:=h14.k hg18.k
      replace hxs:=hxs.k hg18.k
      clear hg18 Bz
      have Bz:=Below.refl w18.heap.size w18
      obtain⟨p1_0,p1_1,p1_2,p1_3,p1_4,p1_5,p1_6,p1_7,-⟩:=(zx HX1 Bz).cz
      refine hK.out _ _ ⟨p1_0,p1_1,p1_2,p1_3,p1_4,p1_5,p1_6,p1_7⟩ (fun _=>?_)
      try simp only[uW,uX,uY,uZ]
      clear hK K
      refine zC 88 rfl rfl (fun K hK=>?_)
      go_simp
      refine hK.out _ _ ⟨(zAb p1_0),(zAb p1_1),(zAb p1_2),(zAb p1_3),(zAb p1_4),(zAb p1_5),(zAb p1_6),(zAb p1_7)⟩ (fun _=>?_)
      try simp only[uW,uX,uY,uZ]
      clear hK K
      refine wpPlan_late (o:=⟨some 89,_,_,_,_,_⟩) rfl rfl (by decide) (fun K hK=>?_)
      obtain⟨V14,hW,x4,hN⟩:=zAc w18 #[.bool x.hi.s,.slice x.hi.A x.hi.l x.hi.c,.bool x.hi.s',.slice x.hi.A' x.hi.l' x.hi.c'] 33
      rw[←hW]
      clear hW
      obtain⟨v4,hb4⟩:∃b,b=w18.heap.size:=⟨_,rfl⟩
      rw[←hb4] at x4 ⊢
      have o0_4:w.heap.size<v4:=by have:=(zx HX0 Bz).lt;omega
      have o1_4:v1<v4:=by have:=(zx HX1 Bz).lt;omega
      have o2_4:v2<v4:=by have:=(zx HX2 Bz).lt;omega
      have o3_4:v3<v4:=by have:=(zx HX3 Bz).lt;omega
      have ow_4:w.heap.size≤v4:=by have:=zw hB Bz;omega
      have nv4_oz:=OwnR.off' (b:=v4) hoz (by omega)
      have nv4_own15:=OwnR.off' (b:=v4) ho15 (by omega)
      have nv4_own18:=OwnR.off' (b:=v4) ho18 (by omega)
      replace h14:=h14.below hN
      replace ho15:=ho15.below hN
      replace ho18:=ho18.below hN
      replace hoz:=hoz.below hN
      replace hxs:=hxs.below hN
      replace hB:=zAa (zAa hB Bz) hN
      replace hBW:=zAa (zAa hBW Bz) hN
      replace HX0:=zh ((zx HX0 Bz).below hN)
      replace HX1:=zh ((zx HX1 Bz).below hN)
      replace HX2:=zh ((zx HX2 Bz).below hN)
      replace HX3:=zh ((zx HX3 Bz).below hN)
      have HX4:=zh x4
      clear x4 hN Bz hb4
      have Bz:=Below.refl V14.heap.size V14
      clear p1_0 p1_1 p1_2 p1_3 p1_4 p1_5 p1_6 p1_7
      have hdr:V14.drew.heap.size=V14.heap.size:=rfl
      have hdr2:V14.drew.drew.heap.size=V14.heap.size:=rfl
      refine Elt.wp elt_frs (.tmp 85) (.tmp 88) rfl (W.heap.size) (.slice H3 i c3) (i) (mstF V P i) rfl hoz (.slice (some ⟨v4,0,none⟩) 1 1) (1) ([x.hi]) rfl (From.one (HX4.out.below (zAa Bz (by go_grown))) (x.hi) rfl (elt_frs.len _)) (by omega) (by have:=hBW.size;have:=Bz.size;omega) ?_
      intro H19 c19 w19 ho19 hg19
      refine hK.out _ _ ?_
      try simp only[uW,uX,uY,uZ]
      clear hK K
      replace hB:=(zAa (zAa hB Bz) (by go_grown)).trans (hg19.below (by have:=zw hB Bz;omega) (fun g hg=>by have:=hoz.base g hg;omega))
      replace hBW:=(zAa (zAa hBW Bz) (by go_grown)).trans (hg19.below (by have:=hBW.size;have:=Bz.size;omega) (fun g hg=>by have:=hoz.base g hg;omega))
      replace HX0:=zh (hg19.bx (HX0.out.below (zAa Bz (by go_grown))) (hoz.off (by omega)))
      have nv1_own19:=hg19.ne (HX1.out.below (zAa Bz (by go_grown))).lt nv1_oz
      replace HX1:=zh (hg19.bx (HX1.out.below (zAa Bz (by go_grown))) nv1_oz)
      have nv2_own19:=hg19.ne (HX2.out.below (zAa Bz (by go_grown))).lt nv2_oz
      replace HX2:=zh (hg19.bx (HX2.out.below (zAa Bz (by go_grown))) nv2_oz)
      have nv3_own19:=hg19.ne (HX3.out.below (zAa Bz (by go_grown))).lt nv3_oz
      replace HX3:=zh (hg19.bx (HX3.out.below (zAa Bz (by go_grown))) nv3_oz)
      have nv4_own19:=hg19.ne (HX4.out.below (zAa Bz (by go_grown))).lt nv4_oz
      replace HX4:=zh (hg19.bx (HX4.out.below (zAa Bz (by go_grown))) nv4_oz)
      have apXZ':=hg19.ap ho15 apXZ
      have apZX':=apXZ'.symm
      replace ho15:=(OwnR.below ho15 (by go_grown)).grown hg19 apXZ
      clear apXZ apZX
      have apXZ:=apXZ'
      have apZX:=apZX'
      clear apXZ' apZX'
      have apYZ':=hg19.ap ho18 apYZ
      have apZY':=apYZ'.symm
      replace ho18:=(OwnR.below ho18 (by go_grown)).grown hg19 apYZ
      clear apYZ apZY
      have apYZ:=apYZ'
      have apZY:=apZY'
      clear apYZ' apZY'
      clear hdr hdr2
      replace h14:=h14.k hg19.k
      replace hxs:=hxs.k hg19.k
      clear hg19 Bz
      have Bz:=Below.refl w19.heap.size w19
      obtain⟨p1_0,p1_1,p1_2,p1_3,p1_4,p1_5,p1_6,p1_7,-⟩:=(zx HX1 Bz).cz
      iterate 2 (refine zP rfl rfl (fun w'=>by go_simp<;>with_reducible rfl) ?_;try simp only[uW,uX,uY,uZ])
      refine wpPlan_done ?_
      go_wp2_with fail
      go_roundg (vn-(i+1))
      case measure=>have:=HGK.out;omega
      case rel=>exact⟨i+1,H15,H18,H19,c15,c18,c19,X++[⟨s14,A14,c14,l14,s14r,A14r,c14r,l14r,x.lo.q+qof (z:Int) 4*(x.hi.q-x.lo.q),true⟩],by omega,rfl,by rfl,by rfl,by rfl,by go_num,HX0.out.below (zAa Bz (by go_grown)),OwnR.below ho15 (by go_grown),by rw[lstF_pos HVI.out HNG.out];exact OwnR.below ho18 (by go_grown),by rw[mstF_pos HVI.out HNG.out];exact OwnR.below ho19 (by go_grown),apXY,apXZ,apYZ,AllRn.snoc (AllRn.below hxs (by go_grown)) (AllRn.put h14 (by omega)),Btw.snoc HBT.out HXL.out HVI.out (btw_q hz4 HLE.out),zAa (zAa hB Bz) (by go_grown),zAa (zAa hBW Bz) (by go_grown)⟩
     ·go_simp
      refine hK.out _ _ ⟨(zAb (zAb p1_0)),(zAb (zAb p1_1)),(zAb (zAb p1_2)),(zAb (zAb p1_3)),(zAb (zAb p1_4)),(zAb (zAb p1_5)),(zAb (zAb p1_6)),(zAb (zAb p1_7))⟩ (fun _=>?_)
      try simp only[uW,uX,uY,uZ]
      clear hK K
      refine zC 84 rfl rfl (fun K hK=>?_)
      obtain⟨V13,hW,x3,x4,hN⟩:=boxes2 w17 #[.bool x.lo.s,.slice x.lo.A x.lo.l x.lo.c,.bool x.lo.s',.slice x.lo.A' x.lo.l' x.lo.c'] 33 #[.bool x.hi.s,.slice x.hi.A x.hi.l x.hi.c,.bool x.hi.s',.slice x.hi.A' x.hi.l' x.hi.c'] 33
      rw[←hW]
      clear hW
      obtain⟨v4,hb4⟩:∃b,b=w17.heap.size+1:=⟨_,rfl⟩
      rw[←hb4] at x4 ⊢
      obtain⟨v3,hb3⟩:∃b,b=w17.heap.size:=⟨_,rfl⟩
      rw[←hb3] at x3 ⊢
      have o0_3:w.heap.size<v3:=by have:=(zx HX0 Bz).lt;omega
      have o1_3:v1<v3:=by have:=(zx HX1 Bz).lt;omega
      have o2_3:v2<v3:=by have:=(zx HX2 Bz).lt;omega
      have ow_3:w.heap.size≤v3:=by have:=zw hB Bz;omega
      have nv3_oy:=OwnR.off' (b:=v3) hoy (by omega)
      have nv3_oz:=OwnR.off' (b:=v3) hoz (by omega)
      have nv3_own15:=OwnR.off' (b:=v3) ho15 (by omega)
      have o0_4:w.heap.size<v4:=by have:=(zx HX0 Bz).lt;omega
      have o1_4:v1<v4:=by have:=(zx HX1 Bz).lt;omega
      have o2_4:v2<v4:=by have:=(zx HX2 Bz).lt;omega
      have o3_4:v3<v4:=by omega
      have ow_4:w.heap.size≤v4:=by have:=zw hB Bz;omega
      have nv4_oy:=OwnR.off' (b:=v4) hoy (by omega)
      have nv4_oz:=OwnR.off' (b:=v4) hoz (by omega)
      have nv4_own15:=OwnR.off' (b:=v4) ho15 (by omega)
      replace h14:=h14.below hN
      replace ho15:=ho15.below hN
      replace hoy:=hoy.below hN
      replace hoz:=hoz.below hN
      replace hxs:=hxs.below hN
      replace hB:=zAa (zAa hB Bz) hN
      replace hBW:=zAa (zAa hBW Bz) hN
      replace HX0:=zh ((zx HX0 Bz).below hN)
      replace HX1:=zh ((zx HX1 Bz).below hN)
      replace HX2:=zh ((zx HX2 Bz).below hN)
      have HX3:=zh x3
      have HX4:=zh x4
      clear x3 x4 hN Bz hb3 hb4
      have Bz:=Below.refl V13.heap.size V13
      clear p1_0 p1_1 p1_2 p1_3 p1_4 p1_5 p1_6 p1_7
      have hdr:V13.drew.heap.size=V13.heap.size:=rfl
      have hdr2:V13.drew.drew.heap.size=V13.heap.size:=rfl
      refine Elt.wp elt_frs (.tmp 80) (.tmp 83) rfl (W.heap.size) (.slice H2 i c2) (i) (lstF V P i) rfl hoy (.slice (some ⟨v3,0,none⟩) 1 1) (1) ([x.lo]) rfl (From.one (HX3.out.below (zAa Bz (by go_grown))) (x.lo) rfl (elt_frs.len _)) (by omega) (by have:=hBW.size;have:=Bz.size;omega) ?_
      intro H18 c18 w18 ho18 hg18
      replace hB:=(zAa (zAa hB Bz) (by go_grown)).trans (hg18.below (by have:=zw hB Bz;omega) (fun g hg=>by have:=hoy.base g hg;omega))
      replace hBW:=(zAa (zAa hBW Bz) (by go_grown)).trans (hg18.below (by have:=hBW.size;have:=Bz.size;omega) (fun g hg=>by have:=hoy.base g hg;omega))
      replace HX0:=zh (hg18.bx (HX0.out.below (zAa Bz (by go_grown))) (hoy.off (by omega)))
      have nv1_own18:=hg18.ne (HX1.out.below (zAa Bz (by go_grown))).lt nv1_oy
      replace HX1:=zh (hg18.bx (HX1.out.below (zAa Bz (by go_grown))) nv1_oy)
      have nv2_own18:=hg18.ne (HX2.out.below (zAa Bz (by go_grown))).lt nv2_oy
      replace HX2:=zh (hg18.bx (HX2.out.below (zAa Bz (by go_grown))) nv2_oy)
      have nv3_own18:=hg18.ne (HX3.out.below (zAa Bz (by go_grown))).lt nv3_oy
      replace HX3:=zh (hg18.bx (HX3.out.below (zAa Bz (by go_grown))) nv3_oy)
      have nv4_own18:=hg18.ne (HX4.out.below (zAa Bz (by go_grown))).lt nv4_oy
      replace HX4:=zh (hg18.bx (HX4.out.below (zAa Bz (by go_grown))) nv4_oy)
      have apZY':=hg18.ap hoz apZY
      have apYZ':=apZY'.symm
      replace hoz:=(OwnR.below hoz (by go_grown)).grown hg18 apZY
      clear apZY apYZ
      have apZY:=apZY'
      have apYZ:=apYZ'
      clear apZY' apYZ'
      have apXY':=hg18.ap ho15 apXY
      have apYX':=apXY'.symm
      replace ho15:=(OwnR.below ho15 (by go_grown)).grown hg18 apXY
      clear apXY apYX
      have apXY:=apXY'
      have apYX:=apYX'
      clear apXY' apYX'
      clear hdr hdr2
      replace h14:=h14.k hg18.k
      replace hxs:=hxs.k hg18.k
      clear hg18 Bz
      have Bz:=Below.refl w18.heap.size w18
      obtain⟨p1_0,p1_1,p1_2,p1_3,p1_4,p1_5,p1_6,p1_7,-⟩:=(zx HX1 Bz).cz
      refine hK.out _ _ ⟨p1_0,p1_1,p1_2,p1_3,p1_4,p1_5,p1_6,p1_7⟩ (fun _=>?_)
      try simp only[uW,uX,uY,uZ]
      clear hK K
      refine wpPlan_late (o:=⟨some 89,_,_,_,_,_⟩) rfl rfl (by decide) (fun K hK=>?_)
      have hdr:w18.drew.heap.size=w18.heap.size:=rfl
      have hdr2:w18.drew.drew.heap.size=w18.heap.size:=rfl
      refine Elt.wp elt_frs (.tmp 85) (.tmp 88) rfl (W.heap.size) (.slice H3 i c3) (i) (mstF V P i) rfl hoz (.slice (some ⟨v4,0,none⟩) 1 1) (1) ([x.hi]) rfl (From.one (HX4.out.below (zAa Bz (by go_grown))) (x.hi) rfl (elt_frs.len _)) (by omega) (by have:=hBW.size;have:=Bz.size;omega) ?_
      intro H19 c19 w19 ho19 hg19
      refine hK.out _ _ ?_
      try simp only[uW,uX,uY,uZ]
      clear hK K
      replace hB:=(zAa (zAa hB Bz) (by go_grown)).trans (hg19.below (by have:=zw hB Bz;omega) (fun g hg=>by have:=hoz.base g hg;omega))
      replace hBW:=(zAa (zAa hBW Bz) (by go_grown)).trans (hg19.below (by have:=hBW.size;have:=Bz.size;omega) (fun g hg=>by have:=hoz.base g hg;omega))
      replace HX0:=zh (hg19.bx (HX0.out.below (zAa Bz (by go_grown))) (hoz.off (by omega)))
      have nv1_own19:=hg19.ne (HX1.out.below (zAa Bz (by go_grown))).lt nv1_oz
      replace HX1:=zh (hg19.bx (HX1.out.below (zAa Bz (by go_grown))) nv1_oz)
      have nv2_own19:=hg19.ne (HX2.out.below (zAa Bz (by go_grown))).lt nv2_oz
      replace HX2:=zh (hg19.bx (HX2.out.below (zAa Bz (by go_grown))) nv2_oz)
      have nv3_own19:=hg19.ne (HX3.out.below (zAa Bz (by go_grown))).lt nv3_oz
      replace HX3:=zh (hg19.bx (HX3.out.below (zAa Bz (by go_grown))) nv3_oz)
      have nv4_own19:=hg19.ne (HX4.out.below (zAa Bz (by go_grown))).lt nv4_oz
      replace HX4:=zh (hg19.bx (HX4.out.below (zAa Bz (by go_grown))) nv4_oz)
      have apXZ':=hg19.ap ho15 apXZ
      have apZX':=apXZ'.symm
      replace ho15:=(OwnR.below ho15 (by go_grown)).grown hg19 apXZ
      clear apXZ apZX
      have apXZ:=apXZ'
      have apZX:=apZX'
      clear apXZ' apZX'
      have apYZ':=hg19.ap ho18 apYZ
      have apZY':=apYZ'.symm
      replace ho18:=(OwnR.below ho18 (by go_grown)).grown hg19 apYZ
      clear apYZ apZY
      have apYZ:=apYZ'
      have apZY:=apZY'
      clear apYZ' apZY'
      clear hdr hdr2
      replace h14:=h14.k hg19.k
      replace hxs:=hxs.k hg19.k
      clear hg19 Bz
      have Bz:=Below.refl w19.heap.size w19
      clear p1_0 p1_1 p1_2 p1_3 p1_4 p1_5 p1_6 p1_7
      obtain⟨p1_0,p1_1,p1_2,p1_3,p1_4,p1_5,p1_6,p1_7,-⟩:=(zx HX1 Bz).cz
      iterate 2 (refine zP rfl rfl (fun w'=>by go_simp<;>with_reducible rfl) ?_;try simp only[uW,uX,uY,uZ])
      refine wpPlan_done ?_
      go_wp2_with fail
      go_roundg (vn-(i+1))
      case measure=>have:=HGK.out;omega
      case rel=>exact⟨i+1,H15,H18,H19,c15,c18,c19,X++[⟨s14,A14,c14,l14,s14r,A14r,c14r,l14r,x.lo.q+qof (z:Int) 4*(x.hi.q-x.lo.q),true⟩],by omega,rfl,by rfl,by rfl,by rfl,by go_num,HX0.out.below (zAa Bz (by go_grown)),OwnR.below ho15 (by go_grown),by rw[lstF_pos HVI.out HNG.out];exact OwnR.below ho18 (by go_grown),by rw[mstF_pos HVI.out HNG.out];exact OwnR.below ho19 (by go_grown),apXY,apXZ,apYZ,AllRn.snoc (AllRn.below hxs (by go_grown)) (AllRn.put h14 (by omega)),Btw.snoc HBT.out HXL.out HVI.out (btw_q hz4 HLE.out),zAa (zAa hB Bz) (by go_grown),zAa (zAa hBW Bz) (by go_grown)⟩
    ·go_simp
     refine hK.out _ _ ⟨(zAb p1_0),(zAb p1_1),(zAb p1_2),(zAb p1_3),(zAb p1_4),(zAb p1_5),(zAb p1_6),(zAb p1_7)⟩ (fun _=>?_)
     try simp only[uW,uX,uY,uZ]
     clear hK K
     refine zC 83 rfl rfl (fun K hK=>?_)
     go_simp
     refine hK.out _ _ ⟨(zAb (zAb p1_0)),(zAb (zAb p1_1)),(zAb (zAb p1_2)),(zAb (zAb p1_3)),(zAb (zAb p1_4)),(zAb (zAb p1_5)),(zAb (zAb p1_6)),(zAb (zAb p1_7))⟩ (fun _=>?_)
     try simp only[uW,uX,uY,uZ]
     clear hK K
     refine zC 84 rfl rfl (fun K hK=>?_)
     obtain⟨V13,hW,x3,x4,hN⟩:=boxes2 w17 #[.bool x.hi.s,.slice x.hi.A x.hi.l x.hi.c,.bool x.hi.s',.slice x.hi.A' x.hi.l' x.hi.c'] 33 #[.bool x.lo.s,.slice x.lo.A x.lo.l x.lo.c,.bool x.lo.s',.slice x.lo.A' x.lo.l' x.lo.c'] 33
     rw[←hW]
     clear hW
     obtain⟨v4,hb4⟩:∃b,b=w17.heap.size+1:=⟨_,rfl⟩
     rw[←hb4] at x4 ⊢
     obtain⟨v3,hb3⟩:∃b,b=w17.heap.size:=⟨_,rfl⟩
     rw[←hb3] at x3 ⊢
     have o0_3:w.heap.size<v3:=by have:=(zx HX0 Bz).lt;omega
     have o1_3:v1<v3:=by have:=(zx HX1 Bz).lt;omega
     have o2_3:v2<v3:=by have:=(zx HX2 Bz).lt;omega
     have ow_3:w.heap.size≤v3:=by have:=zw hB Bz;omega
     have nv3_oy:=OwnR.off' (b:=v3) hoy (by omega)
     have nv3_oz:=OwnR.off' (b:=v3) hoz (by omega)
     have nv3_own15:=OwnR.off' (b:=v3) ho15 (by omega)
     have o0_4:w.heap.size<v4:=by have:=(zx HX0 Bz).lt;omega
     have o1_4:v1<v4:=by have:=(zx HX1 Bz).lt;omega
     have o2_4:v2<v4:=by have:=(zx HX2 Bz).lt;omega
     have o3_4:v3<v4:=by omega
     have ow_4:w.heap.size≤v4:=by have:=zw hB Bz;omega
     have nv4_oy:=OwnR.off' (b:=v4) hoy (by omega)
     have nv4_oz:=OwnR.off' (b:=v4) hoz (by omega)
     have nv4_own15:=OwnR.off' (b:=v4) ho15 (by omega)
     replace h14:=h14.below hN
     replace ho15:=ho15.below hN
     replace hoy:=hoy.below hN
     replace hoz:=hoz.below hN
     replace hxs:=hxs.below hN
     replace hB:=zAa (zAa hB Bz) hN
     replace hBW:=zAa (zAa hBW Bz) hN
     replace HX0:=zh ((zx HX0 Bz).below hN)
     replace HX1:=zh ((zx HX1 Bz).below hN)
     replace HX2:=zh ((zx HX2 Bz).below hN)
     have HX3:=zh x3
     have HX4:=zh x4
     clear x3 x4 hN Bz hb3 hb4
     have Bz:=Below.refl V13.heap.size V13
     clear p1_0 p1_1 p1_2 p1_3 p1_4 p1_5 p1_6 p1_7
     have hdr:V13.drew.heap.size=V13.heap.size:=rfl
     have hdr2:V13.drew.drew.heap.size=V13.heap.size:=rfl
     refine Elt.wp elt_frs (.tmp 80) (.tmp 83) rfl (W.heap.size) (.slice H2 i c2) (i) (lstF V P i) rfl hoy (.slice (some ⟨v4,0,none⟩) 1 1) (1) ([x.lo]) rfl (From.one (HX4.out.below (zAa Bz (by go_grown))) (x.lo) rfl (elt_frs.len _)) (by omega) (by have:=hBW.size;have:=Bz.size;omega) ?_
     intro H18 c18 w18 ho18 hg18
     replace hB:=(zAa (zAa hB Bz) (by go_grown)).trans (hg18.below (by have:=zw hB Bz;omega) (fun g hg=>by have:=hoy.base g hg;omega))
     replace hBW:=(zAa (zAa hBW Bz) (by go_grown)).trans (hg18.below (by have:=hBW.size;have:=Bz.size;omega) (fun g hg=>by have:=hoy.base g hg;omega))
     replace HX0:=zh (hg18.bx (HX0.out.below (zAa Bz (by go_grown))) (hoy.off (by omega)))
     have nv1_own18:=hg18.ne (HX1.out.below (zAa Bz (by go_grown))).lt nv1_oy
     replace HX1:=zh (hg18.bx (HX1.out.below (zAa Bz (by go_grown))) nv1_oy)
     have nv2_own18:=hg18.ne (HX2.out.below (zAa Bz (by go_grown))).lt nv2_oy
     replace HX2:=zh (hg18.bx (HX2.out.below (zAa Bz (by go_grown))) nv2_oy)
     have nv3_own18:=hg18.ne (HX3.out.below (zAa Bz (by go_grown))).lt nv3_oy
     replace HX3:=zh (hg18.bx (HX3.out.below (zAa Bz (by go_grown))) nv3_oy)
     have nv4_own18:=hg18.ne (HX4.out.below (zAa Bz (by go_grown))).lt nv4_oy
     replace HX4:=zh (hg18.bx (HX4.out.below (zAa Bz (by go_grown))) nv4_oy)
     have apZY':=hg18.ap hoz apZY
     have apYZ':=apZY'.symm
     replace hoz:=(OwnR.below hoz (by go_grown)).grown hg18 apZY
     clear apZY apYZ
     have apZY:=apZY'
     have apYZ:=apYZ'
     clear apZY' apYZ'
     have apXY':=hg18.ap ho15 apXY
     have apYX':=apXY'.symm
     replace ho15:=(OwnR.below ho15 (by go_grown)).grown hg18 apXY
     clear apXY apYX
     have apXY:=apXY'
     have apYX:=apYX'
     clear apXY' apYX'
     clear hdr hdr2
     replace h14:=h14.k hg18.k
     replace hxs:=hxs.k hg18.k
     clear hg18 Bz
     have Bz:=Below.refl w18.heap.size w18
     obtain⟨p1_0,p1_1,p1_2,p1_3,p1_4,p1_5,p1_6,p1_7,-⟩:=(zx HX1 Bz).cz
     refine hK.out _ _ ⟨p1_0,p1_1,p1_2,p1_3,p1_4,p1_5,p1_6,p1_7⟩ (fun _=>?_)
     try simp only[uW,uX,uY,uZ]
     clear hK K
     refine wpPlan_late (o:=⟨some 89,_,_,_,_,_⟩) rfl rfl (by decide) (fun K hK=>?_)
     have hdr:w18.drew.heap.size=w18.heap.size:=rfl
     have hdr2:w18.drew.drew.heap.size=w18.heap.size:=rfl
     refine Elt.wp elt_frs (.tmp 85) (.tmp 88) rfl (W.heap.size) (.slice H3 i c3) (i) (mstF V P i) rfl hoz (.slice (some ⟨v3,0,none⟩) 1 1) (1) ([x.hi]) rfl (From.one (HX3.out.below (zAa Bz (by go_grown))) (x.hi) rfl (elt_frs.len _)) (by omega) (by have:=hBW.size;have:=Bz.size;omega) ?_
     intro H19 c19 w19 ho19 hg19
     refine hK.out _ _ ?_
     try simp only[uW,uX,uY,uZ]
     clear hK K
     replace hB:=(zAa (zAa hB Bz) (by go_grown)).trans (hg19.below (by have:=zw hB Bz;omega) (fun g hg=>by have:=hoz.base g hg;omega))
     replace hBW:=(zAa (zAa hBW Bz) (by go_grown)).trans (hg19.below (by have:=hBW.size;have:=Bz.size;omega) (fun g hg=>by have:=hoz.base g hg;omega))
     replace HX0:=zh (hg19.bx (HX0.out.below (zAa Bz (by go_grown))) (hoz.off (by omega)))
     have nv1_own19:=hg19.ne (HX1.out.below (zAa Bz (by go_grown))).lt nv1_oz
     replace HX1:=zh (hg19.bx (HX1.out.below (zAa Bz (by go_grown))) nv1_oz)
     have nv2_own19:=hg19.ne (HX2.out.below (zAa Bz (by go_grown))).lt nv2_oz
     replace HX2:=zh (hg19.bx (HX2.out.below (zAa Bz (by go_grown))) nv2_oz)
     have nv3_own19:=hg19.ne (HX3.out.below (zAa Bz (by go_grown))).lt nv3_oz
     replace HX3:=zh (hg19.bx (HX3.out.below (zAa Bz (by go_grown))) nv3_oz)
     have nv4_own19:=hg19.ne (HX4.out.below (zAa Bz (by go_grown))).lt nv4_oz
     replace HX4:=zh (hg19.bx (HX4.out.below (zAa Bz (by go_grown))) nv4_oz)
     have apXZ':=hg19.ap ho15 apXZ
     have apZX':=apXZ'.symm
     replace ho15:=(OwnR.below ho15 (by go_grown)).grown hg19 apXZ
     clear apXZ apZX
     have apXZ:=apXZ'
     have apZX:=apZX'
     clear apXZ' apZX'
     have apYZ':=hg19.ap ho18 apYZ
     have apZY':=apYZ'.symm
     replace ho18:=(OwnR.below ho18 (by go_grown)).grown hg19 apYZ
     clear apYZ apZY
     have apYZ:=apYZ'
     have apZY:=apZY'
     clear apYZ' apZY'
     clear hdr hdr2
     replace h14:=h14.k hg19.k
     replace hxs:=hxs.k hg19.k
     clear hg19 Bz
     have Bz:=Below.refl w19.heap.size w19
     clear p1_0 p1_1 p1_2 p1_3 p1_4 p1_5 p1_6 p1_7
     obtain⟨p1_0,p1_1,p1_2,p1_3,p1_4,p1_5,p1_6,p1_7,-⟩:=(zx HX1 Bz).cz
     iterate 2 (refine zP rfl rfl (fun w'=>by go_simp<;>with_reducible rfl) ?_;try simp only[uW,uX,uY,uZ])
     refine wpPlan_done ?_
     go_wp2_with fail
     go_roundg (vn-(i+1))
     case measure=>have:=HGK.out;omega
     case rel=>exact⟨i+1,H15,H18,H19,c15,c18,c19,X++[⟨s14,A14,c14,l14,s14r,A14r,c14r,l14r,x.lo.q+qof (z:Int) 4*(x.hi.q-x.lo.q),true⟩],by omega,rfl,by rfl,by rfl,by rfl,by go_num,HX0.out.below (zAa Bz (by go_grown)),OwnR.below ho15 (by go_grown),by rw[lstF_pos HVI.out HNG.out];exact OwnR.below ho18 (by go_grown),by rw[mstF_pos HVI.out HNG.out];exact OwnR.below ho19 (by go_grown),apXY,apXZ,apYZ,AllRn.snoc (AllRn.below hxs (by go_grown)) (AllRn.put h14 (by omega)),Btw.snoc HBT.out HXL.out HVI.out (btw_q hz4 HLE.out),zAa (zAa hB Bz) (by go_grown),zAa (zAa hBW Bz) (by go_grown)⟩
  ·obtain rfl:i=vn:=by omega
   obtain⟨vn,hvn0⟩:∃vn,vn=i:=⟨_,rfl⟩
   subst hvn0
   have i1:¬(vn:Int)<(vn:Int):=by omega
   have hpb:∀t∈P,0≤t.1∧t.1<(V.length:Int):=fun t ht=>by
    rw[←hP] at ht
    obtain⟨u,hu,rfl⟩:=prs_mem ht
    have h1:=(rightB_nrm HA.out).2 u hu
    rw[HVL.out]
    exact⟨h1.1,h1.2.1⟩
   have hpr:Rise P:=by rw[←hP];exact(rightB_nrm HA.out).1.rise
   have hsl:=span_le hpb (HXL.out.trans HVL.out.symm) HBT.out
   have hse:=span_ends hpr hpb HBN.out
   rw[HVL.out] at hse
   have HE1:=zh hse.1
   have HE2:=zh hse.2
   obtain⟨z01,HZ1⟩:∃z,Hid (cmpQ (spS minQ (bnds V) P) (pdot P (idxP (X.map fun x=>x.q)))=z):=⟨_,zh rfl⟩
   have hz01:z01≤0:=by rw[←HZ1.out];exact cmpQ_le hsl.1
   obtain⟨z02,HZ2⟩:∃z,Hid (cmpQ (pdot P (idxP (X.map fun x=>x.q))) (spS maxQ (bnds V) P)=z):=⟨_,zh rfl⟩
   have hz02:z02≤0:=by rw[←HZ2.out];exact cmpQ_le hsl.2
   have hks:1+n*(2*(KB+8)+4)≤1000000000:=by have:=Nat.mul_le_mul hn12 (show 2*(KB+8)+4≤2097172 by omega);omega
   have HKS:Hid (1+n*(2*(KB+8)+4)≤9000000000):=zh (by omega)
   have HKK:Hid (1+n*(n*(KB+2)+43+3)≤1000000000):=zh (by
    have h1:=Nat.mul_le_mul hn12 (show KB+2≤1048578 by omega)
    have h2:=Nat.mul_le_mul hn12 (show n*(KB+2)+43+3≤12582982 by omega)
    omega)
   clear hsl hse hpr hpb
   have Bz:=Below.refl wr.heap.size wr
   obtain⟨p0_0,p0_1,p0_2,-⟩:=(zx HX0 Bz).cz
   go_wp2_with fail
   with_reducible refine(span_q (p:=⟨vA,vn,vc,V,rA,rn,rc,RR,cA,cn,cc,C⟩) (PgOk.mono (PgOk.below HOK.out (zAa hB (zAa (b:=wr) Bz (by go_grown)))) (by omega:8≤KB+8)) (ha.below (zAa hB (zAa (b:=wr) Bz (by go_grown)))) (zh fun t ht=>((haf.out t ht).below (zAa hB (zAa (b:=wr) Bz (by go_grown)))).mono (by omega)) (by omega) (by omega) HKS (zh (Tab.below hT.out (zAa hB (zAa (b:=wr) Bz (by go_grown)))))).mono ?_
   rintro e w41 ⟨u41,u41r,rfl,h41,h41r,b41⟩
   replace b41:=zAa (a:=wr) (by go_grown) b41
   replace hox:=hox.below b41
   replace hoy:=hoy.below b41
   replace hoz:=hoz.below b41
   replace hxs:=hxs.below b41
   replace Bz:=zAa Bz b41
   clear b41
   replace h41:NumIs w41 u41 (spS minQ (bnds V) P) (1+n*(2*(KB+8)+4)):=by rw[←hP];exact h41
   replace h41r:NumIs w41 u41r (spS maxQ (bnds V) P) (1+n*(2*(KB+8)+4)):=by rw[←hP];exact h41r
   clear p0_0 p0_1 p0_2
   go_upto_region 16 with(fail)
   obtain⟨V41,hW,x1,x2,hN⟩:=boxes2 w41 #[.bool u41.s,.slice u41.A u41.l u41.c,.bool u41.s',.slice u41.A' u41.l' u41.c'] 33 #[.bool u41r.s,.slice u41r.A u41r.l u41r.c,.bool u41r.s',.slice u41r.A' u41r.l' u41r.c'] 33
   rw[←hW]
   clear hW
   obtain⟨v2,hb2⟩:∃b,b=w41.heap.size+1:=⟨_,rfl⟩
   rw[←hb2] at x2 ⊢
   obtain⟨v1,hb1⟩:∃b,b=w41.heap.size:=⟨_,rfl⟩
   rw[←hb1] at x1 ⊢
   have o0_1:w.heap.size<v1:=by have:=(zx HX0 Bz).lt;omega
   have ow_1:w.heap.size≤v1:=by have:=zw hB Bz;omega
   have o0_2:w.heap.size<v2:=by have:=(zx HX0 Bz).lt;omega
   have o1_2:v1<v2:=by omega
   have ow_2:w.heap.size≤v2:=by have:=zw hB Bz;omega
   replace h41r:=h41r.below hN
   replace h41:=h41.below hN
   replace hox:=hox.below hN
   replace hoy:=hoy.below hN
   replace hoz:=hoz.below hN
   replace hxs:=hxs.below hN
   replace hB:=zAa (zAa hB Bz) hN
   replace HX0:=zh ((zx HX0 Bz).below hN)
   have HX1:=zh x1
   have HX2:=zh x2
   clear x1 x2 hN Bz hb1 hb2
   have Bz:=Below.refl V41.heap.size V41
   go_wp2_with fail
   with_reducible refine(ofV_q ((OwnR.below hox (by go_grown)).sl' elt_frs HXL.out) (zh (AllRn.ok (AllRn.below hxs (by go_grown)))) (by decide) (by omega) (zh (Tab.below hT.out (zAa hB (zAa (b:=V41) Bz (by go_grown)))))).mono ?_
   rintro e w42 ⟨A42,n42,c42,rfl,h42,b42⟩
   replace b42:=zAa (a:=V41) (by go_grown) b42
   replace h41r:=h41r.below b42
   replace h41:=h41.below b42
   replace hoy:=hoy.below b42
   replace hoz:=hoz.below b42
   replace Bz:=zAa Bz b42
   clear b42
   go_wp2_with fail
   have HN42:Hid (n42≤1000):=zh (by have h8:=(NV.len h42);have h9:=nrm_len (idxP (X.map fun x=>x.q));have h7:=idxP_len (X.map fun x=>x.q);have h6:=HXL.out;rw[List.length_map] at h7;omega)
   with_reducible refine(dotW (n*(KB+2)) 43 n 1000000000 (HGV.out.below (zAa hB (zAa (b:=w42) Bz (by go_grown)))) ((NV.below h42 (by go_grown)).gv (nrm_nrm _).rise) (Nat.le_refl _) HN42.out HKK.out (by decide) HGM.out (by decide) (by omega) (zh (Tab.below hT.out (zAa hB (zAa (b:=w42) Bz (by go_grown)))))).mono ?_
   rintro e w43 ⟨s43,A43,c43,l43,s43r,A43r,c43r,l43r,rfl,h43,z43,b43⟩
   replace b43:=zAa (a:=w42) (by go_grown) b43
   replace h41r:=h41r.below b43
   replace h41:=h41.below b43
   replace hoy:=hoy.below b43
   replace hoz:=hoz.below b43
   replace Bz:=zAa Bz b43
   clear b43
   rw[pdot_nrm_right] at h43 z43
   go_upto_region 17 with(fail)
   obtain⟨V42,hW,x3,hN⟩:=zAc w43 #[.bool s43,.slice A43 l43 c43,.bool s43r,.slice A43r l43r c43r] 33
   rw[←hW]
   clear hW
   obtain⟨v3,hb3⟩:∃b,b=w43.heap.size:=⟨_,rfl⟩
   rw[←hb3] at x3 ⊢
   have o0_3:w.heap.size<v3:=by have:=(zx HX0 Bz).lt;omega
   have o1_3:v1<v3:=by have:=(zx HX1 Bz).lt;omega
   have o2_3:v2<v3:=by have:=(zx HX2 Bz).lt;omega
   have ow_3:w.heap.size≤v3:=by have:=zw hB Bz;omega
   replace h41r:=h41r.below hN
   replace h43:=h43.below hN
   replace h41:=h41.below hN
   replace hoy:=hoy.below hN
   replace hoz:=hoz.below hN
   replace hB:=zAa (zAa hB Bz) hN
   replace HX0:=zh ((zx HX0 Bz).below hN)
   replace HX1:=zh ((zx HX1 Bz).below hN)
   replace HX2:=zh ((zx HX2 Bz).below hN)
   have HX3:=zh x3
   clear x3 hN Bz hb3
   have Bz:=Below.refl V42.heap.size V42
   obtain⟨p1_0,p1_1,p1_2,p1_3,-⟩:=(zx HX1 Bz).cz
   obtain⟨p2_0,p2_1,p2_2,p2_3,-⟩:=(zx HX2 Bz).cz
   obtain⟨p3_0,p3_1,p3_2,p3_3,-⟩:=(zx HX3 Bz).cz
   go_wp2_with fail
   (try simp only[List.append_eq,List.cons_append,List.nil_append])
   refine wp_region_plan (.take 0 (.take 1 (.only 2 (.take 3 (.take 4 (.take 5 (.take 6 (.only 7 (.take 8 (.take 9 (.take 10 (.take 11 (.take 12 (.take 13 (.only 14 (.only 15 (.only 16 (.take 17 (.take 18 (.take 19 (.take 20 (.take 21 (.only 22 (.only 23 (.only 24 (.take 25 (.take 26 (.only 27 (.take 28 (.take 29 .done)))))))))))))))))))))))))))))) [] (fun w'=>w'.cell? ⟨v1,0,none⟩=some (.bool u41.s)∧w'.cell? ⟨v1,1,none⟩=some (.slice u41.A u41.l u41.c)∧w'.cell? ⟨v1,2,none⟩=some (.bool u41.s')∧w'.cell? ⟨v1,3,none⟩=some (.slice u41.A' u41.l' u41.c')∧w'.cell? ⟨v2,0,none⟩=some (.bool u41r.s)∧w'.cell? ⟨v2,1,none⟩=some (.slice u41r.A u41r.l u41r.c)∧w'.cell? ⟨v2,2,none⟩=some (.bool u41r.s')∧w'.cell? ⟨v2,3,none⟩=some (.slice u41r.A' u41r.l' u41r.c')∧w'.cell? ⟨v3,0,none⟩=some (.bool s43)∧w'.cell? ⟨v3,1,none⟩=some (.slice A43 l43 c43)∧w'.cell? ⟨v3,2,none⟩=some (.bool s43r)∧w'.cell? ⟨v3,3,none⟩=some (.slice A43r l43r c43r)) (by kernel_rfl) (by kernel_rfl) ⟨p1_0,p1_1,p1_2,p1_3,p2_0,p2_1,p2_2,p2_3,p3_0,p3_1,p3_2,p3_3⟩ ?_
   iterate 2 (refine zT rfl rfl (fun w' ⟨p1_0,p1_1,p1_2,p1_3,p2_0,p2_1,p2_2,p2_3,p3_0,p3_1,p3_2,p3_3⟩=>by go_simp<;>with_reducible rfl) ?_;try simp only[uW,uX,uY,uZ])
   refine zC 103 rfl rfl (fun K hK=>?_)
   go_simp
   with_reducible refine(cmp_q (NumIs.rr (NumIs.below h41 (by go_grown))) (RN.r' (RN.below h43 (by go_grown)) z43) (by omega) z01 HZ1).mono ?_
   rintro e w44 ⟨rfl,b44⟩
   replace b44:=zAa (a:=V42) (by go_grown) b44
   replace h41r:=h41r.below b44
   replace h43:=h43.below b44
   replace h41:=h41.below b44
   replace hoy:=hoy.below b44
   replace hoz:=hoz.below b44
   replace Bz:=zAa Bz b44
   clear b44
   clear p1_0 p1_1 p1_2 p1_3 p2_0 p2_1 p2_2 p2_3 p3_0 p3_1 p3_2 p3_3
   obtain⟨p1_0,p1_1,p1_2,p1_3,-⟩:=(zx HX1 Bz).cz
   obtain⟨p2_0,p2_1,p2_2,p2_3,-⟩:=(zx HX2 Bz).cz
   obtain⟨p3_0,p3_1,p3_2,p3_3,-⟩:=(zx HX3 Bz).cz
   refine hK.out _ _ ⟨p1_0,p1_1,p1_2,p1_3,p2_0,p2_1,p2_2,p2_3,p3_0,p3_1,p3_2,p3_3⟩ (fun _=>?_)
   try simp only[uW,uX,uY,uZ]
   clear hK K
   iterate 4 (refine zT rfl rfl (fun w' ⟨p1_0,p1_1,p1_2,p1_3,p2_0,p2_1,p2_2,p2_3,p3_0,p3_1,p3_2,p3_3⟩=>by go_simp<;>with_reducible rfl) ?_;try simp only[uW,uX,uY,uZ])
   refine zC 108 rfl rfl (fun K hK=>?_)
   go_simp
   with_reducible refine(cmp_q (RN.r' (RN.below h43 (by go_grown)) z43) (NumIs.rr (NumIs.below h41r (by go_grown))) (by omega) z02 HZ2).mono ?_
   rintro e w45 ⟨rfl,b45⟩
   replace b45:=zAa (a:=w44) (by go_grown) b45
   replace h41r:=h41r.below b45
   replace h41:=h41.below b45
   replace hoy:=hoy.below b45
   replace hoz:=hoz.below b45
   replace Bz:=zAa Bz b45
   clear b45
   clear p1_0 p1_1 p1_2 p1_3 p2_0 p2_1 p2_2 p2_3 p3_0 p3_1 p3_2 p3_3
   obtain⟨p1_0,p1_1,p1_2,p1_3,-⟩:=(zx HX1 Bz).cz
   obtain⟨p2_0,p2_1,p2_2,p2_3,-⟩:=(zx HX2 Bz).cz
   obtain⟨p3_0,p3_1,p3_2,p3_3,-⟩:=(zx HX3 Bz).cz
   refine hK.out _ _ ⟨p1_0,p1_1,p1_2,p1_3,p2_0,p2_1,p2_2,p2_3,p3_0,p3_1,p3_2,p3_3⟩ (fun _=>?_)
   try simp only[uW,uX,uY,uZ]
   clear hK K
   iterate 6 (refine zT rfl rfl (fun w' ⟨p1_0,p1_1,p1_2,p1_3,p2_0,p2_1,p2_2,p2_3,p3_0,p3_1,p3_2,p3_3⟩=>by go_simp<;>with_reducible rfl) ?_;try simp only[uW,uX,uY,uZ])
   refine zC 115 rfl rfl (fun K hK=>?_)
   go_simp
   with_reducible refine(ofV_q ((OwnR.below hoy (by go_grown)).sl' elt_frs (lst_len V P vn)) (zh (lst_ok (fun x hx=>(HVO.out x hx).below (zAa hB (zAa (b:=w45) Bz (by go_grown)))))) (by decide) (by omega) (zh (Tab.below hT.out (zAa hB (zAa (b:=w45) Bz (by go_grown)))))).mono ?_
   rintro e w46 ⟨A46,n46,c46,rfl,h46,b46⟩
   replace b46:=zAa (a:=w45) (by go_grown) b46
   replace h41r:=h41r.below b46
   replace h41:=h41.below b46
   replace hoz:=hoz.below b46
   replace Bz:=zAa Bz b46
   clear b46
   clear p1_0 p1_1 p1_2 p1_3 p2_0 p2_1 p2_2 p2_3 p3_0 p3_1 p3_2 p3_3
   obtain⟨p1_0,p1_1,p1_2,p1_3,-⟩:=(zx HX1 Bz).cz
   obtain⟨p2_0,p2_1,p2_2,p2_3,-⟩:=(zx HX2 Bz).cz
   obtain⟨p3_0,p3_1,p3_2,p3_3,-⟩:=(zx HX3 Bz).cz
   refine hK.out _ _ ⟨p1_0,p1_1,p1_2,p1_3,p2_0,p2_1,p2_2,p2_3,p3_0,p3_1,p3_2,p3_3⟩ (fun _=>?_)
   try simp only[uW,uX,uY,uZ]
   clear hK K
   refine zC 116 rfl rfl (fun K hK=>?_)
   go_simp
   have HN46:Hid (n46≤1000):=zh (by have h8:=(NV.len h46);have h9:=nrm_len (idxP ((lstF V P vn).map fun x=>x.q));have h7:=idxP_len ((lstF V P vn).map fun x=>x.q);have h6:=(lst_len V P vn);rw[List.length_map] at h7;omega)
   with_reducible refine(dotW (n*(KB+2)) 43 n 1000000000 (HGV.out.below (zAa hB (zAa (b:=w46) Bz (by go_grown)))) ((NV.below h46 (by go_grown)).gv (nrm_nrm _).rise) (Nat.le_refl _) HN46.out HKK.out (by decide) HGM.out (by decide) (by omega) (zh (Tab.below hT.out (zAa hB (zAa (b:=w46) Bz (by go_grown)))))).mono ?_
   rintro e w47 ⟨s47,A47,c47,l47,s47r,A47r,c47r,l47r,rfl,h47,z47,b47⟩
   replace b47:=zAa (a:=w46) (by go_grown) b47
   replace h41r:=h41r.below b47
   replace h41:=h41.below b47
   replace hoz:=hoz.below b47
   replace Bz:=zAa Bz b47
   clear b47
   rw[pdot_nrm_right] at h47 z47
   clear p1_0 p1_1 p1_2 p1_3 p2_0 p2_1 p2_2 p2_3 p3_0 p3_1 p3_2 p3_3
   obtain⟨p1_0,p1_1,p1_2,p1_3,-⟩:=(zx HX1 Bz).cz
   obtain⟨p2_0,p2_1,p2_2,p2_3,-⟩:=(zx HX2 Bz).cz
   obtain⟨p3_0,p3_1,p3_2,p3_3,-⟩:=(zx HX3 Bz).cz
   refine hK.out _ _ ⟨p1_0,p1_1,p1_2,p1_3,p2_0,p2_1,p2_2,p2_3,p3_0,p3_1,p3_2,p3_3⟩ (fun _=>?_)
   try simp only[uW,uX,uY,uZ]
   clear hK K
   refine zC 117 rfl rfl (fun K hK=>?_)
   go_simp
   with_reducible refine(same_q (NumIs.rr (NumIs.below h41 (by go_grown))) (RN.r' (RN.below h47 (by go_grown)) z47) (by omega) true (zh (decide_eq_true HE1.out))).mono ?_
   rintro e w48 ⟨rfl,b48⟩
   replace b48:=zAa (a:=w47) (by go_grown) b48
   replace h41r:=h41r.below b48
   replace hoz:=hoz.below b48
   replace Bz:=zAa Bz b48
   clear b48
   clear p1_0 p1_1 p1_2 p1_3 p2_0 p2_1 p2_2 p2_3 p3_0 p3_1 p3_2 p3_3
   obtain⟨p1_0,p1_1,p1_2,p1_3,-⟩:=(zx HX1 Bz).cz
   obtain⟨p2_0,p2_1,p2_2,p2_3,-⟩:=(zx HX2 Bz).cz
   obtain⟨p3_0,p3_1,p3_2,p3_3,-⟩:=(zx HX3 Bz).cz
   refine hK.out _ _ ⟨p1_0,p1_1,p1_2,p1_3,p2_0,p2_1,p2_2,p2_3,p3_0,p3_1,p3_2,p3_3⟩ (fun _=>?_)
   try simp only[uW,uX,uY,uZ]
   clear hK K
   iterate 5 (refine zT rfl rfl (fun w' ⟨p1_0,p1_1,p1_2,p1_3,p2_0,p2_1,p2_2,p2_3,p3_0,p3_1,p3_2,p3_3⟩=>by go_simp<;>with_reducible rfl) ?_;try simp only[uW,uX,uY,uZ])
   refine zC 123 rfl rfl (fun K hK=>?_)
   go_simp
   with_reducible refine(ofV_q ((OwnR.below hoz (by go_grown)).sl' elt_frs (mst_len V P vn)) (zh (mst_ok (fun x hx=>(HVO.out x hx).below (zAa hB (zAa (b:=w48) Bz (by go_grown)))))) (by decide) (by omega) (zh (Tab.below hT.out (zAa hB (zAa (b:=w48) Bz (by go_grown)))))).mono ?_
   rintro e w49 ⟨A49,n49,c49,rfl,h49,b49⟩
   replace b49:=zAa (a:=w48) (by go_grown) b49
   replace h41r:=h41r.below b49
   replace Bz:=zAa Bz b49
   clear b49
   clear p1_0 p1_1 p1_2 p1_3 p2_0 p2_1 p2_2 p2_3 p3_0 p3_1 p3_2 p3_3
   obtain⟨p1_0,p1_1,p1_2,p1_3,-⟩:=(zx HX1 Bz).cz
   obtain⟨p2_0,p2_1,p2_2,p2_3,-⟩:=(zx HX2 Bz).cz
   obtain⟨p3_0,p3_1,p3_2,p3_3,-⟩:=(zx HX3 Bz).cz
   refine hK.out _ _ ⟨p1_0,p1_1,p1_2,p1_3,p2_0,p2_1,p2_2,p2_3,p3_0,p3_1,p3_2,p3_3⟩ (fun _=>?_)
   try simp only[uW,uX,uY,uZ]
   clear hK K
   refine zC 124 rfl rfl (fun K hK=>?_)
   go_simp
   have HN49:Hid (n49≤1000):=zh (by have h8:=(NV.len h49);have h9:=nrm_len (idxP ((mstF V P vn).map fun x=>x.q));have h7:=idxP_len ((mstF V P vn).map fun x=>x.q);have h6:=(mst_len V P vn);rw[List.length_map] at h7;omega)
   with_reducible refine(dotW (n*(KB+2)) 43 n 1000000000 (HGV.out.below (zAa hB (zAa (b:=w49) Bz (by go_grown)))) ((NV.below h49 (by go_grown)).gv (nrm_nrm _).rise) (Nat.le_refl _) HN49.out HKK.out (by decide) HGM.out (by decide) (by omega) (zh (Tab.below hT.out (zAa hB (zAa (b:=w49) Bz (by go_grown)))))).mono ?_
   rintro e w50 ⟨s50,A50,c50,l50,s50r,A50r,c50r,l50r,rfl,h50,z50,b50⟩
   replace b50:=zAa (a:=w49) (by go_grown) b50
   replace h41r:=h41r.below b50
   replace Bz:=zAa Bz b50
   clear b50
   rw[pdot_nrm_right] at h50 z50
   clear p1_0 p1_1 p1_2 p1_3 p2_0 p2_1 p2_2 p2_3 p3_0 p3_1 p3_2 p3_3
   obtain⟨p1_0,p1_1,p1_2,p1_3,-⟩:=(zx HX1 Bz).cz
   obtain⟨p2_0,p2_1,p2_2,p2_3,-⟩:=(zx HX2 Bz).cz
   obtain⟨p3_0,p3_1,p3_2,p3_3,-⟩:=(zx HX3 Bz).cz
   refine hK.out _ _ ⟨p1_0,p1_1,p1_2,p1_3,p2_0,p2_1,p2_2,p2_3,p3_0,p3_1,p3_2,p3_3⟩ (fun _=>?_)
   try simp only[uW,uX,uY,uZ]
   clear hK K
   refine zC 125 rfl rfl (fun K hK=>?_)
   go_simp
   with_reducible refine(same_q (NumIs.rr (NumIs.below h41r (by go_grown))) (RN.r' (RN.below h50 (by go_grown)) z50) (by omega) true (zh (decide_eq_true HE2.out))).mono ?_
   rintro e w51 ⟨rfl,b51⟩
   replace b51:=zAa (a:=w50) (by go_grown) b51
   replace Bz:=zAa Bz b51
   clear b51
   clear p1_0 p1_1 p1_2 p1_3 p2_0 p2_1 p2_2 p2_3 p3_0 p3_1 p3_2 p3_3
   obtain⟨p1_0,p1_1,p1_2,p1_3,-⟩:=(zx HX1 Bz).cz
   obtain⟨p2_0,p2_1,p2_2,p2_3,-⟩:=(zx HX2 Bz).cz
   obtain⟨p3_0,p3_1,p3_2,p3_3,-⟩:=(zx HX3 Bz).cz
   refine hK.out _ _ ⟨p1_0,p1_1,p1_2,p1_3,p2_0,p2_1,p2_2,p2_3,p3_0,p3_1,p3_2,p3_3⟩ (fun _=>?_)
   try simp only[uW,uX,uY,uZ]
   clear hK K
   iterate 2 (refine zT rfl rfl (fun w' ⟨p1_0,p1_1,p1_2,p1_3,p2_0,p2_1,p2_2,p2_3,p3_0,p3_1,p3_2,p3_3⟩=>by go_simp<;>with_reducible rfl) ?_;try simp only[uW,uX,uY,uZ])
   refine zC 128 rfl rfl (fun K hK=>?_)
   go_simp
   with_reducible refine(awake15_q (zh (Tab.below hT.out (zAa hB (zAa (b:=w51) Bz (by go_grown)))))).mono ?_
   rintro e w52 ⟨rfl,b52⟩
   replace b52:=zAa (a:=w51) (by go_grown) b52
   replace Bz:=zAa Bz b52
   clear b52
   clear p1_0 p1_1 p1_2 p1_3 p2_0 p2_1 p2_2 p2_3 p3_0 p3_1 p3_2 p3_3
   obtain⟨p1_0,p1_1,p1_2,p1_3,-⟩:=(zx HX1 Bz).cz
   obtain⟨p2_0,p2_1,p2_2,p2_3,-⟩:=(zx HX2 Bz).cz
   obtain⟨p3_0,p3_1,p3_2,p3_3,-⟩:=(zx HX3 Bz).cz
   refine hK.out _ _ ⟨p1_0,p1_1,p1_2,p1_3,p2_0,p2_1,p2_2,p2_3,p3_0,p3_1,p3_2,p3_3⟩ (fun _=>?_)
   try simp only[uW,uX,uY,uZ]
   clear hK K
   iterate 2 (refine zT rfl rfl (fun w' ⟨p1_0,p1_1,p1_2,p1_3,p2_0,p2_1,p2_2,p2_3,p3_0,p3_1,p3_2,p3_3⟩=>by go_simp<;>with_reducible rfl) ?_;try simp only[uW,uX,uY,uZ])
   refine wpPlan_done ?_
   go_wp2_with fail
   go_ret
   have hF:=zAa (c:=w52) hB Bz
   exact⟨rfl,zAa hF (by go_grown)⟩
end Go.Proofs.YtjkgjiofmgapfaaGreatDoor
