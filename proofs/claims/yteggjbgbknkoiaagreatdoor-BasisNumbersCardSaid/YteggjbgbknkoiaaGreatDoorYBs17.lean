import Derived.Test.YteggjbgbknkoiaaGreatDoorYBs13
import Derived.Test.YteggjbgbknkoiaaGreatDoorYTx
import Derived.Test.YteggjbgbknkoiaaGreatDoorYTab3
set_option maxHeartbeats 32000000
set_option maxRecDepth 100000
namespace Go.Proofs.YteggjbgbknkoiaaGreatDoor
open Go.RowKit Tw
theorem rightB_bad {a n:Int} {s s':Bool} {A A':Option Addr} {l c l' c':Nat} {q:Rat} (h:(decide (0≤a)&&decide (a<n)&&decide (q≠0))=false):rightB [⟨a,⟨s,A,c,l,s',A',c',l',q,true⟩⟩] n=false:=by
 have e:rightB [⟨a,⟨s,A,c,l,s',A',c',l',q,true⟩⟩] n=(decide (0≤a)&&decide (a<n)&&true&&decide (q≠0)&&true&&true):=rfl;rw[e,Bool.and_true,Bool.and_true,Bool.and_true,h]
theorem cb_first {w:World} {B g n M:Nat} {V:List Vc} {D:List (List (Int×Rat))} (ho:OwnR w B 35 1 (.slice (some ⟨g,0,none⟩) n n) n (flat Vc.cs V)) (hv:CVs w (.slice (some ⟨g,0,none⟩) n n) M V) (hm:V.map (fun v=>prs v.L)=D) (a:Int) (q:Rat) (hD:D.head?=some [(a,q)]) :
  ∃tb tp tc s A l c s' A' l' c',w.cell? ⟨g,0,none⟩=some (.slice (some ⟨tb,tp,none⟩) 1 tc)∧w.cell? ⟨tb,tp,none⟩=some (.int .i64 a)∧w.cell? ⟨tb,tp+1,none⟩=some (.bool s)∧w.cell? ⟨tb,tp+2,none⟩=some (.slice A l c)∧w.cell? ⟨tb,tp+3,none⟩=some (.bool s')∧w.cell? ⟨tb,tp+4,none⟩=some (.slice A' l' c')∧RN w s A c l s' A' c' l' q:=by
 subst hm;obtain⟨v,V',rfl⟩:∃v V',V=v :: V':=by
  cases V with
  | nil=>cases hD
  | cons v V'=>exact⟨v,V',rfl⟩
 have hp:prs v.L=[(a,q)]:=by simpa using hD
 obtain⟨h1,h2,_⟩:=(hv v qA).1;obtain⟨t,ht⟩:∃t,v.L=[t]:=by
  have h3:=congrArg List.length hp;rw[prs_len] at h3;exact List.length_eq_one_iff.1 h3
 have hn:v.n=1:=h1.1.symm.trans (by rw[ht];rfl);rw[ht] at hp h2;obtain⟨rfl,rfl⟩:t.at_=a∧t.x.q=q:=by simpa [prs] using hp
 obtain⟨tb,tp,hA,hel⟩:=h1.at Tm.cs_len zo zo;have he:=hel 0 t (by rw[ht];rfl);have hc:w.cell? ⟨g,0,none⟩=some (.slice v.A v.n v.c):=elt_vcs.cell ho (i:=0) (j:=0) (x:=v) rfl zo rfl;rw[hA,hn] at hc;exact⟨tb,tp,v.c,_,_,_,_,_,_,_,_,hc,he 0 _ rfl,he 1 _ rfl,he 2 _ rfl,he 3 _ rfl,he 4 _ rfl,(h2 t qA).1⟩
theorem basisNumbers_q {w:World} (hT:Hid (Tab w)):Calls Tryz.prog 5 #[] w (Yes w):=by
 have hB:=Below.refl w.heap.size w;have Bz:=zr w;go_enter Tryz.func5,Tryz.ntmps5
 go_wp2_with fail
 with_reducible refine(term8_q (0) (1) (zh zo) (zt hT hB Bz)).mono ?_
 rintro e w1 ⟨s1,A1,c1,l1,s1r,A1r,c1r,l1r,rfl,h1,q⟩;replace q:=zq (a:=w) q;replace Bz:=bT Bz q;clear q;go_wp2_with fail
 obtain⟨V1,hW,x0,hN⟩:=zAc w1 #[.int .i64 0,.bool s1,.slice A1 l1 c1,.bool s1r,.slice A1r l1r c1r] 32;rw[←hW];clear hW;obtain⟨v0,hb0⟩:=ze w1.heap.size;rw[←hb0] at x0 ⊢;have ow_0:w.heap.size≤v0:=zi (zww hB Bz);replace h1:=h1.below hN;replace hB:=bT (bT hB Bz) hN;have HX0:=zh x0;clear x0 hN Bz hb0;have Bz:=zr V1;with_reducible refine(term8_q (1) (1) (zh zo) (zt hT hB Bz)).mono ?_
 rintro e w2 ⟨s2,A2,c2,l2,s2r,A2r,c2r,l2r,rfl,h2,q⟩;replace q:=zq (a:=V1) q;replace h1:=h1.below q;replace Bz:=bT Bz q;clear q;go_upto_region 2 with(fail)
 obtain⟨V2,hW,x1,hN⟩:=zAc w2 #[.int .i64 1,.bool s2,.slice A2 l2 c2,.bool s2r,.slice A2r l2r c2r] 32;have hs1:V2.heap.size=w2.heap.size+1:=by rw[hW];simp
 rw[←hW];clear hW;obtain⟨v1,hb1⟩:=ze w2.heap.size;rw[←hb1] at x1 hs1 ⊢;have ow_1:w.heap.size≤v1:=zi (zww hB Bz);replace h1:=h1.below hN;replace h2:=h2.below hN;replace hB:=bT (bT hB Bz) hN;replace HX0:=zba HX0 Bz hN;have HX1:=zh x1;clear x1 hN Bz hb1;have Bz:=zr V2;obtain⟨V3,hW,x2,hN⟩:=zAc V2 #[.slice (some ⟨v0,0,none⟩) 1 1,.slice (some ⟨v1,0,none⟩) 1 1] 35;have hs2:V3.heap.size=V2.heap.size+1:=by rw[hW];simp
 rw[←hW];clear hW;rw[hs1] at x2 hs2;obtain⟨v2,hb2⟩:=ze (v1+1);rw[←hb2] at x2 hs2  ⊢;have ow_2:w.heap.size≤v2:=zi (zww hB Bz);replace h1:=h1.below hN;replace h2:=h2.below hN;replace hB:=bT (bT hB Bz) hN;replace HX0:=zba HX0 Bz hN;replace HX1:=zba HX1 Bz hN;have HX2:=zh x2;clear x2 hN Bz hb2;have Bz:=zr V3;clear hs1;go_wp2_with fail
 with_reducible refine(bnew_most (z:=2) (m:=0) zd).mono ?_
 rintro e w3 ⟨rfl,q⟩;replace q:=zq (a:=V3) q;replace h1:=h1.below q;replace h2:=h2.below q;replace Bz:=bT Bz q;clear q;go_wp2_with fail
 with_reducible refine(bnew_most (z:=2) (m:=101) zd).mono ?_
 rintro e w4 ⟨rfl,q⟩;replace q:=zq (a:=w3) q;replace h1:=h1.below q;replace h2:=h2.below q;replace Bz:=bT Bz q;clear q;go_wp2_with fail
 with_reducible refine(bnew_err2 (z:=2) (m:=5) zd zd (fun _=>factor_no (2) zd)).mono ?_
 rintro e w5 ⟨rfl,q⟩;replace q:=zq (a:=w4) q;replace h1:=h1.below q;replace h2:=h2.below q;replace Bz:=bT Bz q;clear q;go_wp2_with fail
 with_reducible refine(term8_q (0) (1) (zh zo) (zt hT hB Bz)).mono ?_
 rintro e w6 ⟨s6,A6,c6,l6,s6r,A6r,c6r,l6r,rfl,h6,q⟩;replace q:=zq (a:=w5) q;replace h1:=h1.below q;replace h2:=h2.below q;replace Bz:=bT Bz q;clear q;go_wp2_with fail
 obtain⟨V4,hW,x3,hN⟩:=zAc w6 #[.int .i64 0,.bool s6,.slice A6 l6 c6,.bool s6r,.slice A6r l6r c6r] 32;rw[←hW];clear hW;obtain⟨v3,hb3⟩:=ze w6.heap.size;rw[←hb3] at x3 ⊢;have ow_3:w.heap.size≤v3:=zi (zww hB Bz);replace h1:=h1.below hN;replace h2:=h2.below hN;replace h6:=h6.below hN;replace hB:=bT (bT hB Bz) hN;replace HX0:=zba HX0 Bz hN;replace HX1:=zba HX1 Bz hN;replace HX2:=zba HX2 Bz hN;have HX3:=zh x3;clear x3 hN Bz hb3;have Bz:=zr V4;with_reducible refine(term8_q (0) (1) (zh zo) (zt hT hB Bz)).mono ?_
 rintro e w7 ⟨s7,A7,c7,l7,s7r,A7r,c7r,l7r,rfl,h7,q⟩;replace q:=zq (a:=V4) q;replace h1:=h1.below q;replace h2:=h2.below q;replace h6:=h6.below q;replace Bz:=bT Bz q;clear q;go_wp2_with fail
 obtain⟨V5,hW,x4,hN⟩:=zAc w7 #[.int .i64 0,.bool s7,.slice A7 l7 c7,.bool s7r,.slice A7r l7r c7r] 32;have hs4:V5.heap.size=w7.heap.size+1:=by rw[hW];simp
 rw[←hW];clear hW;obtain⟨v4,hb4⟩:=ze w7.heap.size;rw[←hb4] at x4 hs4 ⊢;have ow_4:w.heap.size≤v4:=zi (zww hB Bz);replace h1:=h1.below hN;replace h2:=h2.below hN;replace h6:=h6.below hN;replace h7:=h7.below hN;replace hB:=bT (bT hB Bz) hN;replace HX0:=zba HX0 Bz hN;replace HX1:=zba HX1 Bz hN;replace HX2:=zba HX2 Bz hN;replace HX3:=zba HX3 Bz hN;have HX4:=zh x4;clear x4 hN Bz hb4;have Bz:=zr V5;obtain⟨V6,hW,x5,hN⟩:=zAc V5 #[.slice (some ⟨v3,0,none⟩) 1 1,.slice (some ⟨v4,0,none⟩) 1 1] 35;have hs5:V6.heap.size=V5.heap.size+1:=by rw[hW];simp
 rw[←hW];clear hW;rw[hs4] at x5 hs5;obtain⟨v5,hb5⟩:=ze (v4+1);rw[←hb5] at x5 hs5  ⊢;have ow_5:w.heap.size≤v5:=zi (zww hB Bz);replace h1:=h1.below hN;replace h2:=h2.below hN;replace h6:=h6.below hN;replace h7:=h7.below hN;replace hB:=bT (bT hB Bz) hN;replace HX0:=zba HX0 Bz hN;replace HX1:=zba HX1 Bz hN;replace HX2:=zba HX2 Bz hN;replace HX3:=zba HX3 Bz hN;replace HX4:=zba HX4 Bz hN;have HX5:=zh x5;clear x5 hN Bz hb5;have Bz:=zr V6;clear hs4;with_reducible refine(bnew_err12 (z:=2) (m:=5) zd zd (fun hb=>factorSing (C:=[[(0,qof (1) 1)],[(0,qof (1) 1)]]) (CM.below (cm_lit (n:=2) (M:=2) [⟨some ⟨v3,0,none⟩,1,1,[⟨0,⟨s6,A6,c6,l6,s6r,A6r,c6r,l6r,qof (1) 1,true⟩⟩]⟩,⟨some ⟨v4,0,none⟩,1,1,[⟨0,⟨s7,A7,c7,l7,s7r,A7r,c7r,l7r,qof (1) 1,true⟩⟩]⟩] (HX5.out.below (bT Bz)) rfl rfl (cns_cons (v:=⟨some ⟨v3,0,none⟩,1,1,[⟨0,⟨s6,A6,c6,l6,s6r,A6r,c6r,l6r,qof (1) 1,true⟩⟩]⟩) (cn_mk (sl_lit (HX3.out.below (bT Bz)) rfl rfl) (OnT.c 0 (RN.below h6) (sz_one zd zd zd) (OnT.nil _ _)) (fun h=>(by cases h))) (cns_cons (v:=⟨some ⟨v4,0,none⟩,1,1,[⟨0,⟨s7,A7,c7,l7,s7r,A7r,c7r,l7r,qof (1) 1,true⟩⟩]⟩) (cn_mk (sl_lit (HX4.out.below (bT Bz)) rfl rfl) (OnT.c 0 (RN.below h7) (sz_one zd zd zd) (OnT.nil _ _)) (fun h=>(by cases h))) (cns_nil _ _))) [[(0,qof (1) 1)],[(0,qof (1) 1)]] rfl) hb) (by decide +kernel) zd (by decide +kernel) (by decide +kernel) (by decide +kernel) 2 rfl (zh (((zt hT hB Bz)).out.below hb)))).mono ?_
 rintro e w8 ⟨rfl,q⟩;replace q:=zq (a:=V6) q;replace h1:=h1.below q;replace h2:=h2.below q;replace Bz:=bT Bz q;clear q;go_wp2_with fail
 have hpz:w.heap.size≤w8.heap.size:=zi (zww hB Bz);with_reducible refine(bnewL (av:=noAv) (C:=[[(0,qof (1) 1)],[(1,qof (1) 1)]]) (most:=100) (z:=2) (m:=100) (CM.tight (cm_lit (n:=2) (M:=2) [⟨some ⟨v0,0,none⟩,1,1,[⟨0,⟨s1,A1,c1,l1,s1r,A1r,c1r,l1r,qof (1) 1,true⟩⟩]⟩,⟨some ⟨v1,0,none⟩,1,1,[⟨1,⟨s2,A2,c2,l2,s2r,A2r,c2r,l2r,qof (1) 1,true⟩⟩]⟩] (HX2.out.below (bT Bz)) rfl rfl (cns_cons (v:=⟨some ⟨v0,0,none⟩,1,1,[⟨0,⟨s1,A1,c1,l1,s1r,A1r,c1r,l1r,qof (1) 1,true⟩⟩]⟩) (cn_mk (sl_lit (HX0.out.below (bT Bz)) rfl rfl) (OnT.c 0 (RN.below h1) (sz_one zd zd zd) (OnT.nil _ _)) (fun h=>(by cases h))) (cns_cons (v:=⟨some ⟨v1,0,none⟩,1,1,[⟨1,⟨s2,A2,c2,l2,s2r,A2r,c2r,l2r,qof (1) 1,true⟩⟩]⟩) (cn_mk (sl_lit (HX1.out.below (bT Bz)) rfl rfl) (OnT.c 1 (RN.below h2) (sz_one zd zd zd) (OnT.nil _ _)) (fun h=>(by cases h))) (cns_nil _ _))) [[(0,qof (1) 1)],[(1,qof (1) 1)]] rfl) (by decide +kernel)) (by decide +kernel) zd (by decide +kernel) (by decide +kernel) zd zd rfl rfl (zt hT hB Bz)).mono ?_
 rintro e w9 ⟨bb9,AA9,rfl,hge9,h9,q⟩;replace q:=zq (a:=w8) q;replace Bz:=bT Bz q;clear q;have hbz9:w.heap.size≤bb9:=zo;clear hpz hge9;go_wp2_with fail
 with_reducible refine(bsizeL (BsOk.below h9) 2 rfl).mono ?_
 rintro e w10 ⟨rfl,q⟩;replace q:=zq (a:=w9) q;replace h9:=h9.below q;replace Bz:=bT Bz q;clear q;go_wp2_with fail
 with_reducible refine(brep_out (BsOk.below h9) (z:=2) zd).mono ?_
 rintro e w11 ⟨rfl,q⟩;replace q:=zq (a:=w10) q;replace h9:=h9.below q;replace Bz:=bT Bz q;clear q;go_wp2_with fail
 with_reducible refine(brep_out (BsOk.below h9) (z:=-1) zd).mono ?_
 rintro e w12 ⟨rfl,q⟩;replace q:=zq (a:=w11) q;replace h9:=h9.below q;replace Bz:=bT Bz q;clear q;go_wp2_with fail
 with_reducible refine(term8_q (2) (1) (zh zo) (zt hT hB Bz)).mono ?_
 rintro e w13 ⟨s13,A13,c13,l13,s13r,A13r,c13r,l13r,rfl,h13,q⟩;replace q:=zq (a:=w12) q;replace h9:=h9.below q;replace Bz:=bT Bz q;clear q;go_wp2_with fail
 obtain⟨V7,hW,x6,hN⟩:=zAc w13 #[.int .i64 2,.bool s13,.slice A13 l13 c13,.bool s13r,.slice A13r l13r c13r] 32;rw[←hW];clear hW;obtain⟨v6,hb6⟩:=ze w13.heap.size;rw[←hb6] at x6 ⊢;have ow_6:w.heap.size≤v6:=zi (zww hB Bz);replace h13:=h13.below hN;replace h9:=h9.below hN;replace hB:=bT (bT hB Bz) hN;replace HX0:=zba HX0 Bz hN;replace HX1:=zba HX1 Bz hN;replace HX2:=zba HX2 Bz hN;replace HX3:=zba HX3 Bz hN;replace HX4:=zba HX4 Bz hN;replace HX5:=zba HX5 Bz hN;have HX6:=zh x6;clear x6 hN Bz hb6;have Bz:=zr V7;with_reducible refine(brepL_bad (T:=[⟨2,⟨s13,A13,c13,l13,s13r,A13r,c13r,l13r,qof (1) 1,true⟩⟩]) (BsOk.below h9) (r:=0) (z:=0) rfl zd (sl_litG (n:=1) Tm.cs_len (HX6.out.below (bT Bz)) rfl rfl) (OnT.fr (OnT.c 2 (RN.below h13) (sz_one zd zd zd) (OnT.nil _ _)) (fun _=>aA 2)) (Nat.le_of_ble_eq_true rfl) (zh (rightB_bad (by decide +kernel))) (zt hT hB Bz)).mono ?_
 rintro e w14 ⟨rfl,q⟩;replace q:=zq (a:=V7) q;replace h9:=h9.below q;replace Bz:=bT Bz q;clear q;go_wp2_with fail
 with_reducible refine(term8_q (0) (0) (zh zo) (zt hT hB Bz)).mono ?_
 rintro e w15 ⟨s15,A15,c15,l15,s15r,A15r,c15r,l15r,rfl,h15,q⟩;replace q:=zq (a:=w14) q;replace h9:=h9.below q;replace Bz:=bT Bz q;clear q;go_wp2_with fail
 obtain⟨V8,hW,x7,hN⟩:=zAc w15 #[.int .i64 0,.bool s15,.slice A15 l15 c15,.bool s15r,.slice A15r l15r c15r] 32;rw[←hW];clear hW;obtain⟨v7,hb7⟩:=ze w15.heap.size;rw[←hb7] at x7 ⊢;have ow_7:w.heap.size≤v7:=zi (zww hB Bz);replace h15:=h15.below hN;replace h9:=h9.below hN;replace hB:=bT (bT hB Bz) hN;replace HX0:=zba HX0 Bz hN;replace HX1:=zba HX1 Bz hN;replace HX2:=zba HX2 Bz hN;replace HX3:=zba HX3 Bz hN;replace HX4:=zba HX4 Bz hN;replace HX5:=zba HX5 Bz hN;replace HX6:=zba HX6 Bz hN;have HX7:=zh x7;clear x7 hN Bz hb7;have Bz:=zr V8;with_reducible refine(brepL_bad (T:=[⟨0,⟨s15,A15,c15,l15,s15r,A15r,c15r,l15r,qof (0) 1,true⟩⟩]) (BsOk.below h9) (r:=0) (z:=0) rfl zd (sl_litG (n:=1) Tm.cs_len (HX7.out.below (bT Bz)) rfl rfl) (OnT.fr (OnT.c 0 (RN.below h15) (sz_one zd zd zd) (OnT.nil _ _)) (fun _=>aA 2)) (Nat.le_of_ble_eq_true rfl) (zh (rightB_bad (by decide +kernel))) (zt hT hB Bz)).mono ?_
 rintro e w16 ⟨rfl,q⟩;replace q:=zq (a:=V8) q;replace h9:=h9.below q;replace Bz:=bT Bz q;clear q;go_wp2_with fail
 with_reducible refine(brepL_sing (BsOk.below h9) (r:=0) (z:=0) rfl zd (NV.mono (P:=[]) (nv_nil _ 1) zd) (by decide +kernel) (by decide +kernel) (zt hT hB Bz)).mono ?_
 rintro e w17 ⟨rfl,q⟩;replace q:=zq (a:=w16) q;replace h9:=h9.below q;replace Bz:=bT Bz q;clear q;go_wp2_with fail
 with_reducible refine(term8_q (2) (1) (zh zo) (zt hT hB Bz)).mono ?_
 rintro e w18 ⟨s18,A18,c18,l18,s18r,A18r,c18r,l18r,rfl,h18,q⟩;replace q:=zq (a:=w17) q;replace h9:=h9.below q;replace Bz:=bT Bz q;clear q;go_wp2_with fail
 obtain⟨V9,hW,x8,hN⟩:=zAc w18 #[.int .i64 2,.bool s18,.slice A18 l18 c18,.bool s18r,.slice A18r l18r c18r] 32;rw[←hW];clear hW;obtain⟨v8,hb8⟩:=ze w18.heap.size;rw[←hb8] at x8 ⊢;have ow_8:w.heap.size≤v8:=zi (zww hB Bz);replace h18:=h18.below hN;replace h9:=h9.below hN;replace hB:=bT (bT hB Bz) hN;replace HX0:=zba HX0 Bz hN;replace HX1:=zba HX1 Bz hN;replace HX2:=zba HX2 Bz hN;replace HX3:=zba HX3 Bz hN;replace HX4:=zba HX4 Bz hN;replace HX5:=zba HX5 Bz hN;replace HX6:=zba HX6 Bz hN;replace HX7:=zba HX7 Bz hN;have HX8:=zh x8;clear x8 hN Bz hb8;have Bz:=zr V9;with_reducible refine(bokF_no (BsOk.below h9) ((gv_lit (n:=1) [⟨2,⟨s18,A18,c18,l18,s18r,A18r,c18r,l18r,qof (1) 1,true⟩⟩] [(2,qof (1) 1)] rfl (HX8.out.below (bT Bz)) rfl rfl (OnT.c 2 (RN.below h18) (sz_one zd zd zd) (OnT.nil _ _))).mono (by decide:3≤3)) zd zd zd (by decide +kernel) (zt hT hB Bz)).mono ?_
 rintro e w19 ⟨rfl,q⟩;replace q:=zq (a:=V9) q;replace h9:=h9.below q;replace Bz:=bT Bz q;clear q;go_wp2_with fail
 with_reducible refine(term8_q (-1) (1) (zh zo) (zt hT hB Bz)).mono ?_
 rintro e w20 ⟨s20,A20,c20,l20,s20r,A20r,c20r,l20r,rfl,h20,q⟩;replace q:=zq (a:=w19) q;replace h9:=h9.below q;replace Bz:=bT Bz q;clear q;go_wp2_with fail
 obtain⟨V10,hW,x9,hN⟩:=zAc w20 #[.int .i64 (-1),.bool s20,.slice A20 l20 c20,.bool s20r,.slice A20r l20r c20r] 32;rw[←hW];clear hW;obtain⟨v9,hb9⟩:=ze w20.heap.size;rw[←hb9] at x9 ⊢;have ow_9:w.heap.size≤v9:=zi (zww hB Bz);replace h20:=h20.below hN;replace h9:=h9.below hN;replace hB:=bT (bT hB Bz) hN;replace HX0:=zba HX0 Bz hN;replace HX1:=zba HX1 Bz hN;replace HX2:=zba HX2 Bz hN;replace HX3:=zba HX3 Bz hN;replace HX4:=zba HX4 Bz hN;replace HX5:=zba HX5 Bz hN;replace HX6:=zba HX6 Bz hN;replace HX7:=zba HX7 Bz hN;replace HX8:=zba HX8 Bz hN;have HX9:=zh x9;clear x9 hN Bz hb9;have Bz:=zr V10;with_reducible refine(bokB_no (BsOk.below h9) ((gv_lit (n:=1) [⟨(-1),⟨s20,A20,c20,l20,s20r,A20r,c20r,l20r,qof (1) 1,true⟩⟩] [((-1),qof (1) 1)] rfl (HX9.out.below (bT Bz)) rfl rfl (OnT.c (-1) (RN.below h20) (sz_one zd zd zd) (OnT.nil _ _))).mono (by decide:3≤3)) zd zd zd (by decide +kernel) (zt hT hB Bz)).mono ?_
 rintro e w21 ⟨rfl,q⟩;replace q:=zq (a:=V10) q;replace h9:=h9.below q;replace Bz:=bT Bz q;clear q;go_wp2_with fail
 have hpz:w.heap.size≤w21.heap.size:=zi (zww hB Bz);have HXO:=BsOk.below (w':=w21) h9 (by go_grown);have hlX:=HXO.lt;have haX:=HXO.ha;clear HXO;with_reducible refine(bcopy (BsOk.below h9)).mono ?_
 rintro e w22 ⟨cb22,rfl,hge22,h22,q⟩;replace q:=zq (a:=w21) q;replace h9:=h9.below q;replace Bz:=bT Bz q;clear q;have hbz22:w.heap.size≤cb22:=zo;have hneXY:bb9≠cb22:=zo;have hAXY:∀a,AA9=some a→a.block≠cb22:=fun a ha=>by have:=(haX a ha).2;omega
 clear hpz hge22 hlX haX;go_wp2_with fail
 with_reducible refine(term8_q (0) (7) (zh zo) (zt hT hB Bz)).mono ?_
 rintro e w23 ⟨s23,A23,c23,l23,s23r,A23r,c23r,l23r,rfl,h23,q⟩;replace q:=zq (a:=w22) q;replace h22:=h22.below q;replace h9:=h9.below q;replace Bz:=bT Bz q;clear q;go_wp2_with fail
 obtain⟨V11,hW,x10,hN⟩:=zAc w23 #[.int .i64 0,.bool s23,.slice A23 l23 c23,.bool s23r,.slice A23r l23r c23r] 32;rw[←hW];clear hW;obtain⟨v10,hb10⟩:=ze w23.heap.size;rw[←hb10] at x10 ⊢;have ow_10:w.heap.size≤v10:=zi (zww hB Bz);replace h23:=h23.below hN;replace h22:=h22.below hN;replace h9:=h9.below hN;replace hB:=bT (bT hB Bz) hN;replace HX0:=zba HX0 Bz hN;replace HX1:=zba HX1 Bz hN;replace HX2:=zba HX2 Bz hN;replace HX3:=zba HX3 Bz hN;replace HX4:=zba HX4 Bz hN;replace HX5:=zba HX5 Bz hN;replace HX6:=zba HX6 Bz hN;replace HX7:=zba HX7 Bz hN;replace HX8:=zba HX8 Bz hN;replace HX9:=zba HX9 Bz hN;have HX10:=zh x10;clear x10 hN Bz hb10;have Bz:=zr V11;have HBO:=zh (BsOk.bxx (BsOk.below h22));have HOY:=BsOk.below (w':=V11) h22 (by go_grown);with_reducible refine(brepL_eta (BsOk.below h22) (r:=0) (z:=0) rfl zd (NV.mono (P:=[(0,qof (7) 1)]) (nv_lit (n:=1) [⟨0,⟨s23,A23,c23,l23,s23r,A23r,c23r,l23r,qof (7) 1,true⟩⟩] [(0,qof (7) 1)] rfl (HX10.out.below (bT Bz)) rfl rfl (OnT.c 0 (RN.below h23) (sz_one zd zd zd) (OnT.nil _ _))) zd) (by decide +kernel) zd zd (by decide +kernel) (zt hT hB Bz)).mono ?_
 rintro e w24 ⟨rfl,AA24,h24,ch24⟩;replace ch24:=(Ch.of_below (w:=V11) (by go_grown)).trans ch24;replace h9:=BsOk.ch h9 HOY ch24 hneXY hAXY;clear HX0 HX1 HX2 HX3 HX4 HX5 HX6 HX7 HX8 HX9 HX10;replace hB:=(bT hB Bz).trans (ch24.below zo (zi (zww hB Bz)));replace HBO:=zh (BsOk.bxx h24);clear ch24 Bz;have Bz:=zr w24;go_wp2_with fail
 with_reducible refine(betasL (BsOk.below h24) 1 rfl).mono ?_
 rintro e w25 ⟨rfl,q⟩;replace q:=zq (a:=w24) q;replace h24:=h24.below q;replace h9:=h9.below q;replace Bz:=bT Bz q;clear q;go_wp2_with fail
 with_reducible refine(betasL (BsOk.below h9) 0 rfl).mono ?_
 rintro e w26 ⟨rfl,q⟩;replace q:=zq (a:=w25) q;replace h24:=h24.below q;replace h9:=h9.below q;replace Bz:=bT Bz q;clear q;go_wp2_with fail
 with_reducible refine(bokCols (BsOk.below h9) (zt hT hB Bz)).mono ?_
 rintro e w27 ⟨cg27,V27,rfl,ho27,hv27,hm27,q⟩;replace q:=zq (a:=w26) q;replace h24:=h24.below q;replace Bz:=bT Bz q;clear q;obtain⟨tb27,tp27,tc27,sq27,Aq27,lq27,cq27,sr27,Ar27,lr27,cr27,ev_27,e0_27,e1_27,e2_27,e3_27,e4_27,hq27⟩:=cb_first ho27 hv27 hm27 0 (qof 1 1) rfl;clear ho27 hv27 hm27;have p254_0:=ev_27;have p255_1:=e1_27;have p255_2:=e2_27;have p255_3:=e3_27;have p255_4:=e4_27;go_wp2_with fail
 with_reducible refine(rtext0_q (d:=1) (RN.below hq27).r (by decide +kernel) (zt hT hB Bz) (by decide +kernel) (by decide +kernel) zd zd fmt_says1).mono ?_
 rintro e w28 ⟨rfl,q⟩;replace q:=zq (a:=w27) q;replace h24:=h24.below q;replace Bz:=bT Bz q;clear q;clear p254_0 p255_1 p255_2 p255_3 p255_4;go_wp2_with fail
 with_reducible refine(bokCols (BsOk.below h24) (zt hT hB Bz)).mono ?_
 rintro e w29 ⟨cg29,V29,rfl,ho29,hv29,hm29,q⟩;replace q:=zq (a:=w28) q;replace Bz:=bT Bz q;clear q;obtain⟨tb29,tp29,tc29,sq29,Aq29,lq29,cq29,sr29,Ar29,lr29,cr29,ev_29,e0_29,e1_29,e2_29,e3_29,e4_29,hq29⟩:=cb_first ho29 hv29 hm29 0 (qof 7 1) rfl;clear ho29 hv29 hm29;have p258_0:=ev_29;have p259_1:=e1_29;have p259_2:=e2_29;have p259_3:=e3_29;have p259_4:=e4_29;go_wp2_with fail
 with_reducible refine(rtext0_q (d:=7) (RN.below hq29).r (by decide +kernel) (zt hT hB Bz) (by decide +kernel) (by decide +kernel) zd zd fmt_says7).mono ?_
 rintro e w30 ⟨rfl,q⟩;replace q:=zq (a:=w29) q;replace Bz:=bT Bz q;clear q;clear p258_0 p259_1 p259_2 p259_3 p259_4;go_wp2_with fail
 with_reducible refine(awake8_q (zt hT hB Bz)).mono ?_
 rintro e w31 ⟨rfl,q⟩;replace q:=zq (a:=w30) q;replace Bz:=bT Bz q;clear q;go_wp2_with fail
 go_ret
 have hF:=bT (c:=w31) hB Bz;exact⟨rfl,bT hF⟩
theorem basisNumbers_any {w:World} (hT:Tab w):Calls Tryz.prog 5 #[] w (Yes w):=basisNumbers_q (zh hT)
namespace basisNumbers
open Go.ChangeShapes Go.WideShapes Go.ChangeAt
theorem contract (H:Type) (enc:TypeId×Value→H) (W:World) (base:Nat) (args:Array Value) (ds gs:List (DataW H)) (before:List MemPlace)
  (hval:∀(j:Nat) t v,Tryz.f5.params[j]?=some t→args[j]?=some v→Value.okWide Tryz.prog W .any base t v)
  (hW:DataW.Whole enc Tryz.prog Tryz.f5.params.toList Rows.basisNumbersSpec.vars false W args.toList ds gs before) (hL:laidMetH Tryz.prog Rows.basisNumbersRow.laid W) :
  Calls Tryz.prog 5 args W fun e W'=>∃v,e=.returned v∧Rows.basisNumbersSpec.post enc Tryz.prog Tryz.f5 false true false false W args v W':=by
 have hW':=hW;obtain⟨p,q,hA0,hV,rfl,hfz,hnd⟩:=hW;have hA:DataW.TrodAll enc Tryz.prog W 0 (fun _=>true) true Tryz.f5.params.toList args.toList ds p:=hA0;rw[Tryz.params5] at hA hval;obtain⟨hargs,rfl,rfl⟩:=trodAll_nil hA;obtain rfl:args=#[]:=by cases args;simp_all
 obtain⟨rfl,rfl⟩:=trodVars_none hV;refine(basisNumbers_any  (tab_of3 hL)).mono fun e W' ⟨he,bel⟩=>?_;subst he;exact⟨_,rfl,_,_,_,[],_,[],hW',trodAll_mk1 (shut_bool Tryz.underlying4 _),trodAll_mk0,rfl,bel.frame _,fun h=>by cases h⟩
theorem laid_met (os:Os):laidMet Tryz.prog Rows.basisNumbersRow.laid ((laidWorld3 os).forCall (fun _ _=>0) ⟨#[],#[],[]⟩).memory :=
 laidMet_of_run' 8 (by kernel_rfl) (by kernel_rfl)
theorem reads (os:Os) {H:Type} (enc:TypeId×Value→H):∃places,DataW.whole enc Tryz.prog ((laidWorld3 os).forCall (fun _ _=>0) ⟨#[],#[],[]⟩).memory Tryz.f5.params.toList Rows.basisNumbersSpec.vars false (#[]:Array Value).toList 8=some ([],[],places) :=
 ⟨[],by kernel_rfl⟩
theorem lifted (os:Os) (started:os.Started) (H:Type) (enc:TypeId×Value→H) (F:Stop.Interp) :
  ReturnsInHanded {} Tryz.checked os 5 .any ((OpenSpec.ofChange Rows.basisNumbersSpec).preRow enc Tryz.prog Tryz.f5 Rows.basisNumbersRow.domain false Rows.basisNumbersRow.laid) (((OpenSpec.ofChange Rows.basisNumbersSpec).at F).post enc Tryz.prog Tryz.f5 false true false false):=by
 obtain⟨places,hx⟩:=reads os enc;refine returnsInHanded_of_row (C:=Tryz.checked) (s:=OpenSpec.ofChange Rows.basisNumbersSpec) own started (by kernel_rfl) Tryz.func5
  (witness_row_at (enc:=enc) (C:=Tryz.checked) false (laidWorld3 os) #[] rfl (by kernel_rfl) (by kernel_rfl) (by kernel_rfl)
   (OpenSpec.preRow_of_cond 8 hx (by kernel_rfl) (fun k hk=>by cases hk) (by kernel_rfl) (laid_met os))) ?_
 intro W base args ds gs before hval hW _ _ _ hL _ _;exact contract H enc W base args ds gs before hval hW hL
theorem said:Rows.BasisNumbersSaid :=
 OpenClaim.holds_of_cond 5 Tryz.f5 rfl rfl rfl rfl rfl rfl rfl ⟨rfl,rfl,rfl,rfl,rfl⟩ rfl rfl rfl rfl rfl (by kernel_rfl) Tryz.func5 (by kernel_rfl)
  (of_decide_eq_true (by kernel_rfl)) (by unfold Func.isWrapper;first | (rw[zA (by decide +kernel)];kernel_rfl) | (rw[uA (by decide +kernel)];exact⟨rfl,rfl⟩))
  (fun os started H enc _ F=>by rw[OpenClaim.pre_eq_preRow];exact lifted os started H enc F)
theorem plain (f : FuncId) (fn : Func) (hf : Tryz.pinned.checked.prog.funcNamed "tripwire/tripwirelaw08.BasisNumbers" = some f) (hfn : Tryz.pinned.checked.prog.funcs[f]? = some fn) :
  false=Tryz.pinned.checked.prog.looks []∧∀(j:Nat) t,fn.params[j]?=some t→Tryz.pinned.checked.prog.wantsStandIn t=false:=by
 obtain rfl : f = 5 := Option.some.inj ((show Tryz.prog.funcNamed "tripwire/tripwirelaw08.BasisNumbers" = some 5 by kernel_rfl).symm.trans hf) |>.symm;obtain rfl:fn=Tryz.f5:=(Option.some.inj (Tryz.func5.symm.trans hfn)).symm;refine⟨by kernel_rfl,fun j t ht=>?_⟩;rw[Tryz.params5] at ht;simp at ht
theorem card:Rows.BasisNumbersCardSaid :=
 Claim7.holds_tied_plain_at .later [] _ _ _ _ said (fun _ h=>by cases h) (by kernel_rfl) (fun _ h=>by cases h) basisNumbers_row_tie rfl ⟨rfl,rfl⟩ (by kernel_rfl) rfl plain (by kernel_rfl)
end basisNumbers
end Go.Proofs.YteggjbgbknkoiaaGreatDoor
