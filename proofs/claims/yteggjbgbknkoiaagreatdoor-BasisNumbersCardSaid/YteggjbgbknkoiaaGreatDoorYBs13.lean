import Derived.Test.YteggjbgbknkoiaaGreatDoorYBs12
set_option maxHeartbeats 16000000
set_option maxRecDepth 100000
namespace Go.Proofs.YteggjbgbknkoiaaGreatDoor
open Go.RowKit Tw
def BsBx (w:World) (bb:Nat):Prop:=∃A n c most fb H m hc,Bx w bb (bsC A n c most fb H m hc) 108
theorem BsOk.bxx {av:Nat→Prop} {w:World} {bb n most ne:Nat} {A:Option Addr} {C:List (List (Int×Rat))} (h:BsOk av w bb n most ne A C):BsBx w bb:=by
 obtain⟨⟨C0,E,H,c,hc,fb,h1,_⟩,_⟩:=h;exact⟨_,_,_,_,_,_,_,_,h1.bx⟩
theorem NV.chb {w w':World} {bb:Nat} {A:Option Addr} {n c M:Nat} {P:List (Int×Rat)} (h:NV w A n c P M) (hb:BsBx w bb) (hk:Ch w w' bb):NV w' A n c P M:=by
 obtain⟨L,h1,h2,h3,h4⟩:=h;obtain⟨_,_,_,_,_,_,_,_,hx⟩:=hb;exact⟨L,h1.ch Tm.cs_len zo hx hk no_tm,h2.k hk.2,h3,h4⟩
theorem right_one {k:Int} {Z:List (Int×Rat)} (h:rightC k [Z]=true):Nrm Z∧∀t∈Z,0≤t.1∧t.1<k:=rightC_iff.1 h Z (gC.2 rfl)
theorem bnewL {av:Nat→Prop} {w:World} {A:Option Addr} {n c most:Nat} {C:List (List (Int×Rat))} {z m:Int} (h:CM w A n c C 4) (hC:∀x∈C,x.length≤1000) (hn:n≤14) (hr:rightC (n:Int) C=true) (hs:(facUp (facT C n) n).isSome=true) (m1:1≤most) (m2:most≤100) (hz:(n:Int)=z) (hm:(most:Int)=m) (hT:Hid (Tab w)) :
  Calls Tryz.prog 29 #[.slice A n c,.int .i64 z,.int .i64 m] w fun e w'=>∃bb A',e=.returned (.tuple #[.pointer (some ⟨bb,0,none⟩),.int .i64 0])∧w.heap.size≤bb∧BsOk av w' bb n most 0 A' C∧Below w.heap.size w w':=by
 subst hz hm;exact bnew_ok h hC hn hr hs m1 m2 hT
theorem bsizeL {av:Nat→Prop} {w:World} {bb n most ne:Nat} {A:Option Addr} {C:List (List (Int×Rat))} (h:BsOk av w bb n most ne A C) (z:Int) (hz:(n:Int)=z):Calls Tryz.prog 30 #[.pointer (some ⟨bb,0,none⟩)] w fun e w'=>e=.returned (.int .i64 z)∧Below w.heap.size w w':=by
 subst hz;obtain⟨⟨C0,E,H,c,hc,fb,h1,_⟩,_⟩:=h;exact bsize_q h1
theorem betasL {av:Nat→Prop} {w:World} {bb n most ne:Nat} {A:Option Addr} {C:List (List (Int×Rat))} (h:BsOk av w bb n most ne A C) (z:Int) (hz:(ne:Int)=z):Calls Tryz.prog 35 #[.pointer (some ⟨bb,0,none⟩)] w fun e w'=>e=.returned (.int .i64 z)∧Below w.heap.size w w':=by
 subst hz;obtain⟨⟨C0,E,H,c,hc,fb,h1,rfl,_⟩,_⟩:=h;exact betas_q h1
abbrev noAv:Nat→Prop:=fun _=>False
section
variable {w:World} {bb n most ne bn bc r:Nat} {A X:Option Addr} {C:List (List (Int×Rat))} {Z:List (Int×Rat)} {z:Int}
theorem brepL_sing (h:BsOk noAv w bb n most ne A C) (hz:(r:Int)=z) (hr:r<n) (hv:NV w X bn bc Z 4) (hR:rightC (n:Int) [Z]=true) (hs:(facUp (facT (C.set r Z) n) n).isNone=true) (hT:Hid (Tab w)):Calls Tryz.prog 31 #[.pointer (some ⟨bb,0,none⟩),.int .i64 z,.slice X bn bc] w fun e w'=>e=.returned (.int .i64 12)∧Below w.heap.size w w':=by
 subst hz;exact brep_sing h hr hv (right_one hR).1 (right_one hR).2 hs hT
theorem brepL_eta (h:BsOk noAv w bb n most ne A C) (hz:(r:Int)=z) (hr:r<n) (hv:NV w X bn bc Z 4) (hR:rightC (n:Int) [Z]=true) (hm:ne+1<most) (hne:ne+1≤100) (hs:(facUp (facT (C.set r Z) n) n).isSome=true) (hT:Hid (Tab w)):Calls Tryz.prog 31 #[.pointer (some ⟨bb,0,none⟩),.int .i64 z,.slice X bn bc] w fun e w'=>e=.returned (.int .i64 0)∧∃A',BsOk noAv w' bb n most (ne+1) A' (C.set r Z)∧Ch w w' bb:=by
 subst hz;exact(brep_eta h hr hv (right_one hR).1 (right_one hR).2 hm hne (fun _ hx=>hx.elim) hs hT).mono fun _ _ ⟨h1,A',h2,_,h3⟩=>⟨h1,A',h2,h3⟩
theorem brepL_fac (h:BsOk noAv w bb n most ne A C) (hz:(r:Int)=z) (hr:r<n) (hv:NV w X bn bc Z 4) (hR:rightC (n:Int) [Z]=true) (hm:¬ne+1<most) (hs:(facUp (facT (C.set r Z) n) n).isSome=true) (hT:Hid (Tab w)):Calls Tryz.prog 31 #[.pointer (some ⟨bb,0,none⟩),.int .i64 z,.slice X bn bc] w fun e w'=>e=.returned (.int .i64 0)∧∃A',BsOk noAv w' bb n most 0 A' (C.set r Z)∧Ch w w' bb:=by
 subst hz;exact(brep_fac h hr hv (right_one hR).1 (right_one hR).2 hm hs hT).mono fun _ _ ⟨h1,A',h2,_,h3⟩=>⟨h1,A',h2,h3⟩
theorem brepL_bad (h:BsOk noAv w bb n most ne A C) {T:List Tm} (hz:(r:Int)=z) (hr:r<n) (hx:Sl Tm.cs 5 w X bn bc T) (hf:∀t∈T,FrOk w 2 t.x) (hb:bn≤1000) (hR:Hid (rightB T (n:Int)=false)) (hT:Hid (Tab w)):Calls Tryz.prog 31 #[.pointer (some ⟨bb,0,none⟩),.int .i64 z,.slice X bn bc] w fun e w'=>e=.returned (.int .i64 2)∧Below w.heap.size w w':=by
 subst hz;exact brep_bad h hr hx (zh hf) hb hR hT
end
theorem term8_q {w:World} (at_ n:Int) (hn:Hid (-9223372036854775808≤n∧n≤9223372036854775807)) (hT:Hid (Tab w)):Calls Tryz.prog 28 #[.int .i64 at_,.int .i64 n] w (TellsT w at_ (qof n 1)):=by
 obtain⟨W,hW,x0,hB⟩:=zAc w #[.int .i64 0,.bool false,.slice none 0 0,.bool false,.slice none 0 0] 32;have HX0:=zh x0;clear x0;have Bz:=zr W;go_enter Tryz.func28,Tryz.ntmps28
 go_wp2_with fail
 rw[←hW];clear hW;go_wp2_with fail
 with_reducible refine(of_q n 1 hn (zh zo) (zt hT hB Bz)).mono ?_
 rintro e w1 ⟨s1,A1,c1,l1,s1r,A1r,c1r,l1r,rfl,h1,q⟩;replace q:=zq (a:=W) q;replace Bz:=bT Bz q;clear q;obtain⟨pa0,pa1,pa2,pa3,pa4,-⟩:=(zx HX0 Bz).cz;obtain⟨y0,fa0,fa1,fa2,fa3,fa4,-⟩:=(zx HX0 Bz).fz;go_wp2_with fail
 (try simp only[Exit.inBlock,Exit.then])
 refine bodyPost_ret (by simp[results,Tryz.results28,go_sem,pa0,pa1,pa2,pa3,pa4];try rfl) rfl ?_;obtain⟨V1,hW,x,kk,far,bel⟩:=store5 (.int .i64 at_) (.bool s1) (.slice A1 l1 c1) (.bool s1r) (.slice A1r l1r c1r) (zx HX0 Bz) nofun nofun nofun nofun nofun;rw[←hW];clear hW;replace h1:=h1.k kk;replace hB:=bel w.heap.size w zo (bT hB Bz);replace HX0:=zh x;clear x kk far bel Bz;have Bz:=zr V1;have hF:=bT (c:=V1) hB Bz;exact⟨_,_,_,_,_,_,_,_,rfl,RN.below h1,bT hF⟩
theorem awake8_q {w:World} (hT:Hid (Tab w)):Calls Tryz.prog 37 #[] w fun e w'=>e=.returned (.bool true)∧Below w.heap.size w w':=by
 have hB:=Below.refl w.heap.size w;have Bz:=zr w;go_enter Tryz.func37,Tryz.ntmps37
 go_wp2_with fail
 with_reducible refine(term8_q (0) (1) (zh zo) (zt hT hB Bz)).mono ?_
 rintro e w1 ⟨s1,A1,c1,l1,s1r,A1r,c1r,l1r,rfl,h1,q⟩;replace q:=zq (a:=w) q;replace Bz:=bT Bz q;clear q;go_wp2_with fail
 obtain⟨V1,hW,x0,hN⟩:=zAc w1 #[.int .i64 0,.bool s1,.slice A1 l1 c1,.bool s1r,.slice A1r l1r c1r] 32;rw[←hW];clear hW;obtain⟨v0,hb0⟩:=ze w1.heap.size;rw[←hb0] at x0 ⊢;have ow_0:w.heap.size≤v0:=zi (zww hB Bz);replace h1:=h1.below hN;replace hB:=bT (bT hB Bz) hN;have HX0:=zh x0;clear x0 hN Bz hb0;have Bz:=zr V1;with_reducible refine(term8_q (1) (1) (zh zo) (zt hT hB Bz)).mono ?_
 rintro e w2 ⟨s2,A2,c2,l2,s2r,A2r,c2r,l2r,rfl,h2,q⟩;replace q:=zq (a:=V1) q;replace h1:=h1.below q;replace Bz:=bT Bz q;clear q;go_wp2_with fail
 obtain⟨V2,hW,x1,hN⟩:=zAc w2 #[.int .i64 1,.bool s2,.slice A2 l2 c2,.bool s2r,.slice A2r l2r c2r] 32;have hs1:V2.heap.size=w2.heap.size+1:=by rw[hW];simp
 rw[←hW];clear hW;obtain⟨v1,hb1⟩:=ze w2.heap.size;rw[←hb1] at x1 hs1 ⊢;have ow_1:w.heap.size≤v1:=zi (zww hB Bz);replace h1:=h1.below hN;replace h2:=h2.below hN;replace hB:=bT (bT hB Bz) hN;replace HX0:=zba HX0 Bz hN;have HX1:=zh x1;clear x1 hN Bz hb1;have Bz:=zr V2;obtain⟨V3,hW,x2,hN⟩:=zAc V2 #[.slice (some ⟨v0,0,none⟩) 1 1,.slice (some ⟨v1,0,none⟩) 1 1] 35;have hs2:V3.heap.size=V2.heap.size+1:=by rw[hW];simp
 rw[←hW];clear hW;rw[hs1] at x2 hs2;obtain⟨v2,hb2⟩:=ze (v1+1);rw[←hb2] at x2 hs2  ⊢;have ow_2:w.heap.size≤v2:=zi (zww hB Bz);replace h1:=h1.below hN;replace h2:=h2.below hN;replace hB:=bT (bT hB Bz) hN;replace HX0:=zba HX0 Bz hN;replace HX1:=zba HX1 Bz hN;have HX2:=zh x2;clear x2 hN Bz hb2;have Bz:=zr V3;clear hs1;have hpz:w.heap.size≤V3.heap.size:=zi (zww hB Bz);with_reducible refine(bnewL (av:=noAv) (C:=[[(0,qof (1) 1)],[(1,qof (1) 1)]]) (most:=2) (z:=2) (m:=2) (CM.tight (cm_lit (n:=2) (M:=2) [⟨some ⟨v0,0,none⟩,1,1,[⟨0,⟨s1,A1,c1,l1,s1r,A1r,c1r,l1r,qof (1) 1,true⟩⟩]⟩,⟨some ⟨v1,0,none⟩,1,1,[⟨1,⟨s2,A2,c2,l2,s2r,A2r,c2r,l2r,qof (1) 1,true⟩⟩]⟩] (HX2.out.below (bT Bz)) rfl rfl (cns_cons (v:=⟨some ⟨v0,0,none⟩,1,1,[⟨0,⟨s1,A1,c1,l1,s1r,A1r,c1r,l1r,qof (1) 1,true⟩⟩]⟩) (cn_mk (sl_lit (HX0.out.below (bT Bz)) rfl rfl) (OnT.c 0 (RN.below h1) (sz_one zd zd zd) (OnT.nil _ _)) (fun h=>(by cases h))) (cns_cons (v:=⟨some ⟨v1,0,none⟩,1,1,[⟨1,⟨s2,A2,c2,l2,s2r,A2r,c2r,l2r,qof (1) 1,true⟩⟩]⟩) (cn_mk (sl_lit (HX1.out.below (bT Bz)) rfl rfl) (OnT.c 1 (RN.below h2) (sz_one zd zd zd) (OnT.nil _ _)) (fun h=>(by cases h))) (cns_nil _ _))) [[(0,qof (1) 1)],[(1,qof (1) 1)]] rfl) (by decide +kernel)) (by decide +kernel) zd (by decide +kernel) (by decide +kernel) zd zd rfl rfl (zt hT hB Bz)).mono ?_
 rintro e w3 ⟨bb3,AA3,rfl,hge3,h3,q⟩;replace q:=zq (a:=V3) q;replace Bz:=bT Bz q;clear q;have hbz3:w.heap.size≤bb3:=zo;clear hpz hge3;go_wp2_with fail
 with_reducible refine(term8_q (0) (3) (zh zo) (zt hT hB Bz)).mono ?_
 rintro e w4 ⟨s4,A4,c4,l4,s4r,A4r,c4r,l4r,rfl,h4,q⟩;replace q:=zq (a:=w3) q;replace h3:=h3.below q;replace Bz:=bT Bz q;clear q;go_wp2_with fail
 obtain⟨V4,hW,x3,hN⟩:=zAc w4 #[.int .i64 0,.bool s4,.slice A4 l4 c4,.bool s4r,.slice A4r l4r c4r] 32;rw[←hW];clear hW;obtain⟨v3,hb3⟩:=ze w4.heap.size;rw[←hb3] at x3 ⊢;have ow_3:w.heap.size≤v3:=zi (zww hB Bz);replace h4:=h4.below hN;replace h3:=h3.below hN;replace hB:=bT (bT hB Bz) hN;replace HX0:=zba HX0 Bz hN;replace HX1:=zba HX1 Bz hN;replace HX2:=zba HX2 Bz hN;have HX3:=zh x3;clear x3 hN Bz hb3;have Bz:=zr V4;with_reducible refine(bokF (BsOk.below h3) ((gv_lit (n:=1) [⟨0,⟨s4,A4,c4,l4,s4r,A4r,c4r,l4r,qof (3) 1,true⟩⟩] [(0,qof (3) 1)] rfl (HX3.out.below (bT Bz)) rfl rfl (OnT.c 0 (RN.below h4) (sz_one zd zd zd) (OnT.nil _ _))).mono (by decide:3≤3)) zd zd zd (by decide +kernel) (zt hT hB Bz)).mono ?_
 rintro e w5 ⟨A5,n5,c5,rfl,h5,l5,q⟩;replace q:=zq (a:=V4) q;replace h3:=h3.below q;replace Bz:=bT Bz q;clear q;go_wp2_with fail
 with_reducible refine(term8_q (0) (2) (zh zo) (zt hT hB Bz)).mono ?_
 rintro e w6 ⟨s6,A6,c6,l6,s6r,A6r,c6r,l6r,rfl,h6,q⟩;replace q:=zq (a:=w5) q;replace h3:=h3.below q;replace h5:=h5.below q;replace Bz:=bT Bz q;clear q;go_wp2_with fail
 with_reducible refine(term8_q (1) (1) (zh zo) (zt hT hB Bz)).mono ?_
 rintro e w7 ⟨s7,A7,c7,l7,s7r,A7r,c7r,l7r,rfl,h7,q⟩;replace q:=zq (a:=w6) q;replace h6:=h6.below q;replace h3:=h3.below q;replace h5:=h5.below q;replace Bz:=bT Bz q;clear q;go_wp2_with fail
 obtain⟨V5,hW,x4,hN⟩:=zAc w7 #[.int .i64 0,.bool s6,.slice A6 l6 c6,.bool s6r,.slice A6r l6r c6r,.int .i64 1,.bool s7,.slice A7 l7 c7,.bool s7r,.slice A7r l7r c7r] 32;rw[←hW];clear hW;obtain⟨v4,hb4⟩:=ze w7.heap.size;rw[←hb4] at x4 ⊢;have ow_4:w.heap.size≤v4:=zi (zww hB Bz);replace h6:=h6.below hN;replace h7:=h7.below hN;replace h3:=h3.below hN;replace h5:=h5.below hN;replace hB:=bT (bT hB Bz) hN;replace HX0:=zba HX0 Bz hN;replace HX1:=zba HX1 Bz hN;replace HX2:=zba HX2 Bz hN;replace HX3:=zba HX3 Bz hN;have HX4:=zh x4;clear x4 hN Bz hb4;have Bz:=zr V5;have HBO:=zh (BsOk.bxx (BsOk.below h3));with_reducible refine(brepL_eta (BsOk.below h3) (r:=0) (z:=0) rfl zd (NV.mono (P:=[(0,qof (2) 1),(1,qof (1) 1)]) (nv_lit (n:=2) [⟨0,⟨s6,A6,c6,l6,s6r,A6r,c6r,l6r,qof (2) 1,true⟩⟩,⟨1,⟨s7,A7,c7,l7,s7r,A7r,c7r,l7r,qof (1) 1,true⟩⟩] [(0,qof (2) 1),(1,qof (1) 1)] rfl (HX4.out.below (bT Bz)) rfl rfl (OnT.c 0 (RN.below h6) (sz_one zd zd zd) (OnT.c 1 (RN.below h7) (sz_one zd zd zd) (OnT.nil _ _)))) zd) (by decide +kernel) zd zd (by decide +kernel) (zt hT hB Bz)).mono ?_
 rintro e w8 ⟨rfl,AA8,h8,ch8⟩;replace ch8:=(Ch.of_below (w:=V5) (by go_grown)).trans ch8;replace h5:=NV.chb h5 HBO.out ch8;clear HX0 HX1 HX2 HX3 HX4;replace hB:=(bT hB Bz).trans (ch8.below zo (zi (zww hB Bz)));replace HBO:=zh (BsOk.bxx h8);clear ch8 Bz;have Bz:=zr w8;go_wp2_with fail
 with_reducible refine(betasL (BsOk.below h8) 1 rfl).mono ?_
 rintro e w9 ⟨rfl,q⟩;replace q:=zq (a:=w8) q;replace h8:=h8.below q;replace h5:=h5.below q;replace Bz:=bT Bz q;clear q;go_wp2_with fail
 with_reducible refine(term8_q (0) (2) (zh zo) (zt hT hB Bz)).mono ?_
 rintro e w10 ⟨s10,A10,c10,l10,s10r,A10r,c10r,l10r,rfl,h10,q⟩;replace q:=zq (a:=w9) q;replace h8:=h8.below q;replace h5:=h5.below q;replace Bz:=bT Bz q;clear q;go_wp2_with fail
 with_reducible refine(term8_q (1) (1) (zh zo) (zt hT hB Bz)).mono ?_
 rintro e w11 ⟨s11,A11,c11,l11,s11r,A11r,c11r,l11r,rfl,h11,q⟩;replace q:=zq (a:=w10) q;replace h10:=h10.below q;replace h8:=h8.below q;replace h5:=h5.below q;replace Bz:=bT Bz q;clear q;go_wp2_with fail
 obtain⟨V6,hW,x0,hN⟩:=zAc w11 #[.int .i64 0,.bool s10,.slice A10 l10 c10,.bool s10r,.slice A10r l10r c10r,.int .i64 1,.bool s11,.slice A11 l11 c11,.bool s11r,.slice A11r l11r c11r] 32;rw[←hW];clear hW;obtain⟨v0,hb0⟩:=ze w11.heap.size;rw[←hb0] at x0 ⊢;have ow_0:w.heap.size≤v0:=zi (zww hB Bz);replace h10:=h10.below hN;replace h11:=h11.below hN;replace h8:=h8.below hN;replace h5:=h5.below hN;replace hB:=bT (bT hB Bz) hN;have HX0:=zh x0;clear x0 hN Bz hb0;have Bz:=zr V6;with_reducible refine(bokF (BsOk.below h8) ((gv_lit (n:=2) [⟨0,⟨s10,A10,c10,l10,s10r,A10r,c10r,l10r,qof (2) 1,true⟩⟩,⟨1,⟨s11,A11,c11,l11,s11r,A11r,c11r,l11r,qof (1) 1,true⟩⟩] [(0,qof (2) 1),(1,qof (1) 1)] rfl (HX0.out.below (bT Bz)) rfl rfl (OnT.c 0 (RN.below h10) (sz_one zd zd zd) (OnT.c 1 (RN.below h11) (sz_one zd zd zd) (OnT.nil _ _)))).mono (by decide:6≤6)) zd zd zd (by decide +kernel) (zt hT hB Bz)).mono ?_
 rintro e w12 ⟨A12,n12,c12,rfl,h12,l12,q⟩;replace q:=zq (a:=V6) q;replace h8:=h8.below q;replace h5:=h5.below q;replace Bz:=bT Bz q;clear q;go_wp2_with fail
 with_reducible refine(term8_q (0) (4) (zh zo) (zt hT hB Bz)).mono ?_
 rintro e w13 ⟨s13,A13,c13,l13,s13r,A13r,c13r,l13r,rfl,h13,q⟩;replace q:=zq (a:=w12) q;replace h8:=h8.below q;replace h12:=h12.below q;replace h5:=h5.below q;replace Bz:=bT Bz q;clear q;go_wp2_with fail
 with_reducible refine(term8_q (1) (2) (zh zo) (zt hT hB Bz)).mono ?_
 rintro e w14 ⟨s14,A14,c14,l14,s14r,A14r,c14r,l14r,rfl,h14,q⟩;replace q:=zq (a:=w13) q;replace h13:=h13.below q;replace h8:=h8.below q;replace h12:=h12.below q;replace h5:=h5.below q;replace Bz:=bT Bz q;clear q;go_wp2_with fail
 obtain⟨V7,hW,x1,hN⟩:=zAc w14 #[.int .i64 0,.bool s13,.slice A13 l13 c13,.bool s13r,.slice A13r l13r c13r,.int .i64 1,.bool s14,.slice A14 l14 c14,.bool s14r,.slice A14r l14r c14r] 32;rw[←hW];clear hW;obtain⟨v1,hb1⟩:=ze w14.heap.size;rw[←hb1] at x1 ⊢;have ow_1:w.heap.size≤v1:=zi (zww hB Bz);replace h13:=h13.below hN;replace h14:=h14.below hN;replace h8:=h8.below hN;replace h12:=h12.below hN;replace h5:=h5.below hN;replace hB:=bT (bT hB Bz) hN;replace HX0:=zba HX0 Bz hN;have HX1:=zh x1;clear x1 hN Bz hb1;have Bz:=zr V7;with_reducible refine(brepL_sing (BsOk.below h8) (r:=1) (z:=1) rfl zd (NV.mono (P:=[(0,qof (4) 1),(1,qof (2) 1)]) (nv_lit (n:=2) [⟨0,⟨s13,A13,c13,l13,s13r,A13r,c13r,l13r,qof (4) 1,true⟩⟩,⟨1,⟨s14,A14,c14,l14,s14r,A14r,c14r,l14r,qof (2) 1,true⟩⟩] [(0,qof (4) 1),(1,qof (2) 1)] rfl (HX1.out.below (bT Bz)) rfl rfl (OnT.c 0 (RN.below h13) (sz_one zd zd zd) (OnT.c 1 (RN.below h14) (sz_one zd zd zd) (OnT.nil _ _)))) zd) (by decide +kernel) (by decide +kernel) (zt hT hB Bz)).mono ?_
 rintro e w15 ⟨rfl,q⟩;replace q:=zq (a:=V7) q;replace h8:=h8.below q;replace h12:=h12.below q;replace h5:=h5.below q;replace Bz:=bT Bz q;clear q;go_wp2_with fail
 with_reducible refine(term8_q (0) (1) (zh zo) (zt hT hB Bz)).mono ?_
 rintro e w16 ⟨s16,A16,c16,l16,s16r,A16r,c16r,l16r,rfl,h16,q⟩;replace q:=zq (a:=w15) q;replace h8:=h8.below q;replace h12:=h12.below q;replace h5:=h5.below q;replace Bz:=bT Bz q;clear q;go_wp2_with fail
 obtain⟨V8,hW,x2,hN⟩:=zAc w16 #[.int .i64 0,.bool s16,.slice A16 l16 c16,.bool s16r,.slice A16r l16r c16r] 32;rw[←hW];clear hW;obtain⟨v2,hb2⟩:=ze w16.heap.size;rw[←hb2] at x2 ⊢;have ow_2:w.heap.size≤v2:=zi (zww hB Bz);replace h16:=h16.below hN;replace h8:=h8.below hN;replace h12:=h12.below hN;replace h5:=h5.below hN;replace hB:=bT (bT hB Bz) hN;replace HX0:=zba HX0 Bz hN;replace HX1:=zba HX1 Bz hN;have HX2:=zh x2;clear x2 hN Bz hb2;have Bz:=zr V8;have HBO:=zh (BsOk.bxx (BsOk.below h8));with_reducible refine(brepL_fac (BsOk.below h8) (r:=1) (z:=1) rfl zd (NV.mono (P:=[(0,qof (1) 1)]) (nv_lit (n:=1) [⟨0,⟨s16,A16,c16,l16,s16r,A16r,c16r,l16r,qof (1) 1,true⟩⟩] [(0,qof (1) 1)] rfl (HX2.out.below (bT Bz)) rfl rfl (OnT.c 0 (RN.below h16) (sz_one zd zd zd) (OnT.nil _ _))) zd) (by decide +kernel) zd (by decide +kernel) (zt hT hB Bz)).mono ?_
 rintro e w17 ⟨rfl,AA17,h17,ch17⟩;replace ch17:=(Ch.of_below (w:=V8) (by go_grown)).trans ch17;replace h12:=NV.chb h12 HBO.out ch17;replace h5:=NV.chb h5 HBO.out ch17;clear HX0 HX1 HX2;replace hB:=(bT hB Bz).trans (ch17.below zo (zi (zww hB Bz)));replace HBO:=zh (BsOk.bxx h17);clear ch17 Bz;have Bz:=zr w17;go_wp2_with fail
 with_reducible refine(betasL (BsOk.below h17) 0 rfl).mono ?_
 rintro e w18 ⟨rfl,q⟩;replace q:=zq (a:=w17) q;replace h12:=h12.below q;replace h5:=h5.below q;replace Bz:=bT Bz q;clear q;go_wp2_with fail
 with_reducible refine(term8_q (0) (3) (zh zo) (zt hT hB Bz)).mono ?_
 rintro e w19 ⟨s19,A19,c19,l19,s19r,A19r,c19r,l19r,rfl,h19,q⟩;replace q:=zq (a:=w18) q;replace h12:=h12.below q;replace h5:=h5.below q;replace Bz:=bT Bz q;clear q;go_wp2_with fail
 obtain⟨V9,hW,x0,hN⟩:=zAc w19 #[.int .i64 0,.bool s19,.slice A19 l19 c19,.bool s19r,.slice A19r l19r c19r] 32;rw[←hW];clear hW;obtain⟨v0,hb0⟩:=ze w19.heap.size;rw[←hb0] at x0 ⊢;have ow_0:w.heap.size≤v0:=zi (zww hB Bz);replace h19:=h19.below hN;replace h12:=h12.below hN;replace h5:=h5.below hN;replace hB:=bT (bT hB Bz) hN;have HX0:=zh x0;clear x0 hN Bz hb0;have Bz:=zr V9;with_reducible refine(sameVec_q (P:=(layF 2 (back (fwd (facST [[(0,qof (1) 1)],[(1,qof (1) 1)]] 2) (pget [(0,qof (3) 1)])) (facST [[(0,qof (1) 1)],[(1,qof (1) 1)]] 2)))) (Q:=[(0,qof (3) 1)]) (NV.below h5) (nv_lit (n:=1) [⟨0,⟨s19,A19,c19,l19,s19r,A19r,c19r,l19r,qof (3) 1,true⟩⟩] [(0,qof (3) 1)] rfl (HX0.out.below (bT Bz)) rfl rfl (OnT.c 0 (RN.below h19) (sz_one zd zd zd) (OnT.nil _ _))) zd zd zo zo true (zh (by decide +kernel))).mono ?_
 rintro e w20 ⟨rfl,q⟩;replace q:=zq (a:=V9) q;replace h12:=h12.below q;replace Bz:=bT Bz q;clear q;go_wp2_with fail
 with_reducible refine(term8_q (0) (1) (zh zo) (zt hT hB Bz)).mono ?_
 rintro e w21 ⟨s21,A21,c21,l21,s21r,A21r,c21r,l21r,rfl,h21,q⟩;replace q:=zq (a:=w20) q;replace h12:=h12.below q;replace Bz:=bT Bz q;clear q;go_wp2_with fail
 obtain⟨V10,hW,x1,hN⟩:=zAc w21 #[.int .i64 0,.bool s21,.slice A21 l21 c21,.bool s21r,.slice A21r l21r c21r] 32;rw[←hW];clear hW;obtain⟨v1,hb1⟩:=ze w21.heap.size;rw[←hb1] at x1 ⊢;have ow_1:w.heap.size≤v1:=zi (zww hB Bz);replace h21:=h21.below hN;replace h12:=h12.below hN;replace hB:=bT (bT hB Bz) hN;replace HX0:=zba HX0 Bz hN;have HX1:=zh x1;clear x1 hN Bz hb1;have Bz:=zr V10;with_reducible refine(sameVec_q (P:=(layF 2 (back (fwd (facST ([[(0,qof (1) 1)],[(1,qof (1) 1)]].set 0 [(0,qof (2) 1),(1,qof (1) 1)]) 2) (pget [(0,qof (2) 1),(1,qof (1) 1)])) (facST ([[(0,qof (1) 1)],[(1,qof (1) 1)]].set 0 [(0,qof (2) 1),(1,qof (1) 1)]) 2)))) (Q:=[(0,qof (1) 1)]) (NV.below h12) (nv_lit (n:=1) [⟨0,⟨s21,A21,c21,l21,s21r,A21r,c21r,l21r,qof (1) 1,true⟩⟩] [(0,qof (1) 1)] rfl (HX1.out.below (bT Bz)) rfl rfl (OnT.c 0 (RN.below h21) (sz_one zd zd zd) (OnT.nil _ _))) zd zd zo zo true (zh (by decide +kernel))).mono ?_
 rintro e w22 ⟨rfl,q⟩;replace q:=zq (a:=V10) q;replace Bz:=bT Bz q;clear q;go_wp2_with fail
 go_ret
 have hF:=bT (c:=w22) hB Bz;exact⟨rfl,bT hF⟩
section
def TellsCB (w:World) (n M:Nat) (D:List (List (Int×Rat))) (e:Ending) (w':World):Prop:=∃g V,e=.returned (.slice (some ⟨g,0,none⟩) n n)∧OwnR w' w.heap.size 35 1 (.slice (some ⟨g,0,none⟩) n n) n (flat Vc.cs V)∧CVs w' (.slice (some ⟨g,0,none⟩) n n) M V∧V.map (fun v=>prs v.L)=D∧Below w.heap.size w w'
theorem bokCols {av:Nat→Prop} {w:World} {bb n most ne:Nat} {A:Option Addr} {C:List (List (Int×Rat))} (h:BsOk av w bb n most ne A C) (hT:Hid (Tab w)):Calls Tryz.prog 36 #[.pointer (some ⟨bb,0,none⟩)] w (TellsCB w n 5 C):=by
 have hr:=h.rc;have hl:=h.lens;obtain⟨⟨C0,E,H,c,hc,fb,h1,_⟩,_,hn,_⟩:=h;refine(bcolsO_q h1 (fun x hx=>(rightC_iff.1 hr x hx).1.rise) (fun x hx=>wA (hl x hx) zo) zo zo hT).mono fun e w' ⟨g,V,q1,q2,q3,q4,q5⟩=>⟨g,V,q1,q2,q3,?_,q5⟩;rw[q4,right_map hr]
theorem BsOk.avoid {w w':World} {bb n most ne x:Nat} {A:Option Addr} {C:List (List (Int×Rat))} (h:BsOk noAv w bb n most ne A C) (hx:w.heap.size≤x) (hb:Below w.heap.size w w'):BsOk (fun y=>y=x) w' bb n most ne A C:=by
 obtain⟨⟨C0,E,H,c,hc,fb,h1,h2,h3,_⟩,h4,hn,h6,h7⟩:=h;exact⟨⟨C0,E,H,c,hc,fb,h1.below hb,h2,h3,fun e he e2=>by have:=(h1.ok e he).sb.lt;omega⟩,h4,hn,h6,fun a ha=>⟨(h7 a ha).1,dB (h7 a ha).2 hb.size⟩⟩
def BsFree (B:Nat) (w:World) (bb n most ne:Nat) (A:Option Addr) (C:List (List (Int×Rat))):Prop:=∀x,B≤x→BsOk (fun y=>y=x) w bb n most ne A C
theorem BsFree.below {B:Nat} {w w':World} {bb n most ne:Nat} {A:Option Addr} {C:List (List (Int×Rat))} (h:BsFree B w bb n most ne A C) (hb:Below w.heap.size w w':=by go_grown):BsFree B w' bb n most ne A C:=fun x hx=>(h x hx).below hb
theorem BsOk.free {w:World} {bb n most ne:Nat} {A:Option Addr} {C:List (List (Int×Rat))} (h:BsOk noAv w bb n most ne A C):BsFree w.heap.size w bb n most ne A C:=fun _ hx=>h.avoid hx (Below.refl _ _)
end
section
open Go.ChangeShapes Go.WideShapes Go.ChangeAt
structure Op8 where
 k:Int
 n:Int
 v:Vc
def Op8.cs (o:Op8):List Value:=[.int .i64 o.k,.int .i64 o.n,.slice o.v.A o.v.n o.v.c]
end
end Go.Proofs.YteggjbgbknkoiaaGreatDoor
