/-
  BasisNone: a basis that New did not make answers nothing and ErrNil; the law answers true for any number and vector. No condition. Written by wip/gen/bs14.py.
-/
import Derived.Test.YtfpbmpllildbaaaGreatDoorYBs12
set_option maxHeartbeats 16000000
set_option maxRecDepth 100000
namespace Go.Proofs.YtfpbmpllildbaaaGreatDoor
open Go.RowKit Tw
def BsBx (w:World) (bb:Nat):Prop:=∃A n c most fb H m hc,Bx w bb (bsC A n c most fb H m hc) 73
theorem BsOk.bxx {w:World} {bb n most ne:Nat} {A:Option Addr} {C:List (List (Int×Rat))} (h:BsOk w bb n most ne A C):BsBx w bb:=by
 obtain⟨⟨C0,E,H,c,hc,fb,h1,_⟩,_⟩:=h;exact⟨_,_,_,_,_,_,_,_,h1.bx⟩
theorem NV.chb {w w':World} {bb:Nat} {A:Option Addr} {n c M:Nat} {P:List (Int×Rat)} (h:NV w A n c P M) (hb:BsBx w bb) (hk:Ch w w' bb):NV w' A n c P M:=by
 obtain⟨L,h1,h2,h3,h4⟩:=h;obtain⟨_,_,_,_,_,_,_,_,hx⟩:=hb;exact⟨L,h1.ch Tm.cs_len zo hx hk no_tm,h2.k hk.2,h3,h4⟩
theorem right_one {k:Int} {Z:List (Int×Rat)} (h:rightC k [Z]=true):Nrm Z∧∀t∈Z,0≤t.1∧t.1<k:=rightC_iff.1 h Z (List.mem_singleton.2 rfl)
theorem bnewL {w:World} {A:Option Addr} {n c most:Nat} {C:List (List (Int×Rat))} {z m:Int} (h:CM w A n c C 4) (hC:∀x∈C,x.length≤1000) (hn:n≤14) (hr:rightC (n:Int) C=true) (hs:(facUp (facT C n) n).isSome=true) (m1:1≤most) (m2:most≤100) (hz:(n:Int)=z) (hm:(most:Int)=m) (hT:Hid (Tab w)) :
  Calls Tryz.prog 30 #[.slice A n c,.int .i64 z,.int .i64 m] w fun e w'=>∃bb A',e=.returned (.tuple #[.pointer (some ⟨bb,0,none⟩),.int .i64 0])∧w.heap.size≤bb∧BsOk w' bb n most 0 A' C∧Below w.heap.size w w':=by
 subst hz hm;exact bnew_ok h hC hn hr hs m1 m2 hT
theorem betasL {w:World} {bb n most ne:Nat} {A:Option Addr} {C:List (List (Int×Rat))} (h:BsOk w bb n most ne A C) (z:Int) (hz:(ne:Int)=z):Calls Tryz.prog 38 #[.pointer (some ⟨bb,0,none⟩)] w fun e w'=>e=.returned (.int .i64 z)∧Below w.heap.size w w':=by
 subst hz;obtain⟨⟨C0,E,H,c,hc,fb,h1,rfl,_⟩,_⟩:=h;exact betas_q h1
section
variable {w:World} {bb n most ne bn bc r:Nat} {A X:Option Addr} {C:List (List (Int×Rat))} {Z:List (Int×Rat)} {z:Int}
theorem brepL_sing (h:BsOk w bb n most ne A C) (hz:(r:Int)=z) (hr:r<n) (hv:NV w X bn bc Z 4) (hR:rightC (n:Int) [Z]=true) (hs:(facUp (facT (C.set r Z) n) n).isNone=true) (hT:Hid (Tab w)):Calls Tryz.prog 32 #[.pointer (some ⟨bb,0,none⟩),.int .i64 z,.slice X bn bc] w fun e w'=>e=.returned (.int .i64 12)∧Below w.heap.size w w':=by
 subst hz;exact brep_sing h hr hv (right_one hR).1 (right_one hR).2 hs hT
theorem brepL_eta (h:BsOk w bb n most ne A C) (hz:(r:Int)=z) (hr:r<n) (hv:NV w X bn bc Z 4) (hR:rightC (n:Int) [Z]=true) (hm:ne+1<most) (hne:ne+1≤100) (hs:(facUp (facT (C.set r Z) n) n).isSome=true) (hT:Hid (Tab w)):Calls Tryz.prog 32 #[.pointer (some ⟨bb,0,none⟩),.int .i64 z,.slice X bn bc] w fun e w'=>e=.returned (.int .i64 0)∧∃A',BsOk w' bb n most (ne+1) A' (C.set r Z)∧Ch w w' bb:=by
 subst hz;exact brep_eta h hr hv (right_one hR).1 (right_one hR).2 hm hne hs hT
theorem brepL_fac (h:BsOk w bb n most ne A C) (hz:(r:Int)=z) (hr:r<n) (hv:NV w X bn bc Z 4) (hR:rightC (n:Int) [Z]=true) (hm:¬ne+1<most) (hs:(facUp (facT (C.set r Z) n) n).isSome=true) (hT:Hid (Tab w)):Calls Tryz.prog 32 #[.pointer (some ⟨bb,0,none⟩),.int .i64 z,.slice X bn bc] w fun e w'=>e=.returned (.int .i64 0)∧∃A',BsOk w' bb n most 0 A' (C.set r Z)∧Ch w w' bb:=by
 subst hz;exact brep_fac h hr hv (right_one hR).1 (right_one hR).2 hm hs hT
end
theorem term8_q {w:World} (at_ n:Int) (hn:Hid (-9223372036854775808≤n∧n≤9223372036854775807)) (hT:Hid (Tab w)):Calls Tryz.prog 37 #[.int .i64 at_,.int .i64 n] w (TellsT w at_ (qof n 1)):=by
 obtain⟨W,hW,x0,hB⟩:=zAd w #[.int .i64 0,.bool false,.slice none 0 0,.bool false,.slice none 0 0] 32;have HX0:=zh x0;clear x0;have Bz:=zr W;go_enter Tryz.func37,Tryz.ntmps37
 go_wp2_with fail
 rw[←hW];clear hW;go_wp2_with fail
 with_reducible refine(of_q n 1 hn (zh zo) (zt hT hB Bz)).mono ?_
 rintro e w1 ⟨s1,A1,c1,l1,s1r,A1r,c1r,l1r,rfl,h1,b1⟩;replace b1:=zq (a:=W) b1;replace Bz:=bT Bz b1;clear b1;obtain⟨pa0,pa1,pa2,pa3,pa4,-⟩:=(zx HX0 Bz).cz;have fa0:=(zx HX0 Bz).frozen 0;have fa1:=(zx HX0 Bz).frozen 1;have fa2:=(zx HX0 Bz).frozen 2;have fa3:=(zx HX0 Bz).frozen 3;have fa4:=(zx HX0 Bz).frozen 4;have y0:=(zx HX0 Bz).lt;go_wp2_with fail
 (try simp only[Exit.inBlock,Exit.then])
 refine bodyPost_ret (by simp[results,Tryz.results37,go_sem,pa0,pa1,pa2,pa3,pa4];try rfl) rfl ?_;obtain⟨V1,hW,x,kk,far,bel⟩:=store5 (.int .i64 at_) (.bool s1) (.slice A1 l1 c1) (.bool s1r) (.slice A1r l1r c1r) (zx HX0 Bz) nofun nofun nofun nofun nofun;rw[←hW];clear hW;replace h1:=h1.k kk;replace hB:=bel w.heap.size w zo (bT hB Bz);replace HX0:=zh x;clear x kk far bel Bz;have Bz:=zr V1;have hF:=bT (c:=V1) hB Bz;exact⟨_,_,_,_,_,_,_,_,rfl,RN.below h1,bT hF⟩
theorem awake8_q {w:World} (hT:Hid (Tab w)):Calls Tryz.prog 29 #[] w fun e w'=>e=.returned (.bool true)∧Below w.heap.size w w':=by
 have hB:=Below.refl w.heap.size w;have Bz:=zr w;go_enter Tryz.func29,Tryz.ntmps29
 go_wp2_with fail
 with_reducible refine(term8_q (0) (1) (zh zo) (zt hT hB Bz)).mono ?_
 rintro e w1 ⟨s1,A1,c1,l1,s1r,A1r,c1r,l1r,rfl,h1,b1⟩;replace b1:=zq (a:=w) b1;replace Bz:=bT Bz b1;clear b1;go_wp2_with fail
 obtain⟨V1,hW,x0,hN⟩:=zAd w1 #[.int .i64 0,.bool s1,.slice A1 l1 c1,.bool s1r,.slice A1r l1r c1r] 32;rw[←hW];clear hW;obtain⟨v0,hb0⟩:=ze w1.heap.size;rw[←hb0] at x0 ⊢;have ow_0:w.heap.size≤v0:=zi (zww hB Bz);replace h1:=h1.below hN;replace hB:=bT (bT hB Bz) hN;have HX0:=zh x0;clear x0 hN Bz hb0;have Bz:=zr V1;with_reducible refine(term8_q (1) (1) (zh zo) (zt hT hB Bz)).mono ?_
 rintro e w2 ⟨s2,A2,c2,l2,s2r,A2r,c2r,l2r,rfl,h2,b2⟩;replace b2:=zq (a:=V1) b2;replace h1:=h1.below b2;replace Bz:=bT Bz b2;clear b2;go_wp2_with fail
 obtain⟨V2,hW,x1,hN⟩:=zAd w2 #[.int .i64 1,.bool s2,.slice A2 l2 c2,.bool s2r,.slice A2r l2r c2r] 32;have hs1:V2.heap.size=w2.heap.size+1:=by rw[hW];simp
 rw[←hW];clear hW;obtain⟨v1,hb1⟩:=ze w2.heap.size;rw[←hb1] at x1 hs1 ⊢;have o0_1:v0<v1:=zi (zx HX0 Bz).lt;have ow_1:w.heap.size≤v1:=zi (zww hB Bz);replace h1:=h1.below hN;replace h2:=h2.below hN;replace hB:=bT (bT hB Bz) hN;replace HX0:=zba HX0 Bz hN;have HX1:=zh x1;clear x1 hN Bz hb1;have Bz:=zr V2;obtain⟨V3,hW,x2,hN⟩:=zAd V2 #[.slice (some ⟨v0,0,none⟩) 1 1,.slice (some ⟨v1,0,none⟩) 1 1] 35;have hs2:V3.heap.size=V2.heap.size+1:=by rw[hW];simp
 rw[←hW];clear hW;rw[hs1] at x2 hs2;obtain⟨v2,hb2⟩:=ze (v1+1);rw[←hb2] at x2 hs2  ⊢;have o0_2:v0<v2:=zi (zx HX0 Bz).lt;have o1_2:v1<v2:=zi (zx HX1 Bz).lt;have ow_2:w.heap.size≤v2:=zi (zww hB Bz);replace h1:=h1.below hN;replace h2:=h2.below hN;replace hB:=bT (bT hB Bz) hN;replace HX0:=zba HX0 Bz hN;replace HX1:=zba HX1 Bz hN;have HX2:=zh x2;clear x2 hN Bz hb2;have Bz:=zr V3;clear hs1;have hpz:w.heap.size≤V3.heap.size:=zi (zww hB Bz);with_reducible refine(bnewL (C:=[[(0,qof (1) 1)],[(1,qof (1) 1)]]) (most:=2) (z:=2) (m:=2) (CM.tight (cm_lit (n:=2) (M:=2) [⟨some ⟨v0,0,none⟩,1,1,[⟨0,⟨s1,A1,c1,l1,s1r,A1r,c1r,l1r,qof (1) 1,true⟩⟩]⟩,⟨some ⟨v1,0,none⟩,1,1,[⟨1,⟨s2,A2,c2,l2,s2r,A2r,c2r,l2r,qof (1) 1,true⟩⟩]⟩] (HX2.out.below (bT Bz)) rfl rfl (cns_cons (v:=⟨some ⟨v0,0,none⟩,1,1,[⟨0,⟨s1,A1,c1,l1,s1r,A1r,c1r,l1r,qof (1) 1,true⟩⟩]⟩) (cn_mk (sl_lit (HX0.out.below (bT Bz)) rfl rfl) (OnT.c 0 (RN.below h1) (sz_one zd zd zd) (OnT.nil _ _)) (fun h=>(by cases h))) (cns_cons (v:=⟨some ⟨v1,0,none⟩,1,1,[⟨1,⟨s2,A2,c2,l2,s2r,A2r,c2r,l2r,qof (1) 1,true⟩⟩]⟩) (cn_mk (sl_lit (HX1.out.below (bT Bz)) rfl rfl) (OnT.c 1 (RN.below h2) (sz_one zd zd zd) (OnT.nil _ _)) (fun h=>(by cases h))) (cns_nil _ _))) [[(0,qof (1) 1)],[(1,qof (1) 1)]] rfl) (by decide +kernel)) (by decide +kernel) zd (by decide +kernel) (by decide +kernel) zd zd rfl rfl (zt hT hB Bz)).mono ?_
 rintro e w3 ⟨bb3,AA3,rfl,hge3,h3,b3⟩;replace b3:=zq (a:=V3) b3;replace Bz:=bT Bz b3;clear b3;have hbz3:w.heap.size≤bb3:=zo;clear hpz hge3;go_wp2_with fail
 with_reducible refine(term8_q (0) (3) (zh zo) (zt hT hB Bz)).mono ?_
 rintro e w4 ⟨s4,A4,c4,l4,s4r,A4r,c4r,l4r,rfl,h4,b4⟩;replace b4:=zq (a:=w3) b4;replace h3:=h3.below b4;replace Bz:=bT Bz b4;clear b4;go_wp2_with fail
 obtain⟨V4,hW,x3,hN⟩:=zAd w4 #[.int .i64 0,.bool s4,.slice A4 l4 c4,.bool s4r,.slice A4r l4r c4r] 32;rw[←hW];clear hW;obtain⟨v3,hb3⟩:=ze w4.heap.size;rw[←hb3] at x3 ⊢;have o0_3:v0<v3:=zi (zx HX0 Bz).lt;have o1_3:v1<v3:=zi (zx HX1 Bz).lt;have o2_3:v2<v3:=zi (zx HX2 Bz).lt;have ow_3:w.heap.size≤v3:=zi (zww hB Bz);replace h4:=h4.below hN;replace h3:=h3.below hN;replace hB:=bT (bT hB Bz) hN;replace HX0:=zba HX0 Bz hN;replace HX1:=zba HX1 Bz hN;replace HX2:=zba HX2 Bz hN;have HX3:=zh x3;clear x3 hN Bz hb3;have Bz:=zr V4;with_reducible refine(bokF (BsOk.below h3) ((gv_lit (n:=1) [⟨0,⟨s4,A4,c4,l4,s4r,A4r,c4r,l4r,qof (3) 1,true⟩⟩] [(0,qof (3) 1)] rfl (HX3.out.below (bT Bz)) rfl rfl (OnT.c 0 (RN.below h4) (sz_one zd zd zd) (OnT.nil _ _))).mono (by decide:3≤3)) zd zd zd (by decide +kernel) (zt hT hB Bz)).mono ?_
 rintro e w5 ⟨A5,n5,c5,rfl,h5,l5,b5⟩;replace b5:=zq (a:=V4) b5;replace h3:=h3.below b5;replace Bz:=bT Bz b5;clear b5;go_wp2_with fail
 with_reducible refine(term8_q (0) (2) (zh zo) (zt hT hB Bz)).mono ?_
 rintro e w6 ⟨s6,A6,c6,l6,s6r,A6r,c6r,l6r,rfl,h6,b6⟩;replace b6:=zq (a:=w5) b6;replace h3:=h3.below b6;replace h5:=h5.below b6;replace Bz:=bT Bz b6;clear b6;go_wp2_with fail
 with_reducible refine(term8_q (1) (1) (zh zo) (zt hT hB Bz)).mono ?_
 rintro e w7 ⟨s7,A7,c7,l7,s7r,A7r,c7r,l7r,rfl,h7,b7⟩;replace b7:=zq (a:=w6) b7;replace h6:=h6.below b7;replace h3:=h3.below b7;replace h5:=h5.below b7;replace Bz:=bT Bz b7;clear b7;go_wp2_with fail
 obtain⟨V5,hW,x4,hN⟩:=zAd w7 #[.int .i64 0,.bool s6,.slice A6 l6 c6,.bool s6r,.slice A6r l6r c6r,.int .i64 1,.bool s7,.slice A7 l7 c7,.bool s7r,.slice A7r l7r c7r] 32;rw[←hW];clear hW;obtain⟨v4,hb4⟩:=ze w7.heap.size;rw[←hb4] at x4 ⊢;have o0_4:v0<v4:=zi (zx HX0 Bz).lt;have o1_4:v1<v4:=zi (zx HX1 Bz).lt;have o2_4:v2<v4:=zi (zx HX2 Bz).lt;have o3_4:v3<v4:=zi (zx HX3 Bz).lt;have ow_4:w.heap.size≤v4:=zi (zww hB Bz);replace h6:=h6.below hN;replace h7:=h7.below hN;replace h3:=h3.below hN;replace h5:=h5.below hN;replace hB:=bT (bT hB Bz) hN;replace HX0:=zba HX0 Bz hN;replace HX1:=zba HX1 Bz hN;replace HX2:=zba HX2 Bz hN;replace HX3:=zba HX3 Bz hN;have HX4:=zh x4;clear x4 hN Bz hb4;have Bz:=zr V5;have HBO:=zh (BsOk.bxx (BsOk.below h3));with_reducible refine(brepL_eta (BsOk.below h3) (r:=0) (z:=0) rfl zd (NV.mono (P:=[(0,qof (2) 1),(1,qof (1) 1)]) (nv_lit (n:=2) [⟨0,⟨s6,A6,c6,l6,s6r,A6r,c6r,l6r,qof (2) 1,true⟩⟩,⟨1,⟨s7,A7,c7,l7,s7r,A7r,c7r,l7r,qof (1) 1,true⟩⟩] [(0,qof (2) 1),(1,qof (1) 1)] rfl (HX4.out.below (bT Bz)) rfl rfl (OnT.c 0 (RN.below h6) (sz_one zd zd zd) (OnT.c 1 (RN.below h7) (sz_one zd zd zd) (OnT.nil _ _)))) zd) (by decide +kernel) zd zd (by decide +kernel) (zt hT hB Bz)).mono ?_
 rintro e w8 ⟨rfl,AA8,h8,ch8⟩;replace ch8:=(Ch.of_below (w:=V5) (by go_grown)).trans ch8;replace h5:=NV.chb h5 HBO.out ch8;clear HX0 HX1 HX2 HX3 HX4;replace hB:=(bT hB Bz).trans (ch8.below zo (zi (zww hB Bz)));replace HBO:=zh (BsOk.bxx h8);clear ch8 Bz;have Bz:=zr w8;go_wp2_with fail
 with_reducible refine(betasL (BsOk.below h8) 1 rfl).mono ?_
 rintro e w9 ⟨rfl,b9⟩;replace b9:=zq (a:=w8) b9;replace h8:=h8.below b9;replace h5:=h5.below b9;replace Bz:=bT Bz b9;clear b9;go_wp2_with fail
 with_reducible refine(term8_q (0) (2) (zh zo) (zt hT hB Bz)).mono ?_
 rintro e w10 ⟨s10,A10,c10,l10,s10r,A10r,c10r,l10r,rfl,h10,b10⟩;replace b10:=zq (a:=w9) b10;replace h8:=h8.below b10;replace h5:=h5.below b10;replace Bz:=bT Bz b10;clear b10;go_wp2_with fail
 with_reducible refine(term8_q (1) (1) (zh zo) (zt hT hB Bz)).mono ?_
 rintro e w11 ⟨s11,A11,c11,l11,s11r,A11r,c11r,l11r,rfl,h11,b11⟩;replace b11:=zq (a:=w10) b11;replace h10:=h10.below b11;replace h8:=h8.below b11;replace h5:=h5.below b11;replace Bz:=bT Bz b11;clear b11;go_wp2_with fail
 obtain⟨V6,hW,x0,hN⟩:=zAd w11 #[.int .i64 0,.bool s10,.slice A10 l10 c10,.bool s10r,.slice A10r l10r c10r,.int .i64 1,.bool s11,.slice A11 l11 c11,.bool s11r,.slice A11r l11r c11r] 32;rw[←hW];clear hW;obtain⟨v0,hb0⟩:=ze w11.heap.size;rw[←hb0] at x0 ⊢;have ow_0:w.heap.size≤v0:=zi (zww hB Bz);replace h10:=h10.below hN;replace h11:=h11.below hN;replace h8:=h8.below hN;replace h5:=h5.below hN;replace hB:=bT (bT hB Bz) hN;have HX0:=zh x0;clear x0 hN Bz hb0;have Bz:=zr V6;with_reducible refine(bokF (BsOk.below h8) ((gv_lit (n:=2) [⟨0,⟨s10,A10,c10,l10,s10r,A10r,c10r,l10r,qof (2) 1,true⟩⟩,⟨1,⟨s11,A11,c11,l11,s11r,A11r,c11r,l11r,qof (1) 1,true⟩⟩] [(0,qof (2) 1),(1,qof (1) 1)] rfl (HX0.out.below (bT Bz)) rfl rfl (OnT.c 0 (RN.below h10) (sz_one zd zd zd) (OnT.c 1 (RN.below h11) (sz_one zd zd zd) (OnT.nil _ _)))).mono (by decide:6≤6)) zd zd zd (by decide +kernel) (zt hT hB Bz)).mono ?_
 rintro e w12 ⟨A12,n12,c12,rfl,h12,l12,b12⟩;replace b12:=zq (a:=V6) b12;replace h8:=h8.below b12;replace h5:=h5.below b12;replace Bz:=bT Bz b12;clear b12;go_wp2_with fail
 with_reducible refine(term8_q (0) (4) (zh zo) (zt hT hB Bz)).mono ?_
 rintro e w13 ⟨s13,A13,c13,l13,s13r,A13r,c13r,l13r,rfl,h13,b13⟩;replace b13:=zq (a:=w12) b13;replace h8:=h8.below b13;replace h12:=h12.below b13;replace h5:=h5.below b13;replace Bz:=bT Bz b13;clear b13;go_wp2_with fail
 with_reducible refine(term8_q (1) (2) (zh zo) (zt hT hB Bz)).mono ?_
 rintro e w14 ⟨s14,A14,c14,l14,s14r,A14r,c14r,l14r,rfl,h14,b14⟩;replace b14:=zq (a:=w13) b14;replace h13:=h13.below b14;replace h8:=h8.below b14;replace h12:=h12.below b14;replace h5:=h5.below b14;replace Bz:=bT Bz b14;clear b14;go_wp2_with fail
 obtain⟨V7,hW,x1,hN⟩:=zAd w14 #[.int .i64 0,.bool s13,.slice A13 l13 c13,.bool s13r,.slice A13r l13r c13r,.int .i64 1,.bool s14,.slice A14 l14 c14,.bool s14r,.slice A14r l14r c14r] 32;rw[←hW];clear hW;obtain⟨v1,hb1⟩:=ze w14.heap.size;rw[←hb1] at x1 ⊢;have o0_1:v0<v1:=zi (zx HX0 Bz).lt;have ow_1:w.heap.size≤v1:=zi (zww hB Bz);replace h13:=h13.below hN;replace h14:=h14.below hN;replace h8:=h8.below hN;replace h12:=h12.below hN;replace h5:=h5.below hN;replace hB:=bT (bT hB Bz) hN;replace HX0:=zba HX0 Bz hN;have HX1:=zh x1;clear x1 hN Bz hb1;have Bz:=zr V7;with_reducible refine(brepL_sing (BsOk.below h8) (r:=1) (z:=1) rfl zd (NV.mono (P:=[(0,qof (4) 1),(1,qof (2) 1)]) (nv_lit (n:=2) [⟨0,⟨s13,A13,c13,l13,s13r,A13r,c13r,l13r,qof (4) 1,true⟩⟩,⟨1,⟨s14,A14,c14,l14,s14r,A14r,c14r,l14r,qof (2) 1,true⟩⟩] [(0,qof (4) 1),(1,qof (2) 1)] rfl (HX1.out.below (bT Bz)) rfl rfl (OnT.c 0 (RN.below h13) (sz_one zd zd zd) (OnT.c 1 (RN.below h14) (sz_one zd zd zd) (OnT.nil _ _)))) zd) (by decide +kernel) (by decide +kernel) (zt hT hB Bz)).mono ?_
 rintro e w15 ⟨rfl,b15⟩;replace b15:=zq (a:=V7) b15;replace h8:=h8.below b15;replace h12:=h12.below b15;replace h5:=h5.below b15;replace Bz:=bT Bz b15;clear b15;go_wp2_with fail
 with_reducible refine(term8_q (0) (1) (zh zo) (zt hT hB Bz)).mono ?_
 rintro e w16 ⟨s16,A16,c16,l16,s16r,A16r,c16r,l16r,rfl,h16,b16⟩;replace b16:=zq (a:=w15) b16;replace h8:=h8.below b16;replace h12:=h12.below b16;replace h5:=h5.below b16;replace Bz:=bT Bz b16;clear b16;go_wp2_with fail
 obtain⟨V8,hW,x2,hN⟩:=zAd w16 #[.int .i64 0,.bool s16,.slice A16 l16 c16,.bool s16r,.slice A16r l16r c16r] 32;rw[←hW];clear hW;obtain⟨v2,hb2⟩:=ze w16.heap.size;rw[←hb2] at x2 ⊢;have o0_2:v0<v2:=zi (zx HX0 Bz).lt;have o1_2:v1<v2:=zi (zx HX1 Bz).lt;have ow_2:w.heap.size≤v2:=zi (zww hB Bz);replace h16:=h16.below hN;replace h8:=h8.below hN;replace h12:=h12.below hN;replace h5:=h5.below hN;replace hB:=bT (bT hB Bz) hN;replace HX0:=zba HX0 Bz hN;replace HX1:=zba HX1 Bz hN;have HX2:=zh x2;clear x2 hN Bz hb2;have Bz:=zr V8;have HBO:=zh (BsOk.bxx (BsOk.below h8));with_reducible refine(brepL_fac (BsOk.below h8) (r:=1) (z:=1) rfl zd (NV.mono (P:=[(0,qof (1) 1)]) (nv_lit (n:=1) [⟨0,⟨s16,A16,c16,l16,s16r,A16r,c16r,l16r,qof (1) 1,true⟩⟩] [(0,qof (1) 1)] rfl (HX2.out.below (bT Bz)) rfl rfl (OnT.c 0 (RN.below h16) (sz_one zd zd zd) (OnT.nil _ _))) zd) (by decide +kernel) zd (by decide +kernel) (zt hT hB Bz)).mono ?_
 rintro e w17 ⟨rfl,AA17,h17,ch17⟩;replace ch17:=(Ch.of_below (w:=V8) (by go_grown)).trans ch17;replace h12:=NV.chb h12 HBO.out ch17;replace h5:=NV.chb h5 HBO.out ch17;clear HX0 HX1 HX2;replace hB:=(bT hB Bz).trans (ch17.below zo (zi (zww hB Bz)));replace HBO:=zh (BsOk.bxx h17);clear ch17 Bz;have Bz:=zr w17;go_wp2_with fail
 with_reducible refine(betasL (BsOk.below h17) 0 rfl).mono ?_
 rintro e w18 ⟨rfl,b18⟩;replace b18:=zq (a:=w17) b18;replace h12:=h12.below b18;replace h5:=h5.below b18;replace Bz:=bT Bz b18;clear b18;go_wp2_with fail
 with_reducible refine(term8_q (0) (3) (zh zo) (zt hT hB Bz)).mono ?_
 rintro e w19 ⟨s19,A19,c19,l19,s19r,A19r,c19r,l19r,rfl,h19,b19⟩;replace b19:=zq (a:=w18) b19;replace h12:=h12.below b19;replace h5:=h5.below b19;replace Bz:=bT Bz b19;clear b19;go_wp2_with fail
 obtain⟨V9,hW,x0,hN⟩:=zAd w19 #[.int .i64 0,.bool s19,.slice A19 l19 c19,.bool s19r,.slice A19r l19r c19r] 32;rw[←hW];clear hW;obtain⟨v0,hb0⟩:=ze w19.heap.size;rw[←hb0] at x0 ⊢;have ow_0:w.heap.size≤v0:=zi (zww hB Bz);replace h19:=h19.below hN;replace h12:=h12.below hN;replace h5:=h5.below hN;replace hB:=bT (bT hB Bz) hN;have HX0:=zh x0;clear x0 hN Bz hb0;have Bz:=zr V9;with_reducible refine(sameVec_q (P:=(layF 2 (back (fwd (facST [[(0,qof (1) 1)],[(1,qof (1) 1)]] 2) (pget [(0,qof (3) 1)])) (facST [[(0,qof (1) 1)],[(1,qof (1) 1)]] 2)))) (Q:=[(0,qof (3) 1)]) (NV.below h5) (nv_lit (n:=1) [⟨0,⟨s19,A19,c19,l19,s19r,A19r,c19r,l19r,qof (3) 1,true⟩⟩] [(0,qof (3) 1)] rfl (HX0.out.below (bT Bz)) rfl rfl (OnT.c 0 (RN.below h19) (sz_one zd zd zd) (OnT.nil _ _))) zd zd zo zo true (zh (by decide +kernel))).mono ?_
 rintro e w20 ⟨rfl,b20⟩;replace b20:=zq (a:=V9) b20;replace h12:=h12.below b20;replace Bz:=bT Bz b20;clear b20;go_wp2_with fail
 with_reducible refine(term8_q (0) (1) (zh zo) (zt hT hB Bz)).mono ?_
 rintro e w21 ⟨s21,A21,c21,l21,s21r,A21r,c21r,l21r,rfl,h21,b21⟩;replace b21:=zq (a:=w20) b21;replace h12:=h12.below b21;replace Bz:=bT Bz b21;clear b21;go_wp2_with fail
 obtain⟨V10,hW,x1,hN⟩:=zAd w21 #[.int .i64 0,.bool s21,.slice A21 l21 c21,.bool s21r,.slice A21r l21r c21r] 32;rw[←hW];clear hW;obtain⟨v1,hb1⟩:=ze w21.heap.size;rw[←hb1] at x1 ⊢;have o0_1:v0<v1:=zi (zx HX0 Bz).lt;have ow_1:w.heap.size≤v1:=zi (zww hB Bz);replace h21:=h21.below hN;replace h12:=h12.below hN;replace hB:=bT (bT hB Bz) hN;replace HX0:=zba HX0 Bz hN;have HX1:=zh x1;clear x1 hN Bz hb1;have Bz:=zr V10;with_reducible refine(sameVec_q (P:=(layF 2 (back (fwd (facST ([[(0,qof (1) 1)],[(1,qof (1) 1)]].set 0 [(0,qof (2) 1),(1,qof (1) 1)]) 2) (pget [(0,qof (2) 1),(1,qof (1) 1)])) (facST ([[(0,qof (1) 1)],[(1,qof (1) 1)]].set 0 [(0,qof (2) 1),(1,qof (1) 1)]) 2)))) (Q:=[(0,qof (1) 1)]) (NV.below h12) (nv_lit (n:=1) [⟨0,⟨s21,A21,c21,l21,s21r,A21r,c21r,l21r,qof (1) 1,true⟩⟩] [(0,qof (1) 1)] rfl (HX1.out.below (bT Bz)) rfl rfl (OnT.c 0 (RN.below h21) (sz_one zd zd zd) (OnT.nil _ _))) zd zd zo zo true (zh (by decide +kernel))).mono ?_
 rintro e w22 ⟨rfl,b22⟩;replace b22:=zq (a:=V10) b22;replace Bz:=bT Bz b22;clear b22;go_wp2_with fail
 go_ret
 have hF:=bT (c:=w22) hB Bz;exact⟨rfl,bT hF⟩
open Go.RowKit Tw
def BsNo (w:World) (p:Option Addr):Prop:=p=none∨∃bb,p=some ⟨bb,0,none⟩∧Bx w bb #[.slice none 0 0,.int .i64 0,.int .i64 0,.pointer none,.slice none 0 0] 73
theorem BsNo.below {w w':World} {p:Option Addr} (h:BsNo w p) (hb:Below w.heap.size w w':=by go_grown):BsNo w' p:=by
 rcases h with h | ⟨bb,h,h2⟩
 ·exact .inl h
 ·exact .inr ⟨bb,h,h2.below hb⟩
theorem bno_ftran {w:World} {p:Option Addr} {X:Value} (h:BsNo w p):Calls Tryz.prog 34 #[.pointer p,X] w fun e w'=>e=.returned (.tuple #[.slice none 0 0,.int .i64 1])∧Below w.heap.size w w':=by
 rcases h with rfl | ⟨bb,rfl,hbx⟩
 ·have hB:=Below.refl w.heap.size w;have Bz:=zr w;go_enter Tryz.func34,Tryz.ntmps34
  go_wp2_with fail
  with_reducible refine(none_nil (w:=w)).mono ?_
  rintro e w1 ⟨rfl,b1⟩;replace b1:=zq (a:=w) b1;replace Bz:=bT Bz b1;clear b1;go_wp2_with fail
  go_ret2
  have hF:=bT (c:=w1) hB Bz;exact⟨rfl,bT hF⟩
 ·have hB:=Below.refl w.heap.size w;have Bz:=zr w;go_enter Tryz.func34,Tryz.ntmps34
  go_wp2_with fail
  with_reducible refine(none_zero (hbx.below (bT hB (bT (b:=w) Bz)))).mono ?_
  rintro e w1 ⟨rfl,b1⟩;replace b1:=zq (a:=w) b1;replace Bz:=bT Bz b1;clear b1;go_wp2_with fail
  go_ret2
  have hF:=bT (c:=w1) hB Bz;exact⟨rfl,bT hF⟩
theorem bno_btran {w:World} {p:Option Addr} {X:Value} (h:BsNo w p):Calls Tryz.prog 35 #[.pointer p,X] w fun e w'=>e=.returned (.tuple #[.slice none 0 0,.int .i64 1])∧Below w.heap.size w w':=by
 rcases h with rfl | ⟨bb,rfl,hbx⟩
 ·have hB:=Below.refl w.heap.size w;have Bz:=zr w;go_enter Tryz.func35,Tryz.ntmps35
  go_wp2_with fail
  with_reducible refine(none_nil (w:=w)).mono ?_
  rintro e w1 ⟨rfl,b1⟩;replace b1:=zq (a:=w) b1;replace Bz:=bT Bz b1;clear b1;go_wp2_with fail
  go_ret2
  have hF:=bT (c:=w1) hB Bz;exact⟨rfl,bT hF⟩
 ·have hB:=Below.refl w.heap.size w;have Bz:=zr w;go_enter Tryz.func35,Tryz.ntmps35
  go_wp2_with fail
  with_reducible refine(none_zero (hbx.below (bT hB (bT (b:=w) Bz)))).mono ?_
  rintro e w1 ⟨rfl,b1⟩;replace b1:=zq (a:=w) b1;replace Bz:=bT Bz b1;clear b1;go_wp2_with fail
  go_ret2
  have hF:=bT (c:=w1) hB Bz;exact⟨rfl,bT hF⟩
theorem bno_cols {w:World} {p:Option Addr} (h:BsNo w p):Calls Tryz.prog 40 #[.pointer p] w fun e w'=>e=.returned (.slice none 0 0)∧Below w.heap.size w w':=by
 rcases h with rfl | ⟨bb,rfl,hbx⟩
 ·have hB:=Below.refl w.heap.size w;have Bz:=zr w;go_enter Tryz.func40,Tryz.ntmps40
  go_wp2_with fail
  with_reducible refine(none_nil (w:=w)).mono ?_
  rintro e w1 ⟨rfl,b1⟩;replace b1:=zq (a:=w) b1;replace Bz:=bT Bz b1;clear b1;go_wp2_with fail
  go_ret
  have hF:=bT (c:=w1) hB Bz;exact⟨rfl,bT hF⟩
 ·have hB:=Below.refl w.heap.size w;have Bz:=zr w;go_enter Tryz.func40,Tryz.ntmps40
  go_wp2_with fail
  with_reducible refine(none_zero (hbx.below (bT hB (bT (b:=w) Bz)))).mono ?_
  rintro e w1 ⟨rfl,b1⟩;replace b1:=zq (a:=w) b1;replace Bz:=bT Bz b1;clear b1;go_wp2_with fail
  go_ret
  have hF:=bT (c:=w1) hB Bz;exact⟨rfl,bT hF⟩
theorem bno_size {w:World} {p:Option Addr} (h:BsNo w p):Calls Tryz.prog 39 #[.pointer p] w fun e w'=>e=.returned (.int .i64 0)∧Below w.heap.size w w':=by
 rcases h with rfl | ⟨bb,rfl,hbx⟩
 ·have hB:=Below.refl w.heap.size w;have Bz:=zr w;go_enter Tryz.func39,Tryz.ntmps39
  go_wp2_with fail
  with_reducible refine(none_nil (w:=w)).mono ?_
  rintro e w1 ⟨rfl,b1⟩;replace b1:=zq (a:=w) b1;replace Bz:=bT Bz b1;clear b1;go_wp2_with fail
  go_ret
  have hF:=bT (c:=w1) hB Bz;exact⟨rfl,bT hF⟩
 ·have hB:=Below.refl w.heap.size w;have Bz:=zr w;go_enter Tryz.func39,Tryz.ntmps39
  go_wp2_with fail
  with_reducible refine(none_zero (hbx.below (bT hB (bT (b:=w) Bz)))).mono ?_
  rintro e w1 ⟨rfl,b1⟩;replace b1:=zq (a:=w) b1;replace Bz:=bT Bz b1;clear b1;go_wp2_with fail
  go_ret
  have hF:=bT (c:=w1) hB Bz;exact⟨rfl,bT hF⟩
theorem bno_etas {w:World} {p:Option Addr} (h:BsNo w p):Calls Tryz.prog 38 #[.pointer p] w fun e w'=>e=.returned (.int .i64 0)∧Below w.heap.size w w':=by
 rcases h with rfl | ⟨bb,rfl,hbx⟩
 ·have hB:=Below.refl w.heap.size w;have Bz:=zr w;go_enter Tryz.func38,Tryz.ntmps38
  go_wp2_with fail
  with_reducible refine(none_nil (w:=w)).mono ?_
  rintro e w1 ⟨rfl,b1⟩;replace b1:=zq (a:=w) b1;replace Bz:=bT Bz b1;clear b1;go_wp2_with fail
  go_ret
  have hF:=bT (c:=w1) hB Bz;exact⟨rfl,bT hF⟩
 ·have hB:=Below.refl w.heap.size w;have Bz:=zr w;go_enter Tryz.func38,Tryz.ntmps38
  go_wp2_with fail
  with_reducible refine(none_zero (hbx.below (bT hB (bT (b:=w) Bz)))).mono ?_
  rintro e w1 ⟨rfl,b1⟩;replace b1:=zq (a:=w) b1;replace Bz:=bT Bz b1;clear b1;go_wp2_with fail
  go_ret
  have hF:=bT (c:=w1) hB Bz;exact⟨rfl,bT hF⟩
theorem bno_replace {w:World} {p:Option Addr} {Y X:Value} (h:BsNo w p):Calls Tryz.prog 32 #[.pointer p,Y,X] w fun e w'=>e=.returned (.int .i64 1)∧Below w.heap.size w w':=by
 rcases h with rfl | ⟨bb,rfl,hbx⟩
 ·have hB:=Below.refl w.heap.size w;have Bz:=zr w;go_enter Tryz.func32,Tryz.ntmps32
  go_wp2_with fail
  with_reducible refine(none_nil (w:=w)).mono ?_
  rintro e w1 ⟨rfl,b1⟩;replace b1:=zq (a:=w) b1;replace Bz:=bT Bz b1;clear b1;go_wp2_with fail
  go_ret
  have hF:=bT (c:=w1) hB Bz;exact⟨rfl,bT hF⟩
 ·have hB:=Below.refl w.heap.size w;have Bz:=zr w;go_enter Tryz.func32,Tryz.ntmps32
  go_wp2_with fail
  with_reducible refine(none_zero (hbx.below (bT hB (bT (b:=w) Bz)))).mono ?_
  rintro e w1 ⟨rfl,b1⟩;replace b1:=zq (a:=w) b1;replace Bz:=bT Bz b1;clear b1;go_wp2_with fail
  go_ret
  have hF:=bT (c:=w1) hB Bz;exact⟨rfl,bT hF⟩
theorem bno_copy {w:World} {p:Option Addr} (h:BsNo w p):Calls Tryz.prog 36 #[.pointer p] w fun e w'=>e=.returned (.pointer none)∧Below w.heap.size w w':=by
 rcases h with rfl | ⟨bb,rfl,hbx⟩
 ·have hB:=Below.refl w.heap.size w;have Bz:=zr w;go_enter Tryz.func36,Tryz.ntmps36
  go_wp2_with fail
  with_reducible refine(none_nil (w:=w)).mono ?_
  rintro e w1 ⟨rfl,b1⟩;replace b1:=zq (a:=w) b1;replace Bz:=bT Bz b1;clear b1;go_wp2_with fail
  go_ret
  have hF:=bT (c:=w1) hB Bz;exact⟨rfl,bT hF⟩
 ·have hB:=Below.refl w.heap.size w;have Bz:=zr w;go_enter Tryz.func36,Tryz.ntmps36
  go_wp2_with fail
  with_reducible refine(none_zero (hbx.below (bT hB (bT (b:=w) Bz)))).mono ?_
  rintro e w1 ⟨rfl,b1⟩;replace b1:=zq (a:=w) b1;replace Bz:=bT Bz b1;clear b1;go_wp2_with fail
  go_ret
  have hF:=bT (c:=w1) hB Bz;exact⟨rfl,bT hF⟩
def BN1 (w:World) (gk:Nat) (s:Value) (wr:World):Prop:=∃i:Nat,i≤2∧2-i=gk∧s=.int .i64 (i:Int)∧Bx wr w.heap.size #[.slice none 0 0,.int .i64 0,.int .i64 0,.pointer none,.slice none 0 0] 73∧Bx wr (w.heap.size+1) #[.pointer none,.pointer (some ⟨w.heap.size,0,none⟩)] 57∧Below w.heap.size w wr
theorem basisNone_q {w:World} (y x:Value) (hT:Hid (Tab w)):Calls Tryz.prog 6 #[y,x] w (Yes w):=by
 obtain⟨W,hW,x0,x1,hB⟩:=boxes2 w #[.slice none 0 0,.int .i64 0,.int .i64 0,.pointer none,.slice none 0 0] 73 #[.pointer none,.pointer (some ⟨w.heap.size,0,none⟩)] 57;have HX0:=zh x0;have HX1:=zh x1;have HB:=zh hB;clear x0 x1 hB;go_enter Tryz.func6,Tryz.ntmps6
 go_wp2_with fail
 rw[←hW];clear hW;go_loopg [17] 2 (fun gk s wr=>BN1 w gk s wr)
 case atStart=>exact⟨0,Nat.zero_le _,rfl,rfl,HX0.out.below (by go_grown),HX1.out.below (by go_grown),bT HB.out⟩
 case round =>
  clear HX0 HX1 HB;obtain⟨i,hi,hgk,rfl,hx0,hx1,hB⟩:=hrel;have HGK:=zh hgk;clear hgk;by_cases hlt:i<2
  ·obtain⟨p,hno,hcp⟩:∃p,BsNo wr p∧wr.cell? ⟨w.heap.size+1,i,none⟩=some (.pointer p):=by
    by_cases h0:i=0
    ·subst h0;exact⟨none,.inl rfl,hx1.cell 0 (.pointer none) rfl⟩
    ·obtain rfl:i=1:=zo;exact⟨_,.inr ⟨_,rfl,hx0⟩,hx1.cell 1 (.pointer (some ⟨w.heap.size,0,none⟩)) rfl⟩
   have i1:(i:Int)<2:=zo;have i2:(0:Int)≤(i:Int):=zo;have Bz:=zr wr;have pA0:=hcp;go_wp2_with fail
   with_reducible refine(bno_ftran (BsNo.below hno)).mono ?_
   rintro e w11 ⟨rfl,b11⟩;replace b11:=zq (a:=wr) b11;replace Bz:=bT Bz b11;clear b11;clear pA0;go_wp2_with fail
   with_reducible refine(bno_btran (BsNo.below hno (bT Bz))).mono ?_
   rintro e w12 ⟨rfl,b12⟩;replace b12:=zq (a:=w11) b12;replace Bz:=bT Bz b12;clear b12;go_wp2_with fail
   with_reducible refine(bno_cols (BsNo.below hno (bT Bz))).mono ?_
   rintro e w13 ⟨rfl,b13⟩;replace b13:=zq (a:=w12) b13;replace Bz:=bT Bz b13;clear b13;go_wp2_with fail
   with_reducible refine(bno_size (BsNo.below hno (bT Bz))).mono ?_
   rintro e w14 ⟨rfl,b14⟩;replace b14:=zq (a:=w13) b14;replace Bz:=bT Bz b14;clear b14;go_wp2_with fail
   with_reducible refine(bno_etas (BsNo.below hno (bT Bz))).mono ?_
   rintro e w15 ⟨rfl,b15⟩;replace b15:=zq (a:=w14) b15;replace Bz:=bT Bz b15;clear b15;go_wp2_with fail
   with_reducible refine(bno_replace (BsNo.below hno (bT Bz))).mono ?_
   rintro e w16 ⟨rfl,b16⟩;replace b16:=zq (a:=w15) b16;replace Bz:=bT Bz b16;clear b16;go_wp2_with fail
   with_reducible refine(bno_copy (BsNo.below hno (bT Bz))).mono ?_
   rintro e w17 ⟨rfl,b17⟩;replace b17:=zq (a:=w16) b17;replace Bz:=bT Bz b17;clear b17;go_wp2_with fail
   go_roundg (2-(i+1))
   case measure=>have:=HGK.out;omega
   case rel=>exact⟨i+1,zo,rfl,by go_num,hx0.below (bT Bz),hx1.below (bT Bz),bT (bT hB Bz)⟩
  ·obtain rfl:i=2:=zo;have Bz:=zr wr;go_wp2_with fail
   with_reducible refine(awake8_q (zt hT hB Bz)).mono ?_
   rintro e w21 ⟨rfl,b21⟩;replace b21:=zq (a:=wr) b21;replace Bz:=bT Bz b21;clear b21;go_wp2_with fail
   go_ret
   have hF:=bT (c:=w21) hB Bz;exact⟨rfl,bT hF⟩
theorem basisNone_any {w:World} {n:Int} {x:Value} (_:-9223372036854775808≤n∧n≤9223372036854775807) (_:TsIn w x) (hT:Tab w):Calls Tryz.prog 6 #[.int .i64 n,x] w (Yes w):=basisNone_q (.int .i64 n) x (zh hT)
namespace basisNone
open Go.ChangeShapes Go.WideShapes Go.ChangeAt Go.RowKit Tw
theorem contract (H:Type) (enc:TypeId×Value→H) (W:World) (base:Nat) (args:Array Value) (ds gs:List (DataW H)) (before:List MemPlace)
  (hval:∀(j:Nat) t v,Tryz.f6.params[j]?=some t→args[j]?=some v→Value.okWide Tryz.prog W .any base t v)
  (hW:DataW.Whole enc Tryz.prog Tryz.f6.params.toList Rows.basisNoneSpec.vars false W args.toList ds gs before) (hL:laidMetH Tryz.prog Rows.basisNoneRow.laid W) :
  Calls Tryz.prog 6 args W fun e W'=>∃v,e=.returned v∧Rows.basisNoneSpec.post enc Tryz.prog Tryz.f6 false true false false W args v W':=by
 have hW':=hW;obtain⟨p,q,hA0,hV,rfl,hfz,hnd⟩:=hW;have hA:DataW.TrodAll enc Tryz.prog W 0 (fun _=>true) true Tryz.f6.params.toList args.toList ds p:=hA0;rw[Tryz.params6] at hA hval;obtain⟨v0,vs0,d0,ds0,p0,q0,hargs,rfl,rfl,h0,r0⟩:=trodAll_cons hA;obtain⟨v1,vs1,d1,ds1,p1,q1,rfl,rfl,rfl,h1,r1⟩:=trodAll_cons r0;obtain⟨rfl,rfl,rfl⟩:=trodAll_nil r1;obtain rfl:args=#[v0,v1]:=by cases args;simp_all
 obtain⟨rfl,rfl⟩:=trodVars_none hV;obtain⟨a0,rfl,rfl,rfl,w0⟩:=open_int Tryz.underlying3 (hval 0 3 v0 rfl rfl) h0;have lt1:∀x∈p1,x.block<W.heap.size:=by obtain⟨m,hm⟩:=h1;exact DataW.trod_lt m _ _ _ hm
 obtain⟨A1,l1,c1,rfl⟩:=okWide_slice Tryz.underlying34 (hval 1 34 v1 rfl rfl);have n1:=ts_of h1 ⟨_,_,_,rfl⟩;refine(basisNone_any (bounds_i64 w0) n1 (tab_of hL)).mono fun e W' ⟨he,bel⟩=>?_;subst he;exact⟨_,rfl,_,_,_,[],_,[],hW',trodAll_mk1 (shut_bool Tryz.underlying4 _),(trodAll_cons_mk (shut_int Tryz.underlying3 w0) (trodAll_cons_mk (Below.trod laidOut (by kernel_rfl) (of_decide_eq_true (by kernel_rfl)) h1 bel lt1) trodAll_mk0)),rfl,bel.frame _,fun h=>by cases h⟩
theorem laid_met (os:Os):laidMet Tryz.prog Rows.basisNoneRow.laid ((laidWorld os).forCall (fun _ _=>0) ⟨#[],#[.int .i64 0,.slice none 0 0],[]⟩).memory :=
 laidMet_of_run' 8 (by kernel_rfl) (by kernel_rfl)
theorem reads (os:Os) {H:Type} (enc:TypeId×Value→H):∃places,DataW.whole enc Tryz.prog ((laidWorld os).forCall (fun _ _=>0) ⟨#[],#[.int .i64 0,.slice none 0 0],[]⟩).memory Tryz.f6.params.toList Rows.basisNoneSpec.vars false (#[.int .i64 0,.slice none 0 0]:Array Value).toList 8=some ([.lit (.int .i64 0),.nil],[],places) :=
 ⟨[],by kernel_rfl⟩
theorem lifted (os:Os) (started:os.Started) (H:Type) (enc:TypeId×Value→H) (F:Stop.Interp) :
  ReturnsInHanded {} Tryz.checked os 6 .any ((OpenSpec.ofChange Rows.basisNoneSpec).preRow enc Tryz.prog Tryz.f6 Rows.basisNoneRow.domain false Rows.basisNoneRow.laid) (((OpenSpec.ofChange Rows.basisNoneSpec).at F).post enc Tryz.prog Tryz.f6 false true false false):=by
 obtain⟨places,hx⟩:=reads os enc;refine returnsInHanded_of_row (C:=Tryz.checked) (s:=OpenSpec.ofChange Rows.basisNoneSpec) own started (by kernel_rfl) Tryz.func6
  (witness_row_at (enc:=enc) (C:=Tryz.checked) false (laidWorld os) #[.int .i64 0,.slice none 0 0] rfl (by kernel_rfl) (by kernel_rfl) (by kernel_rfl)
   (OpenSpec.preRow_of_cond 8 hx (by kernel_rfl) (fun k hk=>by cases hk) (by kernel_rfl) (laid_met os))) ?_
 intro W base args ds gs before hval hW _ _ _ hL _ _;exact contract H enc W base args ds gs before hval hW hL
theorem said:Rows.BasisNoneSaid :=
 OpenClaim.holds_of_cond 6 Tryz.f6 rfl rfl rfl rfl rfl rfl rfl ⟨rfl,rfl,rfl,rfl,rfl⟩ rfl rfl rfl rfl rfl (by kernel_rfl) Tryz.func6 (by kernel_rfl)
  (of_decide_eq_true (by kernel_rfl)) (by unfold Func.isWrapper;first | (rw[if_pos (by decide +kernel)];kernel_rfl) | (rw[if_neg (by decide +kernel)];exact⟨rfl,rfl⟩))
  (fun os started H enc _ F=>by rw[OpenClaim.pre_eq_preRow];exact lifted os started H enc F)
theorem plain (f : FuncId) (fn : Func) (hf : Tryz.pinned.checked.prog.funcNamed "tripwire/tripwirelaw08.BasisNone" = some f) (hfn : Tryz.pinned.checked.prog.funcs[f]? = some fn) :
  false=Tryz.pinned.checked.prog.looks []∧∀(j:Nat) t,fn.params[j]?=some t→Tryz.pinned.checked.prog.wantsStandIn t=false:=by
 obtain rfl : f = 6 := Option.some.inj ((show Tryz.prog.funcNamed "tripwire/tripwirelaw08.BasisNone" = some 6 by kernel_rfl).symm.trans hf) |>.symm;obtain rfl:fn=Tryz.f6:=(Option.some.inj (Tryz.func6.symm.trans hfn)).symm;refine⟨by kernel_rfl,fun j t ht=>?_⟩;rw[Tryz.params6] at ht;have hm:=Array.mem_of_getElem? ht;simp only[List.mem_toArray,List.mem_cons,List.not_mem_nil,or_false] at hm
 rcases hm with rfl | rfl
 ·exact(show Tryz.prog.wantsStandIn 3=false by kernel_rfl)
 ·exact(show Tryz.prog.wantsStandIn 34=false by kernel_rfl)
theorem card:Rows.BasisNoneCardSaid :=
 Claim7.holds_tied_plain_at .later [] _ _ _ _ said (fun _ h=>by cases h) (by kernel_rfl) (fun _ h=>by cases h) basisNone_row_tie rfl ⟨rfl,rfl⟩ (by kernel_rfl) rfl plain (by kernel_rfl)
end basisNone
end Go.Proofs.YtfpbmpllildbaaaGreatDoor
