/-
  Vectors are a vector space, in plain Lean; contracts with numbers; the examples of layer 5. Written by wip/gen/so8.py.
-/
import Derived.Test.YtldcfmangolkoaaGreatDoorYSo5
namespace Go.Proofs.YtldcfmangolkoaaGreatDoor
open Go.RowKit Tw
def TellsW (w:World) (P:List (Int×Rat)) (K N:Nat) (e:Ending) (w':World):Prop:=∃A n c,e=.returned (.slice A n c)∧NV w' A n c P K∧n≤N∧Below w.heap.size w w'
def TellsNum (w:World) (q:Rat) (K:Nat) (e:Ending) (w':World):Prop:=∃s A c l s' A' c' l',e=.returned (.agg #[.bool s,.slice A l c,.bool s',.slice A' l' c'])∧RN w' s A c l s' A' c' l' q∧sz q≤K∧Below w.heap.size w w'
theorem TellsV.w {w w':World} {P:List (Int×Rat)} {M K N:Nat} {e:Ending} (h:TellsV w P M e w') (hK:M≤K) (hN:P.length≤N):TellsW w P K N e w':=by
 obtain⟨A,n,c,rfl,h1,h2⟩:=h
 exact⟨A,n,c,rfl,h1.mono hK,by have:=h1.len;omega,h2⟩
theorem TellsR.num {w w':World} {q:Rat} {K:Nat} {e:Ending} (h:TellsR w q e w') (hK:sz q≤K):TellsNum w q K e w':=by
 obtain⟨s,A,c,l,s',A',c',l',rfl,h1,h2⟩:=h
 exact⟨s,A,c,l,s',A',c',l',rfl,h1,hK,h2⟩
theorem GV.size {w:World} {A:Option Addr} {n c M N:Nat} {P:List (Int×Rat)} (h:GV w A n c P M) (hn:n≤N):P.length≤N:=by rw[h.len];exact hn
def TellsT (w:World) (at_:Int) (q:Rat) (e:Ending) (w':World):Prop:=∃s A c l s' A' c' l',e=.returned (.agg #[.int .i64 at_,.bool s,.slice A l c,.bool s',.slice A' l' c'])∧RN w' s A c l s' A' c' l' q∧Below w.heap.size w w'
set_option maxRecDepth 100000 in
set_option maxHeartbeats 4000000 in
theorem term_q {w:World} (at_ n d:Int) (hn:Hid (-9223372036854775808≤n∧n≤9223372036854775807)) (hd:Hid (-9223372036854775808≤d∧d≤9223372036854775807)) (hT:Hid (Tab w)) :
  Calls Tryz.prog 88 #[.int .i64 at_,.int .i64 n,.int .i64 d] w (TellsT w at_ (qof n d)):=by
 obtain⟨W,hW,x0,hB⟩:=zAi w #[.int .i64 0,.bool false,.slice none 0 0,.bool false,.slice none 0 0] 118
 have HX0:=Lib.hid x0
 clear x0
 have Bz:=Below.refl W.heap.size W
 go_enter Tryz.func88,Tryz.ntmps88
 go_wp2_with fail
 rw[←hW]
 clear hW
 go_wp2_with fail
 with_reducible refine(of_q n d hn hd (Lib.hid (Tab.below hT.out (zAa hB (zAa (b:=W) Bz (by go_grown)))))).mono ?_
 rintro e w1 ⟨s1,A1,c1,l1,s1r,A1r,c1r,l1r,rfl,h1,b1⟩
 replace b1:=zAa (a:=W) (by go_grown) b1
 replace Bz:=zAa Bz b1
 clear b1
 have p0_0:=(HX0.out.below Bz).cell 0 (.int .i64 0) rfl
 have p0_1:=(HX0.out.below Bz).cell 1 (.bool false) rfl
 have p0_2:=(HX0.out.below Bz).cell 2 (.slice none 0 0) rfl
 have p0_3:=(HX0.out.below Bz).cell 3 (.bool false) rfl
 have p0_4:=(HX0.out.below Bz).cell 4 (.slice none 0 0) rfl
 have f0_0:=(HX0.out.below Bz).frozen 0
 have f0_1:=(HX0.out.below Bz).frozen 1
 have f0_2:=(HX0.out.below Bz).frozen 2
 have f0_3:=(HX0.out.below Bz).frozen 3
 have f0_4:=(HX0.out.below Bz).frozen 4
 have y0:=(HX0.out.below Bz).lt
 go_wp2_with fail
 (try simp only[Exit.inBlock,Exit.then])
 refine bodyPost_ret (by simp[results,Tryz.results88,go_sem,p0_0,p0_1,p0_2,p0_3,p0_4];try rfl) rfl ?_
 obtain⟨V1,hW,x,kk,far,bel⟩:=store5 (.int .i64 at_) (.bool s1) (.slice A1 l1 c1) (.bool s1r) (.slice A1r l1r c1r) (HX0.out.below Bz) (fun _ e=>by cases e) (fun _ e=>by cases e) (fun _ e=>by cases e) (fun _ e=>by cases e) (fun _ e=>by cases e)
 rw[←hW]
 clear hW
 replace h1:=h1.k kk
 replace hB:=bel w.heap.size w (by omega) (zAa hB Bz)
 replace HX0:=Lib.hid x
 clear x kk far bel Bz
 have Bz:=Below.refl V1.heap.size V1
 have hF:=zAa (c:=V1) hB Bz
 exact⟨_,_,_,_,_,_,_,_,rfl,RN.below h1 (by go_grown),zAa hF (by go_grown)⟩
theorem OnT.c {w:World} {L:List Tm} {s s':Bool} {A A':Option Addr} {c l c' l':Nat} {q:Rat} (at_:Int) (h:RN w s A c l s' A' c' l' q) (hs:sz q≤1) (hL:OnT w L (fun _=>2)):OnT w (⟨at_,⟨s,A,c,l,s',A',c',l',q,true⟩⟩ :: L) (fun _=>2):=fun t ht=>by
 rcases List.mem_cons.1 ht with rfl | ht
 ·exact⟨h,rfl,by simp only;omega⟩
 ·exact hL t ht
theorem wsum_small {w:World} {L:List Tm} (h:OnT w L (fun _=>2)) (a:Int):wsum L a≤3*L.length:=by
 induction L with
 | nil=>exact Nat.le_refl _
 | cons x L ih =>
  have h1:=ih fun t ht=>h t (List.mem_cons_of_mem _ ht)
  have h2:=h.dg x List.mem_cons_self
  have h3:=(h x List.mem_cons_self).2.2
  simp only[wsum,List.length_cons] at h3 ⊢
  split<;>omega
theorem sl_lit {w:World} {b n:Nat} {cs:Array Value} {te:TypeId} {L:List Tm} (h:Bx w b cs te) (hcs:cs.toList=flat Tm.cs L) (hl:L.length=n):Sl Tm.cs 5 w (some ⟨b,0,none⟩) n n L:=by
 subst hl
 refine⟨rfl,by rw[flat_len Tm.cs_len],_,_,rfl,(fun h=>(by cases h)),fun a ha j u hu=>?_⟩
 cases ha
 rw[add_off,Nat.zero_add]
 refine h.cell j u ?_
 rw[←hcs] at hu
 simpa using hu
theorem nv_lit {w:World} {b n:Nat} {cs:Array Value} {te:TypeId} (L:List Tm) (P:List (Int×Rat)) (hp:prs L=P) (h:Bx w b cs te) (hcs:cs.toList=flat Tm.cs L) (hl:L.length=n) (hon:OnT w L (fun _=>2)):NV w (some ⟨b,0,none⟩) n n P 2:=⟨L,sl_lit h hcs hl,hon,hp,(fun h=>(by cases h))⟩
theorem gv_lit {w:World} {b n:Nat} {cs:Array Value} {te:TypeId} (L:List Tm) (P:List (Int×Rat)) (hp:prs L=P) (h:Bx w b cs te) (hcs:cs.toList=flat Tm.cs L) (hl:L.length=n) (hon:OnT w L (fun _=>2)):GV w (some ⟨b,0,none⟩) n n P (3*n):=⟨L,sl_lit h hcs hl,hon.ok,hp,fun a=>by rw[←hl];exact wsum_small hon a,(fun h=>(by cases h))⟩
set_option maxRecDepth 100000 in
set_option maxHeartbeats 4000000 in
theorem awake5_q {w:World} (hT:Hid (Tab w)):Calls Tryz.prog 22 #[] w fun e w'=>e=.returned (.bool true)∧Below w.heap.size w w':=by
 have hdz:sz (pdot [(0,qof (1) 1),(2,qof (3) 1)] [(2,qof (1) 3),(5,qof (9) 1)])≤1:=by
  rw[show pdot [(0,qof (1) 1),(2,qof (3) 1)] [(2,qof (1) 3),(5,qof (9) 1)]=qof 1 1 by decide +kernel]
  exact sz_one (by decide) (by decide) (by decide)
 have hB:=Below.refl w.heap.size w
 have Bz:=Below.refl w.heap.size w
 go_enter Tryz.func22,Tryz.ntmps22
 go_wp2_with fail
 with_reducible refine(term_q 2 (1) 1 (Lib.hid (by omega)) (Lib.hid (by omega)) (Lib.hid (Tab.below hT.out (zAa hB (zAa (b:=w) Bz (by go_grown)))))).mono ?_
 rintro e w1 ⟨s1,A1,c1,l1,s1r,A1r,c1r,l1r,rfl,h1,b1⟩
 replace b1:=zAa (a:=w) (by go_grown) b1
 replace Bz:=zAa Bz b1
 clear b1
 go_wp2_with fail
 with_reducible refine(term_q 0 (1) 2 (Lib.hid (by omega)) (Lib.hid (by omega)) (Lib.hid (Tab.below hT.out (zAa hB (zAa (b:=w1) Bz (by go_grown)))))).mono ?_
 rintro e w2 ⟨s2,A2,c2,l2,s2r,A2r,c2r,l2r,rfl,h2,b2⟩
 replace b2:=zAa (a:=w1) (by go_grown) b2
 replace h1:=h1.below b2
 replace Bz:=zAa Bz b2
 clear b2
 go_wp2_with fail
 with_reducible refine(term_q 2 (-1) 1 (Lib.hid (by omega)) (Lib.hid (by omega)) (Lib.hid (Tab.below hT.out (zAa hB (zAa (b:=w2) Bz (by go_grown)))))).mono ?_
 rintro e w3 ⟨s3,A3,c3,l3,s3r,A3r,c3r,l3r,rfl,h3,b3⟩
 replace b3:=zAa (a:=w2) (by go_grown) b3
 replace h1:=h1.below b3
 replace h2:=h2.below b3
 replace Bz:=zAa Bz b3
 clear b3
 go_wp2_with fail
 obtain⟨V1,hW,x0,hN⟩:=zAi w3 #[.int .i64 2,.bool s1,.slice A1 l1 c1,.bool s1r,.slice A1r l1r c1r,.int .i64 0,.bool s2,.slice A2 l2 c2,.bool s2r,.slice A2r l2r c2r,.int .i64 2,.bool s3,.slice A3 l3 c3,.bool s3r,.slice A3r l3r c3r] 118
 rw[←hW]
 clear hW
 obtain⟨v0,hb0⟩:∃b,b=w3.heap.size:=⟨_,rfl⟩
 rw[←hb0] at x0 ⊢
 have ow_0:w.heap.size≤v0:=by have:=hB.size;have:=Bz.size;omega
 replace h1:=h1.below hN
 replace h2:=h2.below hN
 replace h3:=h3.below hN
 replace hB:=zAa (zAa hB Bz) hN
 have HX0:=Lib.hid x0
 clear x0 hN Bz hb0
 have Bz:=Below.refl V1.heap.size V1
 with_reducible refine(normV_q (gv_lit (n:=3) [⟨2,⟨s1,A1,c1,l1,s1r,A1r,c1r,l1r,qof (1) 1,true⟩⟩,⟨0,⟨s2,A2,c2,l2,s2r,A2r,c2r,l2r,qof (1) 2,true⟩⟩,⟨2,⟨s3,A3,c3,l3,s3r,A3r,c3r,l3r,qof (-1) 1,true⟩⟩] [(2,qof (1) 1),(0,qof (1) 2),(2,qof (-1) 1)] rfl (HX0.out.below (zAa Bz (by go_grown))) rfl rfl (OnT.c 2 (RN.below h1 (by go_grown)) (sz_one (by decide) (by decide) (by decide)) (OnT.c 0 (RN.below h2 (by go_grown)) (sz_one (by decide) (by decide) (by decide)) (OnT.c 2 (RN.below h3 (by go_grown)) (sz_one (by decide) (by decide) (by decide)) (OnT.nil _ _))))) (by omega) (by omega) (Lib.hid (Tab.below hT.out (zAa hB (zAa (b:=V1) Bz (by go_grown)))))).mono ?_
 rintro e w4 ⟨A4,n4,c4,rfl,h4,b4⟩
 replace b4:=zAa (a:=V1) (by go_grown) b4
 replace Bz:=zAa Bz b4
 clear b4
 have l4:=h4.len
 go_wp2_with fail
 with_reducible refine(term_q 0 (1) 1 (Lib.hid (by omega)) (Lib.hid (by omega)) (Lib.hid (Tab.below hT.out (zAa hB (zAa (b:=w4) Bz (by go_grown)))))).mono ?_
 rintro e w5 ⟨s5,A5,c5,l5,s5r,A5r,c5r,l5r,rfl,h5,b5⟩
 replace b5:=zAa (a:=w4) (by go_grown) b5
 replace h4:=h4.below b5
 replace Bz:=zAa Bz b5
 clear b5
 go_wp2_with fail
 with_reducible refine(term_q 3 (2) 1 (Lib.hid (by omega)) (Lib.hid (by omega)) (Lib.hid (Tab.below hT.out (zAa hB (zAa (b:=w5) Bz (by go_grown)))))).mono ?_
 rintro e w6 ⟨s6,A6,c6,l6,s6r,A6r,c6r,l6r,rfl,h6,b6⟩
 replace b6:=zAa (a:=w5) (by go_grown) b6
 replace h5:=h5.below b6
 replace h4:=h4.below b6
 replace Bz:=zAa Bz b6
 clear b6
 go_wp2_with fail
 obtain⟨V2,hW,x1,hN⟩:=zAi w6 #[.int .i64 0,.bool s5,.slice A5 l5 c5,.bool s5r,.slice A5r l5r c5r,.int .i64 3,.bool s6,.slice A6 l6 c6,.bool s6r,.slice A6r l6r c6r] 118
 rw[←hW]
 clear hW
 obtain⟨v1,hb1⟩:∃b,b=w6.heap.size:=⟨_,rfl⟩
 rw[←hb1] at x1 ⊢
 have o0_1:v0<v1:=by have:=(HX0.out.below Bz).lt;omega
 have ow_1:w.heap.size≤v1:=by have:=hB.size;have:=Bz.size;omega
 replace h5:=h5.below hN
 replace h6:=h6.below hN
 replace h4:=h4.below hN
 replace hB:=zAa (zAa hB Bz) hN
 replace HX0:=Lib.hid ((HX0.out.below Bz).below hN)
 have HX1:=Lib.hid x1
 clear x1 hN Bz hb1
 have Bz:=Below.refl V2.heap.size V2
 with_reducible refine(term_q 3 (-2) 1 (Lib.hid (by omega)) (Lib.hid (by omega)) (Lib.hid (Tab.below hT.out (zAa hB (zAa (b:=V2) Bz (by go_grown)))))).mono ?_
 rintro e w7 ⟨s7,A7,c7,l7,s7r,A7r,c7r,l7r,rfl,h7,b7⟩
 replace b7:=zAa (a:=V2) (by go_grown) b7
 replace h5:=h5.below b7
 replace h6:=h6.below b7
 replace h4:=h4.below b7
 replace Bz:=zAa Bz b7
 clear b7
 go_wp2_with fail
 with_reducible refine(term_q 4 (1) 1 (Lib.hid (by omega)) (Lib.hid (by omega)) (Lib.hid (Tab.below hT.out (zAa hB (zAa (b:=w7) Bz (by go_grown)))))).mono ?_
 rintro e w8 ⟨s8,A8,c8,l8,s8r,A8r,c8r,l8r,rfl,h8,b8⟩
 replace b8:=zAa (a:=w7) (by go_grown) b8
 replace h5:=h5.below b8
 replace h6:=h6.below b8
 replace h7:=h7.below b8
 replace h4:=h4.below b8
 replace Bz:=zAa Bz b8
 clear b8
 go_wp2_with fail
 obtain⟨V3,hW,x2,hN⟩:=zAi w8 #[.int .i64 3,.bool s7,.slice A7 l7 c7,.bool s7r,.slice A7r l7r c7r,.int .i64 4,.bool s8,.slice A8 l8 c8,.bool s8r,.slice A8r l8r c8r] 118
 rw[←hW]
 clear hW
 obtain⟨v2,hb2⟩:∃b,b=w8.heap.size:=⟨_,rfl⟩
 rw[←hb2] at x2 ⊢
 have o0_2:v0<v2:=by have:=(HX0.out.below Bz).lt;omega
 have o1_2:v1<v2:=by have:=(HX1.out.below Bz).lt;omega
 have ow_2:w.heap.size≤v2:=by have:=hB.size;have:=Bz.size;omega
 replace h5:=h5.below hN
 replace h6:=h6.below hN
 replace h7:=h7.below hN
 replace h8:=h8.below hN
 replace h4:=h4.below hN
 replace hB:=zAa (zAa hB Bz) hN
 replace HX0:=Lib.hid ((HX0.out.below Bz).below hN)
 replace HX1:=Lib.hid ((HX1.out.below Bz).below hN)
 have HX2:=Lib.hid x2
 clear x2 hN Bz hb2
 have Bz:=Below.refl V3.heap.size V3
 with_reducible refine(addV_q (gv_lit (n:=2) [⟨0,⟨s5,A5,c5,l5,s5r,A5r,c5r,l5r,qof (1) 1,true⟩⟩,⟨3,⟨s6,A6,c6,l6,s6r,A6r,c6r,l6r,qof (2) 1,true⟩⟩] [(0,qof (1) 1),(3,qof (2) 1)] rfl (HX1.out.below (zAa Bz (by go_grown))) rfl rfl (OnT.c 0 (RN.below h5 (by go_grown)) (sz_one (by decide) (by decide) (by decide)) (OnT.c 3 (RN.below h6 (by go_grown)) (sz_one (by decide) (by decide) (by decide)) (OnT.nil _ _)))) (gv_lit (n:=2) [⟨3,⟨s7,A7,c7,l7,s7r,A7r,c7r,l7r,qof (-2) 1,true⟩⟩,⟨4,⟨s8,A8,c8,l8,s8r,A8r,c8r,l8r,qof (1) 1,true⟩⟩] [(3,qof (-2) 1),(4,qof (1) 1)] rfl (HX2.out.below (zAa Bz (by go_grown))) rfl rfl (OnT.c 3 (RN.below h7 (by go_grown)) (sz_one (by decide) (by decide) (by decide)) (OnT.c 4 (RN.below h8 (by go_grown)) (sz_one (by decide) (by decide) (by decide)) (OnT.nil _ _)))) (by omega) (by omega) (by omega) (Lib.hid (Tab.below hT.out (zAa hB (zAa (b:=V3) Bz (by go_grown)))))).mono ?_
 rintro e w9 ⟨A9,n9,c9,rfl,h9,b9⟩
 replace b9:=zAa (a:=V3) (by go_grown) b9
 replace h4:=h4.below b9
 replace Bz:=zAa Bz b9
 clear b9
 have l9:=h9.len
 go_wp2_with fail
 with_reducible refine(term_q 0 (1) 1 (Lib.hid (by omega)) (Lib.hid (by omega)) (Lib.hid (Tab.below hT.out (zAa hB (zAa (b:=w9) Bz (by go_grown)))))).mono ?_
 rintro e w10 ⟨s10,A10,c10,l10,s10r,A10r,c10r,l10r,rfl,h10,b10⟩
 replace b10:=zAa (a:=w9) (by go_grown) b10
 replace h4:=h4.below b10
 replace h9:=h9.below b10
 replace Bz:=zAa Bz b10
 clear b10
 go_wp2_with fail
 obtain⟨V4,hW,x3,hN⟩:=zAi w10 #[.int .i64 0,.bool s10,.slice A10 l10 c10,.bool s10r,.slice A10r l10r c10r] 118
 rw[←hW]
 clear hW
 obtain⟨v3,hb3⟩:∃b,b=w10.heap.size:=⟨_,rfl⟩
 rw[←hb3] at x3 ⊢
 have o0_3:v0<v3:=by have:=(HX0.out.below Bz).lt;omega
 have o1_3:v1<v3:=by have:=(HX1.out.below Bz).lt;omega
 have o2_3:v2<v3:=by have:=(HX2.out.below Bz).lt;omega
 have ow_3:w.heap.size≤v3:=by have:=hB.size;have:=Bz.size;omega
 replace h10:=h10.below hN
 replace h4:=h4.below hN
 replace h9:=h9.below hN
 replace hB:=zAa (zAa hB Bz) hN
 replace HX0:=Lib.hid ((HX0.out.below Bz).below hN)
 replace HX1:=Lib.hid ((HX1.out.below Bz).below hN)
 replace HX2:=Lib.hid ((HX2.out.below Bz).below hN)
 have HX3:=Lib.hid x3
 clear x3 hN Bz hb3
 have Bz:=Below.refl V4.heap.size V4
 with_reducible refine(of_q (-2) 1 (Lib.hid (by omega)) (Lib.hid (by omega)) (Lib.hid (Tab.below hT.out (zAa hB (zAa (b:=V4) Bz (by go_grown)))))).mono ?_
 rintro e w11 ⟨s11,A11,c11,l11,s11r,A11r,c11r,l11r,rfl,h11,b11⟩
 replace b11:=zAa (a:=V4) (by go_grown) b11
 replace h10:=h10.below b11
 replace h4:=h4.below b11
 replace h9:=h9.below b11
 replace Bz:=zAa Bz b11
 clear b11
 go_wp2_with fail
 with_reducible refine(term_q 0 (1) 2 (Lib.hid (by omega)) (Lib.hid (by omega)) (Lib.hid (Tab.below hT.out (zAa hB (zAa (b:=w11) Bz (by go_grown)))))).mono ?_
 rintro e w12 ⟨s12,A12,c12,l12,s12r,A12r,c12r,l12r,rfl,h12,b12⟩
 replace b12:=zAa (a:=w11) (by go_grown) b12
 replace h10:=h10.below b12
 replace h11:=h11.below b12
 replace h4:=h4.below b12
 replace h9:=h9.below b12
 replace Bz:=zAa Bz b12
 clear b12
 go_wp2_with fail
 with_reducible refine(term_q 1 (1) 1 (Lib.hid (by omega)) (Lib.hid (by omega)) (Lib.hid (Tab.below hT.out (zAa hB (zAa (b:=w12) Bz (by go_grown)))))).mono ?_
 rintro e w13 ⟨s13,A13,c13,l13,s13r,A13r,c13r,l13r,rfl,h13,b13⟩
 replace b13:=zAa (a:=w12) (by go_grown) b13
 replace h10:=h10.below b13
 replace h11:=h11.below b13
 replace h12:=h12.below b13
 replace h4:=h4.below b13
 replace h9:=h9.below b13
 replace Bz:=zAa Bz b13
 clear b13
 go_wp2_with fail
 obtain⟨V5,hW,x4,hN⟩:=zAi w13 #[.int .i64 0,.bool s12,.slice A12 l12 c12,.bool s12r,.slice A12r l12r c12r,.int .i64 1,.bool s13,.slice A13 l13 c13,.bool s13r,.slice A13r l13r c13r] 118
 rw[←hW]
 clear hW
 obtain⟨v4,hb4⟩:∃b,b=w13.heap.size:=⟨_,rfl⟩
 rw[←hb4] at x4 ⊢
 have o0_4:v0<v4:=by have:=(HX0.out.below Bz).lt;omega
 have o1_4:v1<v4:=by have:=(HX1.out.below Bz).lt;omega
 have o2_4:v2<v4:=by have:=(HX2.out.below Bz).lt;omega
 have o3_4:v3<v4:=by have:=(HX3.out.below Bz).lt;omega
 have ow_4:w.heap.size≤v4:=by have:=hB.size;have:=Bz.size;omega
 replace h10:=h10.below hN
 replace h11:=h11.below hN
 replace h12:=h12.below hN
 replace h13:=h13.below hN
 replace h4:=h4.below hN
 replace h9:=h9.below hN
 replace hB:=zAa (zAa hB Bz) hN
 replace HX0:=Lib.hid ((HX0.out.below Bz).below hN)
 replace HX1:=Lib.hid ((HX1.out.below Bz).below hN)
 replace HX2:=Lib.hid ((HX2.out.below Bz).below hN)
 replace HX3:=Lib.hid ((HX3.out.below Bz).below hN)
 have HX4:=Lib.hid x4
 clear x4 hN Bz hb4
 have Bz:=Below.refl V5.heap.size V5
 with_reducible refine(axpyV_q (mq:=1) (gv_lit (n:=1) [⟨0,⟨s10,A10,c10,l10,s10r,A10r,c10r,l10r,qof (1) 1,true⟩⟩] [(0,qof (1) 1)] rfl (HX3.out.below (zAa Bz (by go_grown))) rfl rfl (OnT.c 0 (RN.below h10 (by go_grown)) (sz_one (by decide) (by decide) (by decide)) (OnT.nil _ _))) ((R.below h11.r (by go_grown)).mono (sz_one (by decide) (by decide) (by decide))) (gv_lit (n:=2) [⟨0,⟨s12,A12,c12,l12,s12r,A12r,c12r,l12r,qof (1) 2,true⟩⟩,⟨1,⟨s13,A13,c13,l13,s13r,A13r,c13r,l13r,qof (1) 1,true⟩⟩] [(0,qof (1) 2),(1,qof (1) 1)] rfl (HX4.out.below (zAa Bz (by go_grown))) rfl rfl (OnT.c 0 (RN.below h12 (by go_grown)) (sz_one (by decide) (by decide) (by decide)) (OnT.c 1 (RN.below h13 (by go_grown)) (sz_one (by decide) (by decide) (by decide)) (OnT.nil _ _)))) (by omega) (by omega) (by omega) (by omega) (by omega) (Lib.hid (Tab.below hT.out (zAa hB (zAa (b:=V5) Bz (by go_grown)))))).mono ?_
 rintro e w14 ⟨A14,n14,c14,rfl,h14,b14⟩
 replace b14:=zAa (a:=V5) (by go_grown) b14
 replace h4:=h4.below b14
 replace h9:=h9.below b14
 replace Bz:=zAa Bz b14
 clear b14
 have l14:=h14.len
 go_wp2_with fail
 with_reducible refine(term_q 0 (1) 1 (Lib.hid (by omega)) (Lib.hid (by omega)) (Lib.hid (Tab.below hT.out (zAa hB (zAa (b:=w14) Bz (by go_grown)))))).mono ?_
 rintro e w15 ⟨s15,A15,c15,l15,s15r,A15r,c15r,l15r,rfl,h15,b15⟩
 replace b15:=zAa (a:=w14) (by go_grown) b15
 replace h14:=h14.below b15
 replace h4:=h4.below b15
 replace h9:=h9.below b15
 replace Bz:=zAa Bz b15
 clear b15
 go_wp2_with fail
 with_reducible refine(term_q 2 (3) 1 (Lib.hid (by omega)) (Lib.hid (by omega)) (Lib.hid (Tab.below hT.out (zAa hB (zAa (b:=w15) Bz (by go_grown)))))).mono ?_
 rintro e w16 ⟨s16,A16,c16,l16,s16r,A16r,c16r,l16r,rfl,h16,b16⟩
 replace b16:=zAa (a:=w15) (by go_grown) b16
 replace h15:=h15.below b16
 replace h14:=h14.below b16
 replace h4:=h4.below b16
 replace h9:=h9.below b16
 replace Bz:=zAa Bz b16
 clear b16
 go_wp2_with fail
 obtain⟨V6,hW,x5,hN⟩:=zAi w16 #[.int .i64 0,.bool s15,.slice A15 l15 c15,.bool s15r,.slice A15r l15r c15r,.int .i64 2,.bool s16,.slice A16 l16 c16,.bool s16r,.slice A16r l16r c16r] 118
 rw[←hW]
 clear hW
 obtain⟨v5,hb5⟩:∃b,b=w16.heap.size:=⟨_,rfl⟩
 rw[←hb5] at x5 ⊢
 have o0_5:v0<v5:=by have:=(HX0.out.below Bz).lt;omega
 have o1_5:v1<v5:=by have:=(HX1.out.below Bz).lt;omega
 have o2_5:v2<v5:=by have:=(HX2.out.below Bz).lt;omega
 have o3_5:v3<v5:=by have:=(HX3.out.below Bz).lt;omega
 have o4_5:v4<v5:=by have:=(HX4.out.below Bz).lt;omega
 have ow_5:w.heap.size≤v5:=by have:=hB.size;have:=Bz.size;omega
 replace h15:=h15.below hN
 replace h16:=h16.below hN
 replace h14:=h14.below hN
 replace h4:=h4.below hN
 replace h9:=h9.below hN
 replace hB:=zAa (zAa hB Bz) hN
 replace HX0:=Lib.hid ((HX0.out.below Bz).below hN)
 replace HX1:=Lib.hid ((HX1.out.below Bz).below hN)
 replace HX2:=Lib.hid ((HX2.out.below Bz).below hN)
 replace HX3:=Lib.hid ((HX3.out.below Bz).below hN)
 replace HX4:=Lib.hid ((HX4.out.below Bz).below hN)
 have HX5:=Lib.hid x5
 clear x5 hN Bz hb5
 have Bz:=Below.refl V6.heap.size V6
 with_reducible refine(term_q 2 (1) 3 (Lib.hid (by omega)) (Lib.hid (by omega)) (Lib.hid (Tab.below hT.out (zAa hB (zAa (b:=V6) Bz (by go_grown)))))).mono ?_
 rintro e w17 ⟨s17,A17,c17,l17,s17r,A17r,c17r,l17r,rfl,h17,b17⟩
 replace b17:=zAa (a:=V6) (by go_grown) b17
 replace h15:=h15.below b17
 replace h16:=h16.below b17
 replace h14:=h14.below b17
 replace h4:=h4.below b17
 replace h9:=h9.below b17
 replace Bz:=zAa Bz b17
 clear b17
 go_wp2_with fail
 with_reducible refine(term_q 5 (9) 1 (Lib.hid (by omega)) (Lib.hid (by omega)) (Lib.hid (Tab.below hT.out (zAa hB (zAa (b:=w17) Bz (by go_grown)))))).mono ?_
 rintro e w18 ⟨s18,A18,c18,l18,s18r,A18r,c18r,l18r,rfl,h18,b18⟩
 replace b18:=zAa (a:=w17) (by go_grown) b18
 replace h15:=h15.below b18
 replace h16:=h16.below b18
 replace h17:=h17.below b18
 replace h14:=h14.below b18
 replace h4:=h4.below b18
 replace h9:=h9.below b18
 replace Bz:=zAa Bz b18
 clear b18
 go_wp2_with fail
 obtain⟨V7,hW,x6,hN⟩:=zAi w18 #[.int .i64 2,.bool s17,.slice A17 l17 c17,.bool s17r,.slice A17r l17r c17r,.int .i64 5,.bool s18,.slice A18 l18 c18,.bool s18r,.slice A18r l18r c18r] 118
 rw[←hW]
 clear hW
 obtain⟨v6,hb6⟩:∃b,b=w18.heap.size:=⟨_,rfl⟩
 rw[←hb6] at x6 ⊢
 have o0_6:v0<v6:=by have:=(HX0.out.below Bz).lt;omega
 have o1_6:v1<v6:=by have:=(HX1.out.below Bz).lt;omega
 have o2_6:v2<v6:=by have:=(HX2.out.below Bz).lt;omega
 have o3_6:v3<v6:=by have:=(HX3.out.below Bz).lt;omega
 have o4_6:v4<v6:=by have:=(HX4.out.below Bz).lt;omega
 have o5_6:v5<v6:=by have:=(HX5.out.below Bz).lt;omega
 have ow_6:w.heap.size≤v6:=by have:=hB.size;have:=Bz.size;omega
 replace h15:=h15.below hN
 replace h16:=h16.below hN
 replace h17:=h17.below hN
 replace h18:=h18.below hN
 replace h14:=h14.below hN
 replace h4:=h4.below hN
 replace h9:=h9.below hN
 replace hB:=zAa (zAa hB Bz) hN
 replace HX0:=Lib.hid ((HX0.out.below Bz).below hN)
 replace HX1:=Lib.hid ((HX1.out.below Bz).below hN)
 replace HX2:=Lib.hid ((HX2.out.below Bz).below hN)
 replace HX3:=Lib.hid ((HX3.out.below Bz).below hN)
 replace HX4:=Lib.hid ((HX4.out.below Bz).below hN)
 replace HX5:=Lib.hid ((HX5.out.below Bz).below hN)
 have HX6:=Lib.hid x6
 clear x6 hN Bz hb6
 have Bz:=Below.refl V7.heap.size V7
 with_reducible refine(dotV_q (gv_lit (n:=2) [⟨0,⟨s15,A15,c15,l15,s15r,A15r,c15r,l15r,qof (1) 1,true⟩⟩,⟨2,⟨s16,A16,c16,l16,s16r,A16r,c16r,l16r,qof (3) 1,true⟩⟩] [(0,qof (1) 1),(2,qof (3) 1)] rfl (HX5.out.below (zAa Bz (by go_grown))) rfl rfl (OnT.c 0 (RN.below h15 (by go_grown)) (sz_one (by decide) (by decide) (by decide)) (OnT.c 2 (RN.below h16 (by go_grown)) (sz_one (by decide) (by decide) (by decide)) (OnT.nil _ _)))) (gv_lit (n:=2) [⟨2,⟨s17,A17,c17,l17,s17r,A17r,c17r,l17r,qof (1) 3,true⟩⟩,⟨5,⟨s18,A18,c18,l18,s18r,A18r,c18r,l18r,qof (9) 1,true⟩⟩] [(2,qof (1) 3),(5,qof (9) 1)] rfl (HX6.out.below (zAa Bz (by go_grown))) rfl rfl (OnT.c 2 (RN.below h17 (by go_grown)) (sz_one (by decide) (by decide) (by decide)) (OnT.c 5 (RN.below h18 (by go_grown)) (sz_one (by decide) (by decide) (by decide)) (OnT.nil _ _)))) (by omega) (by omega) (by omega) (by omega) (by omega) (Lib.hid (Tab.below hT.out (zAa hB (zAa (b:=V7) Bz (by go_grown)))))).mono ?_
 rintro e w19 ⟨s19,A19,c19,l19,s19r,A19r,c19r,l19r,rfl,h19,b19⟩
 replace b19:=zAa (a:=V7) (by go_grown) b19
 replace h14:=h14.below b19
 replace h4:=h4.below b19
 replace h9:=h9.below b19
 replace Bz:=zAa Bz b19
 clear b19
 go_upto_region 5 with(fail)
 obtain⟨V8,hW,x7,hN⟩:=zAi w19 #[.bool s19,.slice A19 l19 c19,.bool s19r,.slice A19r l19r c19r] 57
 rw[←hW]
 clear hW
 obtain⟨v7,hb7⟩:∃b,b=w19.heap.size:=⟨_,rfl⟩
 rw[←hb7] at x7 ⊢
 have o0_7:v0<v7:=by have:=(HX0.out.below Bz).lt;omega
 have o1_7:v1<v7:=by have:=(HX1.out.below Bz).lt;omega
 have o2_7:v2<v7:=by have:=(HX2.out.below Bz).lt;omega
 have o3_7:v3<v7:=by have:=(HX3.out.below Bz).lt;omega
 have o4_7:v4<v7:=by have:=(HX4.out.below Bz).lt;omega
 have o5_7:v5<v7:=by have:=(HX5.out.below Bz).lt;omega
 have o6_7:v6<v7:=by have:=(HX6.out.below Bz).lt;omega
 have ow_7:w.heap.size≤v7:=by have:=hB.size;have:=Bz.size;omega
 replace h19:=h19.below hN
 replace h14:=h14.below hN
 replace h4:=h4.below hN
 replace h9:=h9.below hN
 replace hB:=zAa (zAa hB Bz) hN
 replace HX0:=Lib.hid ((HX0.out.below Bz).below hN)
 replace HX1:=Lib.hid ((HX1.out.below Bz).below hN)
 replace HX2:=Lib.hid ((HX2.out.below Bz).below hN)
 replace HX3:=Lib.hid ((HX3.out.below Bz).below hN)
 replace HX4:=Lib.hid ((HX4.out.below Bz).below hN)
 replace HX5:=Lib.hid ((HX5.out.below Bz).below hN)
 replace HX6:=Lib.hid ((HX6.out.below Bz).below hN)
 have HX7:=Lib.hid x7
 clear x7 hN Bz hb7
 have Bz:=Below.refl V8.heap.size V8
 have p7_0:=(HX7.out.below Bz).cell 0 (.bool s19) rfl
 have p7_1:=(HX7.out.below Bz).cell 1 (.slice A19 l19 c19) rfl
 have p7_2:=(HX7.out.below Bz).cell 2 (.bool s19r) rfl
 have p7_3:=(HX7.out.below Bz).cell 3 (.slice A19r l19r c19r) rfl
 go_wp2_with fail
 (try simp only[List.append_eq,List.cons_append,List.nil_append])
 refine zAc (.take 0 (.take 1 (.only 2 (.only 3 (.only 4 (.take 5 (.take 6 (.take 7 (.only 8 (.only 9 (.only 10 (.only 11 (.take 12 (.take 13 (.take 14 (.take 15 (.only 16 (.only 17 (.only 18 (.take 19 (.take 20 (.take 21 (.only 22 (.only 23 (.take 24 (.take 25 .done)))))))))))))))))))))))))) [] (fun w'=>w'.cell? ⟨v7,0,none⟩=some (.bool s19)∧w'.cell? ⟨v7,1,none⟩=some (.slice A19 l19 c19)∧w'.cell? ⟨v7,2,none⟩=some (.bool s19r)∧w'.cell? ⟨v7,3,none⟩=some (.slice A19r l19r c19r)) (by kernel_rfl) (by kernel_rfl) ⟨p7_0,p7_1,p7_2,p7_3⟩ ?_
 iterate 2 (refine zAb (o:=⟨some _,_,_,_,_,_⟩) rfl rfl (fun w' ⟨p7_0,p7_1,p7_2,p7_3⟩=>by go_simp<;>with_reducible rfl) ?_;try simp only[pUt,pLt,pZt,pSt])
 refine zAd (o:=⟨some 34,_,_,_,_,_⟩) rfl rfl (fun K hK=>?_)
 go_simp
 with_reducible refine(term_q 0 (1) 2 (Lib.hid (by omega)) (Lib.hid (by omega)) (Lib.hid (Tab.below hT.out (zAa hB (zAa (b:=V8) Bz (by go_grown)))))).mono ?_
 rintro e w20 ⟨s20,A20,c20,l20,s20r,A20r,c20r,l20r,rfl,h20,b20⟩
 replace b20:=zAa (a:=V8) (by go_grown) b20
 replace h19:=h19.below b20
 replace h14:=h14.below b20
 replace h4:=h4.below b20
 replace h9:=h9.below b20
 replace Bz:=zAa Bz b20
 clear b20
 clear p7_0 p7_1 p7_2 p7_3
 have p7_0:=(HX7.out.below Bz).cell 0 (.bool s19) rfl
 have p7_1:=(HX7.out.below Bz).cell 1 (.slice A19 l19 c19) rfl
 have p7_2:=(HX7.out.below Bz).cell 2 (.bool s19r) rfl
 have p7_3:=(HX7.out.below Bz).cell 3 (.slice A19r l19r c19r) rfl
 refine hK.out _ _ ⟨p7_0,p7_1,p7_2,p7_3⟩ (fun _=>?_)
 try simp only[pUt,pLt,pZt,pSt]
 clear hK K
 refine zAd (o:=⟨some 35,_,_,_,_,_⟩) rfl rfl (fun K hK=>?_)
 go_simp
 refine hK.out _ _ ⟨(zAj p7_0),(zAj p7_1),(zAj p7_2),(zAj p7_3)⟩ (fun _=>?_)
 try simp only[pUt,pLt,pZt,pSt]
 clear hK K
 refine zAd (o:=⟨some 36,_,_,_,_,_⟩) rfl rfl (fun K hK=>?_)
 go_simp
 obtain⟨V9,hW,x8,hN⟩:=zAi w20 #[.int .i64 0,.bool s20,.slice A20 l20 c20,.bool s20r,.slice A20r l20r c20r] 118
 rw[←hW]
 clear hW
 obtain⟨v8,hb8⟩:∃b,b=w20.heap.size:=⟨_,rfl⟩
 rw[←hb8] at x8 ⊢
 have o0_8:v0<v8:=by have:=(HX0.out.below Bz).lt;omega
 have o1_8:v1<v8:=by have:=(HX1.out.below Bz).lt;omega
 have o2_8:v2<v8:=by have:=(HX2.out.below Bz).lt;omega
 have o3_8:v3<v8:=by have:=(HX3.out.below Bz).lt;omega
 have o4_8:v4<v8:=by have:=(HX4.out.below Bz).lt;omega
 have o5_8:v5<v8:=by have:=(HX5.out.below Bz).lt;omega
 have o6_8:v6<v8:=by have:=(HX6.out.below Bz).lt;omega
 have o7_8:v7<v8:=by have:=(HX7.out.below Bz).lt;omega
 have ow_8:w.heap.size≤v8:=by have:=hB.size;have:=Bz.size;omega
 replace h19:=h19.below hN
 replace h20:=h20.below hN
 replace h14:=h14.below hN
 replace h4:=h4.below hN
 replace h9:=h9.below hN
 replace hB:=zAa (zAa hB Bz) hN
 replace HX0:=Lib.hid ((HX0.out.below Bz).below hN)
 replace HX1:=Lib.hid ((HX1.out.below Bz).below hN)
 replace HX2:=Lib.hid ((HX2.out.below Bz).below hN)
 replace HX3:=Lib.hid ((HX3.out.below Bz).below hN)
 replace HX4:=Lib.hid ((HX4.out.below Bz).below hN)
 replace HX5:=Lib.hid ((HX5.out.below Bz).below hN)
 replace HX6:=Lib.hid ((HX6.out.below Bz).below hN)
 replace HX7:=Lib.hid ((HX7.out.below Bz).below hN)
 have HX8:=Lib.hid x8
 clear x8 hN Bz hb8
 have Bz:=Below.refl V9.heap.size V9
 clear p7_0 p7_1 p7_2 p7_3
 with_reducible refine(sameVec_q (NV.below h4 (by go_grown)) (nv_lit (n:=1) [⟨0,⟨s20,A20,c20,l20,s20r,A20r,c20r,l20r,qof (1) 2,true⟩⟩] [(0,qof (1) 2)] rfl (HX8.out.below (zAa Bz (by go_grown))) rfl rfl (OnT.c 0 (RN.below h20 (by go_grown)) (sz_one (by decide) (by decide) (by decide)) (OnT.nil _ _))) (by omega) (by omega) (by rw[←l4];exact Nat.le_trans (nrm_len _) (by decide)) (by omega) true (Lib.hid (by decide +kernel))).mono ?_
 rintro e w21 ⟨rfl,b21⟩
 replace b21:=zAa (a:=V9) (by go_grown) b21
 replace h19:=h19.below b21
 replace h14:=h14.below b21
 replace h9:=h9.below b21
 replace Bz:=zAa Bz b21
 clear b21
 have p7_0:=(HX7.out.below Bz).cell 0 (.bool s19) rfl
 have p7_1:=(HX7.out.below Bz).cell 1 (.slice A19 l19 c19) rfl
 have p7_2:=(HX7.out.below Bz).cell 2 (.bool s19r) rfl
 have p7_3:=(HX7.out.below Bz).cell 3 (.slice A19r l19r c19r) rfl
 refine hK.out _ _ ⟨p7_0,p7_1,p7_2,p7_3⟩ (fun _=>?_)
 try simp only[pUt,pLt,pZt,pSt]
 clear hK K
 iterate 3 (refine zAb (o:=⟨some _,_,_,_,_,_⟩) rfl rfl (fun w' ⟨p7_0,p7_1,p7_2,p7_3⟩=>by go_simp<;>with_reducible rfl) ?_;try simp only[pUt,pLt,pZt,pSt])
 refine zAd (o:=⟨some 40,_,_,_,_,_⟩) rfl rfl (fun K hK=>?_)
 go_simp
 with_reducible refine(term_q 0 (1) 1 (Lib.hid (by omega)) (Lib.hid (by omega)) (Lib.hid (Tab.below hT.out (zAa hB (zAa (b:=w21) Bz (by go_grown)))))).mono ?_
 rintro e w22 ⟨s22,A22,c22,l22,s22r,A22r,c22r,l22r,rfl,h22,b22⟩
 replace b22:=zAa (a:=w21) (by go_grown) b22
 replace h19:=h19.below b22
 replace h14:=h14.below b22
 replace h9:=h9.below b22
 replace Bz:=zAa Bz b22
 clear b22
 clear p7_0 p7_1 p7_2 p7_3
 have p7_0:=(HX7.out.below Bz).cell 0 (.bool s19) rfl
 have p7_1:=(HX7.out.below Bz).cell 1 (.slice A19 l19 c19) rfl
 have p7_2:=(HX7.out.below Bz).cell 2 (.bool s19r) rfl
 have p7_3:=(HX7.out.below Bz).cell 3 (.slice A19r l19r c19r) rfl
 refine hK.out _ _ ⟨p7_0,p7_1,p7_2,p7_3⟩ (fun _=>?_)
 try simp only[pUt,pLt,pZt,pSt]
 clear hK K
 refine zAd (o:=⟨some 41,_,_,_,_,_⟩) rfl rfl (fun K hK=>?_)
 go_simp
 with_reducible refine(term_q 4 (1) 1 (Lib.hid (by omega)) (Lib.hid (by omega)) (Lib.hid (Tab.below hT.out (zAa hB (zAa (b:=w22) Bz (by go_grown)))))).mono ?_
 rintro e w23 ⟨s23,A23,c23,l23,s23r,A23r,c23r,l23r,rfl,h23,b23⟩
 replace b23:=zAa (a:=w22) (by go_grown) b23
 replace h19:=h19.below b23
 replace h22:=h22.below b23
 replace h14:=h14.below b23
 replace h9:=h9.below b23
 replace Bz:=zAa Bz b23
 clear b23
 clear p7_0 p7_1 p7_2 p7_3
 have p7_0:=(HX7.out.below Bz).cell 0 (.bool s19) rfl
 have p7_1:=(HX7.out.below Bz).cell 1 (.slice A19 l19 c19) rfl
 have p7_2:=(HX7.out.below Bz).cell 2 (.bool s19r) rfl
 have p7_3:=(HX7.out.below Bz).cell 3 (.slice A19r l19r c19r) rfl
 refine hK.out _ _ ⟨p7_0,p7_1,p7_2,p7_3⟩ (fun _=>?_)
 try simp only[pUt,pLt,pZt,pSt]
 clear hK K
 refine zAd (o:=⟨some 42,_,_,_,_,_⟩) rfl rfl (fun K hK=>?_)
 go_simp
 refine hK.out _ _ ⟨(zAj p7_0),(zAj p7_1),(zAj p7_2),(zAj p7_3)⟩ (fun _=>?_)
 try simp only[pUt,pLt,pZt,pSt]
 clear hK K
 refine zAd (o:=⟨some 43,_,_,_,_,_⟩) rfl rfl (fun K hK=>?_)
 go_simp
 obtain⟨V10,hW,x9,hN⟩:=zAi w23 #[.int .i64 0,.bool s22,.slice A22 l22 c22,.bool s22r,.slice A22r l22r c22r,.int .i64 4,.bool s23,.slice A23 l23 c23,.bool s23r,.slice A23r l23r c23r] 118
 rw[←hW]
 clear hW
 obtain⟨v9,hb9⟩:∃b,b=w23.heap.size:=⟨_,rfl⟩
 rw[←hb9] at x9 ⊢
 have o0_9:v0<v9:=by have:=(HX0.out.below Bz).lt;omega
 have o1_9:v1<v9:=by have:=(HX1.out.below Bz).lt;omega
 have o2_9:v2<v9:=by have:=(HX2.out.below Bz).lt;omega
 have o3_9:v3<v9:=by have:=(HX3.out.below Bz).lt;omega
 have o4_9:v4<v9:=by have:=(HX4.out.below Bz).lt;omega
 have o5_9:v5<v9:=by have:=(HX5.out.below Bz).lt;omega
 have o6_9:v6<v9:=by have:=(HX6.out.below Bz).lt;omega
 have o7_9:v7<v9:=by have:=(HX7.out.below Bz).lt;omega
 have o8_9:v8<v9:=by have:=(HX8.out.below Bz).lt;omega
 have ow_9:w.heap.size≤v9:=by have:=hB.size;have:=Bz.size;omega
 replace h19:=h19.below hN
 replace h22:=h22.below hN
 replace h23:=h23.below hN
 replace h14:=h14.below hN
 replace h9:=h9.below hN
 replace hB:=zAa (zAa hB Bz) hN
 replace HX0:=Lib.hid ((HX0.out.below Bz).below hN)
 replace HX1:=Lib.hid ((HX1.out.below Bz).below hN)
 replace HX2:=Lib.hid ((HX2.out.below Bz).below hN)
 replace HX3:=Lib.hid ((HX3.out.below Bz).below hN)
 replace HX4:=Lib.hid ((HX4.out.below Bz).below hN)
 replace HX5:=Lib.hid ((HX5.out.below Bz).below hN)
 replace HX6:=Lib.hid ((HX6.out.below Bz).below hN)
 replace HX7:=Lib.hid ((HX7.out.below Bz).below hN)
 replace HX8:=Lib.hid ((HX8.out.below Bz).below hN)
 have HX9:=Lib.hid x9
 clear x9 hN Bz hb9
 have Bz:=Below.refl V10.heap.size V10
 clear p7_0 p7_1 p7_2 p7_3
 with_reducible refine(sameVec_q (NV.below h9 (by go_grown)) (nv_lit (n:=2) [⟨0,⟨s22,A22,c22,l22,s22r,A22r,c22r,l22r,qof (1) 1,true⟩⟩,⟨4,⟨s23,A23,c23,l23,s23r,A23r,c23r,l23r,qof (1) 1,true⟩⟩] [(0,qof (1) 1),(4,qof (1) 1)] rfl (HX9.out.below (zAa Bz (by go_grown))) rfl rfl (OnT.c 0 (RN.below h22 (by go_grown)) (sz_one (by decide) (by decide) (by decide)) (OnT.c 4 (RN.below h23 (by go_grown)) (sz_one (by decide) (by decide) (by decide)) (OnT.nil _ _)))) (by omega) (by omega) (by rw[←l9];exact Nat.le_trans (nrm_len _) (by decide)) (by omega) true (Lib.hid (by decide +kernel))).mono ?_
 rintro e w24 ⟨rfl,b24⟩
 replace b24:=zAa (a:=V10) (by go_grown) b24
 replace h19:=h19.below b24
 replace h14:=h14.below b24
 replace Bz:=zAa Bz b24
 clear b24
 have p7_0:=(HX7.out.below Bz).cell 0 (.bool s19) rfl
 have p7_1:=(HX7.out.below Bz).cell 1 (.slice A19 l19 c19) rfl
 have p7_2:=(HX7.out.below Bz).cell 2 (.bool s19r) rfl
 have p7_3:=(HX7.out.below Bz).cell 3 (.slice A19r l19r c19r) rfl
 refine hK.out _ _ ⟨p7_0,p7_1,p7_2,p7_3⟩ (fun _=>?_)
 try simp only[pUt,pLt,pZt,pSt]
 clear hK K
 iterate 4 (refine zAb (o:=⟨some _,_,_,_,_,_⟩) rfl rfl (fun w' ⟨p7_0,p7_1,p7_2,p7_3⟩=>by go_simp<;>with_reducible rfl) ?_;try simp only[pUt,pLt,pZt,pSt])
 refine zAd (o:=⟨some 48,_,_,_,_,_⟩) rfl rfl (fun K hK=>?_)
 go_simp
 with_reducible refine(term_q 1 (-2) 1 (Lib.hid (by omega)) (Lib.hid (by omega)) (Lib.hid (Tab.below hT.out (zAa hB (zAa (b:=w24) Bz (by go_grown)))))).mono ?_
 rintro e w25 ⟨s25,A25,c25,l25,s25r,A25r,c25r,l25r,rfl,h25,b25⟩
 replace b25:=zAa (a:=w24) (by go_grown) b25
 replace h19:=h19.below b25
 replace h14:=h14.below b25
 replace Bz:=zAa Bz b25
 clear b25
 clear p7_0 p7_1 p7_2 p7_3
 have p7_0:=(HX7.out.below Bz).cell 0 (.bool s19) rfl
 have p7_1:=(HX7.out.below Bz).cell 1 (.slice A19 l19 c19) rfl
 have p7_2:=(HX7.out.below Bz).cell 2 (.bool s19r) rfl
 have p7_3:=(HX7.out.below Bz).cell 3 (.slice A19r l19r c19r) rfl
 refine hK.out _ _ ⟨p7_0,p7_1,p7_2,p7_3⟩ (fun _=>?_)
 try simp only[pUt,pLt,pZt,pSt]
 clear hK K
 refine zAd (o:=⟨some 49,_,_,_,_,_⟩) rfl rfl (fun K hK=>?_)
 go_simp
 refine hK.out _ _ ⟨(zAj p7_0),(zAj p7_1),(zAj p7_2),(zAj p7_3)⟩ (fun _=>?_)
 try simp only[pUt,pLt,pZt,pSt]
 clear hK K
 refine zAd (o:=⟨some 50,_,_,_,_,_⟩) rfl rfl (fun K hK=>?_)
 go_simp
 obtain⟨V11,hW,x10,hN⟩:=zAi w25 #[.int .i64 1,.bool s25,.slice A25 l25 c25,.bool s25r,.slice A25r l25r c25r] 118
 rw[←hW]
 clear hW
 obtain⟨v10,hb10⟩:∃b,b=w25.heap.size:=⟨_,rfl⟩
 rw[←hb10] at x10 ⊢
 have o0_10:v0<v10:=by have:=(HX0.out.below Bz).lt;omega
 have o1_10:v1<v10:=by have:=(HX1.out.below Bz).lt;omega
 have o2_10:v2<v10:=by have:=(HX2.out.below Bz).lt;omega
 have o3_10:v3<v10:=by have:=(HX3.out.below Bz).lt;omega
 have o4_10:v4<v10:=by have:=(HX4.out.below Bz).lt;omega
 have o5_10:v5<v10:=by have:=(HX5.out.below Bz).lt;omega
 have o6_10:v6<v10:=by have:=(HX6.out.below Bz).lt;omega
 have o7_10:v7<v10:=by have:=(HX7.out.below Bz).lt;omega
 have o8_10:v8<v10:=by have:=(HX8.out.below Bz).lt;omega
 have o9_10:v9<v10:=by have:=(HX9.out.below Bz).lt;omega
 have ow_10:w.heap.size≤v10:=by have:=hB.size;have:=Bz.size;omega
 replace h19:=h19.below hN
 replace h25:=h25.below hN
 replace h14:=h14.below hN
 replace hB:=zAa (zAa hB Bz) hN
 replace HX0:=Lib.hid ((HX0.out.below Bz).below hN)
 replace HX1:=Lib.hid ((HX1.out.below Bz).below hN)
 replace HX2:=Lib.hid ((HX2.out.below Bz).below hN)
 replace HX3:=Lib.hid ((HX3.out.below Bz).below hN)
 replace HX4:=Lib.hid ((HX4.out.below Bz).below hN)
 replace HX5:=Lib.hid ((HX5.out.below Bz).below hN)
 replace HX6:=Lib.hid ((HX6.out.below Bz).below hN)
 replace HX7:=Lib.hid ((HX7.out.below Bz).below hN)
 replace HX8:=Lib.hid ((HX8.out.below Bz).below hN)
 replace HX9:=Lib.hid ((HX9.out.below Bz).below hN)
 have HX10:=Lib.hid x10
 clear x10 hN Bz hb10
 have Bz:=Below.refl V11.heap.size V11
 clear p7_0 p7_1 p7_2 p7_3
 with_reducible refine(sameVec_q (NV.below h14 (by go_grown)) (nv_lit (n:=1) [⟨1,⟨s25,A25,c25,l25,s25r,A25r,c25r,l25r,qof (-2) 1,true⟩⟩] [(1,qof (-2) 1)] rfl (HX10.out.below (zAa Bz (by go_grown))) rfl rfl (OnT.c 1 (RN.below h25 (by go_grown)) (sz_one (by decide) (by decide) (by decide)) (OnT.nil _ _))) (by omega) (by omega) (by rw[←l14];exact Nat.le_trans (nrm_len _) (by decide)) (by omega) true (Lib.hid (by decide +kernel))).mono ?_
 rintro e w26 ⟨rfl,b26⟩
 replace b26:=zAa (a:=V11) (by go_grown) b26
 replace h19:=h19.below b26
 replace Bz:=zAa Bz b26
 clear b26
 have p7_0:=(HX7.out.below Bz).cell 0 (.bool s19) rfl
 have p7_1:=(HX7.out.below Bz).cell 1 (.slice A19 l19 c19) rfl
 have p7_2:=(HX7.out.below Bz).cell 2 (.bool s19r) rfl
 have p7_3:=(HX7.out.below Bz).cell 3 (.slice A19r l19r c19r) rfl
 refine hK.out _ _ ⟨p7_0,p7_1,p7_2,p7_3⟩ (fun _=>?_)
 try simp only[pUt,pLt,pZt,pSt]
 clear hK K
 iterate 3 (refine zAb (o:=⟨some _,_,_,_,_,_⟩) rfl rfl (fun w' ⟨p7_0,p7_1,p7_2,p7_3⟩=>by go_simp<;>with_reducible rfl) ?_;try simp only[pUt,pLt,pZt,pSt])
 refine zAd (o:=⟨some 54,_,_,_,_,_⟩) rfl rfl (fun K hK=>?_)
 go_simp
 with_reducible refine(of_q (1) 1 (Lib.hid (by omega)) (Lib.hid (by omega)) (Lib.hid (Tab.below hT.out (zAa hB (zAa (b:=w26) Bz (by go_grown)))))).mono ?_
 rintro e w27 ⟨s27,A27,c27,l27,s27r,A27r,c27r,l27r,rfl,h27,b27⟩
 replace b27:=zAa (a:=w26) (by go_grown) b27
 replace h19:=h19.below b27
 replace Bz:=zAa Bz b27
 clear b27
 clear p7_0 p7_1 p7_2 p7_3
 have p7_0:=(HX7.out.below Bz).cell 0 (.bool s19) rfl
 have p7_1:=(HX7.out.below Bz).cell 1 (.slice A19 l19 c19) rfl
 have p7_2:=(HX7.out.below Bz).cell 2 (.bool s19r) rfl
 have p7_3:=(HX7.out.below Bz).cell 3 (.slice A19r l19r c19r) rfl
 refine hK.out _ _ ⟨p7_0,p7_1,p7_2,p7_3⟩ (fun _=>?_)
 try simp only[pUt,pLt,pZt,pSt]
 clear hK K
 refine zAd (o:=⟨some 55,_,_,_,_,_⟩) rfl rfl (fun K hK=>?_)
 go_simp
 with_reducible refine(sameRat_rn (RN.below h19 (by go_grown)) (RN.below h27 (by go_grown)) (by have:=h19.len;have:=hdz;omega) (by have:=h27.len;have:=sz_one (n:=1) (d:=1) (by decide) (by decide) (by decide);omega) true (Lib.hid (by decide +kernel))).mono ?_
 rintro e w28 ⟨rfl,b28⟩
 replace b28:=zAa (a:=w27) (by go_grown) b28
 replace Bz:=zAa Bz b28
 clear b28
 clear p7_0 p7_1 p7_2 p7_3
 have p7_0:=(HX7.out.below Bz).cell 0 (.bool s19) rfl
 have p7_1:=(HX7.out.below Bz).cell 1 (.slice A19 l19 c19) rfl
 have p7_2:=(HX7.out.below Bz).cell 2 (.bool s19r) rfl
 have p7_3:=(HX7.out.below Bz).cell 3 (.slice A19r l19r c19r) rfl
 refine hK.out _ _ ⟨p7_0,p7_1,p7_2,p7_3⟩ (fun _=>?_)
 try simp only[pUt,pLt,pZt,pSt]
 clear hK K
 iterate 2 (refine zAb (o:=⟨some _,_,_,_,_,_⟩) rfl rfl (fun w' ⟨p7_0,p7_1,p7_2,p7_3⟩=>by go_simp<;>with_reducible rfl) ?_;try simp only[pUt,pLt,pZt,pSt])
 refine zAe ?_
 go_wp2_with fail
 go_ret
 have hF:=zAa (c:=w28) hB Bz
 exact⟨rfl,zAa hF (by go_grown)⟩
end Go.Proofs.YtldcfmangolkoaaGreatDoor
