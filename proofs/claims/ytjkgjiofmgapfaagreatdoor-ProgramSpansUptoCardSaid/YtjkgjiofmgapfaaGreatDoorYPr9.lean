/-
  The examples of layer 15. Written by wip/gen/pr9.py.
-/
import Derived.Test.YtjkgjiofmgapfaaGreatDoorYPr8
import Derived.Test.YtjkgjiofmgapfaaGreatDoorYPr3
set_option maxHeartbeats 16000000
set_option maxRecDepth 100000
namespace Go.Proofs.YtjkgjiofmgapfaaGreatDoor
open Go.RowKit Tw
theorem form_q {w:World} {m KD N:Nat} {p:Pg} (h:PgOk w m p) (hrp:rightP p=true) (hN:p.vn+p.rn=N) (hm:m≤1000000000) (hKD:Hid (m+3≤KD∧∀x∈p.R,1+x.n*(2*m+4)≤9000000000∧1+x.n*(2*m+4)+m+3≤KD)) (hT:Hid (Tab w)) :
  Calls Tryz.prog 11 #[.agg #[.slice p.vA p.vn p.vc,.slice p.rA p.rn p.rc,.slice p.cA p.cn p.cc]] w (TellsForm w p N m KD):=by
 obtain⟨vA,vn,vc,V,rA,rn,rc,R,cA,cn,cc,C⟩:=p
 exact form_r h hrp hN hm hKD hT
theorem NumsF.at_ {w:World} {K i:Nat} {L:List Fr} {f:Nat→Rat} {y:Fr} (h:NumsF w K L f) (hy:L[i]?=some y):RN w y.s y.A y.c y.l y.s' y.A' y.c' y.l' y.q∧y.ex=true∧sz y.q+1≤K∧y.q=f i:=h i y hy
theorem sl_lit15 {α:Type} {f:α→List Value} {k:Nat} {w:World} {b n:Nat} {cs:Array Value} {te:TypeId} {L:List α} (hk:∀x,(f x).length=k) (h:Bx w b cs te) (hcs:cs.toList=flat f L) (hl:L.length=n):Sl f k w (some ⟨b,0,none⟩) n n L:=by
 subst hl
 refine⟨rfl,by rw[flat_len hk],_,_,rfl,(fun h=>(by cases h)),fun a ha j u hu=>?_⟩
 cases ha
 rw[add_off,Nat.zero_add]
 refine h.cell j u ?_
 rw[←hcs] at hu
 simpa using hu
theorem all1 {α:Type} {P:α→Prop} {a:α} (h:P a):∀x∈[a],P x:=fun x hx=>by rw[List.mem_singleton.1 hx];exact h
theorem all2 {α:Type} {P:α→Prop} {a b:α} (h:P a) (h':P b):∀x∈[a,b],P x:=fun x hx=>by
 rcases List.mem_cons.1 hx with rfl | hx
 ·exact h
 ·rw[List.mem_singleton.1 hx];exact h'
structure Fm where
 s:Bool
 A:Option Addr
 c:Nat
 l:Nat
 s':Bool
 A':Option Addr
 c':Nat
 l':Nat
def Fm.fr (m:Fm) (q:Rat):Fr:=⟨m.s,m.A,m.c,m.l,m.s',m.A',m.c',m.l',q,true⟩
def plainP (q1 q2 q3 q4:Nat) (m1 m2 m3 m4 m5 m6 m7:Fm):Pg :=
 ⟨some ⟨q1,0,none⟩,2,2,[⟨zFr,m1.fr (qof 3 1),false⟩,⟨zFr,m2.fr (qof 2 1),true⟩],some ⟨q2,0,none⟩,1,1,[⟨some ⟨q4,0,none⟩,2,2,[⟨0,m3.fr (qof 1 1)⟩,⟨1,m4.fr (qof 1 1)⟩],3,m5.fr (qof 4 1)⟩],
  some ⟨q3,0,none⟩,2,2,[⟨0,m6.fr (qof 1 1)⟩,⟨1,m7.fr (qof 2 1)⟩]⟩
theorem st3_0_3 {w:World} {b:Nat} {t:TypeId} {u0 u1 u2:Value} (v0 v1 v2:Value) (h0:Bx w b #[u0,u1,u2] t) (n0:∀n,u0≠.int .u64 n) (n1:∀n,u1≠.int .u64 n) (n2:∀n,u2≠.int .u64 n) :
  ∃W,W=((w.setCell ⟨b,0,none⟩ v0).setCell ⟨b,1,none⟩ v1).setCell ⟨b,2,none⟩ v2∧Bx W b #[v0,v1,v2] t∧K64 w W∧(∀b' cs t',b'≠b→Bx w b' cs t'→Bx W b' cs t')∧(∀B w0,B≤b→Below B w0 w→Below B w0 W):=by
 have h1:Bx (w.setCell ⟨b,0,none⟩ v0) b #[v0,u1,u2] t:=h0.set 0 v0
 have k0:K64 (w) (w.setCell ⟨b,0,none⟩ v0):=K64.box h0 (i:=0) rfl n0 v0
 have h2:Bx ((w.setCell ⟨b,0,none⟩ v0).setCell ⟨b,1,none⟩ v1) b #[v0,v1,u2] t:=h1.set 1 v1
 have k1:K64 (w.setCell ⟨b,0,none⟩ v0) ((w.setCell ⟨b,0,none⟩ v0).setCell ⟨b,1,none⟩ v1):=K64.box h1 (i:=1) rfl n1 v1
 have h3:Bx (((w.setCell ⟨b,0,none⟩ v0).setCell ⟨b,1,none⟩ v1).setCell ⟨b,2,none⟩ v2) b #[v0,v1,v2] t:=h2.set 2 v2
 have k2:K64 ((w.setCell ⟨b,0,none⟩ v0).setCell ⟨b,1,none⟩ v1) (((w.setCell ⟨b,0,none⟩ v0).setCell ⟨b,1,none⟩ v1).setCell ⟨b,2,none⟩ v2):=K64.box h2 (i:=2) rfl n2 v2
 exact⟨_,rfl,h3,((k0.trans k1).trans k2),fun b' cs t' hb hx=>(((hx.far hb v0).far hb v1).far hb v2),fun B w0 hB hb=>(((hb.setCell hB v0).setCell hB v1).setCell hB v2)⟩
theorem num15_q {w:World} (n:Int) (hn:Hid (-9223372036854775808≤n∧n≤9223372036854775807)) (hT:Hid (Tab w)) :
  Calls Tryz.prog 63 #[.int .i64 n] w (TellsR w (qof n 1)):=by
 obtain⟨W,hW,x0,hB⟩:=zAc w #[.bool false,.slice none 0 0,.bool false,.slice none 0 0] 33
 have HX0:=zh x0
 clear x0
 have Bz:=Below.refl W.heap.size W
 go_enter Tryz.func63,Tryz.ntmps63
 go_wp2_with fail
 rw[←hW]
 clear hW
 go_wp2_with fail
 with_reducible refine(of_q n 1 hn (zh (by omega)) (zh (Tab.below hT.out (zAa hB (zAa (b:=W) Bz (by go_grown)))))).mono ?_
 rintro e w1 ⟨s1,A1,c1,l1,s1r,A1r,c1r,l1r,rfl,h1,b1⟩
 replace b1:=zAa (a:=W) (by go_grown) b1
 replace Bz:=zAa Bz b1
 clear b1
 obtain⟨p0_0,p0_1,p0_2,p0_3,-⟩:=(zx HX0 Bz).cz
 have f0_0:=(zx HX0 Bz).frozen 0
 have f0_1:=(zx HX0 Bz).frozen 1
 have f0_2:=(zx HX0 Bz).frozen 2
 have f0_3:=(zx HX0 Bz).frozen 3
 have y0:=(zx HX0 Bz).lt
 go_wp2_with fail
 (try simp only[Exit.inBlock,Exit.then])
 refine bodyPost_ret (by simp[results,Tryz.results63,go_sem,p0_0,p0_1,p0_2,p0_3];try rfl) rfl ?_
 obtain⟨V1,hW,x,kk,far,bel⟩:=store4 (.bool s1) (.slice A1 l1 c1) (.bool s1r) (.slice A1r l1r c1r) (zx HX0 Bz) nofun nofun nofun nofun
 rw[←hW]
 clear hW
 replace h1:=h1.k kk
 replace hB:=bel w.heap.size w (by omega) (zAa hB Bz)
 replace HX0:=zh x
 clear x kk far bel Bz
 have Bz:=Below.refl V1.heap.size V1
 have hF:=zAa (c:=V1) hB Bz
 exact⟨_,_,_,_,_,_,_,_,rfl,RN.below h1 (by go_grown),zAa hF (by go_grown)⟩
theorem plain15_q {w:World} (hT:Hid (Tab w)) :
  Calls Tryz.prog 62 #[] w fun e w'=>∃(p:Pg) (q1 q2 q3 q4:Nat) (m1 m2 m3 m4 m5 m6 m7:Fm),p=plainP q1 q2 q3 q4 m1 m2 m3 m4 m5 m6 m7∧e=.returned (.agg #[.slice p.vA p.vn p.vc,.slice p.rA p.rn p.rc,.slice p.cA p.cn p.cc])∧PgOk w' 1 p∧Below w.heap.size w w':=by
 obtain⟨W,hW,x0,hB⟩:=zAc w #[.slice none 0 0,.slice none 0 0,.slice none 0 0] 27
 have HX0:=zh x0
 clear x0
 have Bz:=Below.refl W.heap.size W
 go_enter Tryz.func62,Tryz.ntmps62
 go_wp2_with fail
 rw[←hW]
 clear hW
 go_wp2_with fail
 with_reducible refine(num15_q (3) (zh (by omega)) (zh (Tab.below hT.out (zAa hB (zAa (b:=W) Bz (by go_grown)))))).mono ?_
 rintro e w1 ⟨s1,A1,c1,l1,s1r,A1r,c1r,l1r,rfl,h1,b1⟩
 replace b1:=zAa (a:=W) (by go_grown) b1
 replace Bz:=zAa Bz b1
 clear b1
 go_wp2_with fail
 with_reducible refine(num15_q (2) (zh (by omega)) (zh (Tab.below hT.out (zAa hB (zAa (b:=w1) Bz (by go_grown)))))).mono ?_
 rintro e w2 ⟨s2,A2,c2,l2,s2r,A2r,c2r,l2r,rfl,h2,b2⟩
 replace b2:=zAa (a:=w1) (by go_grown) b2
 replace h1:=h1.below b2
 replace Bz:=zAa Bz b2
 clear b2
 go_wp2_with fail
 obtain⟨V1,hW,x1,hN⟩:=zAc w2 #[.bool false,.slice none 0 0,.bool false,.slice none 0 0,.bool s1,.slice A1 l1 c1,.bool s1r,.slice A1r l1r c1r,.bool false,.bool false,.slice none 0 0,.bool false,.slice none 0 0,.bool s2,.slice A2 l2 c2,.bool s2r,.slice A2r l2r c2r,.bool true] 44
 rw[←hW]
 clear hW
 obtain⟨v1,hb1⟩:∃b,b=w2.heap.size:=⟨_,rfl⟩
 rw[←hb1] at x1 ⊢
 have o0_1:w.heap.size<v1:=by have:=(zx HX0 Bz).lt;omega
 have ow_1:w.heap.size≤v1:=by have:=zw hB Bz;omega
 replace h1:=h1.below hN
 replace h2:=h2.below hN
 replace hB:=zAa (zAa hB Bz) hN
 replace HX0:=zh ((zx HX0 Bz).below hN)
 have HX1:=zh x1
 clear x1 hN Bz hb1
 have Bz:=Below.refl V1.heap.size V1
 with_reducible refine(num15_q (1) (zh (by omega)) (zh (Tab.below hT.out (zAa hB (zAa (b:=V1) Bz (by go_grown)))))).mono ?_
 rintro e w3 ⟨s3,A3,c3,l3,s3r,A3r,c3r,l3r,rfl,h3,b3⟩
 replace b3:=zAa (a:=V1) (by go_grown) b3
 replace h1:=h1.below b3
 replace h2:=h2.below b3
 replace Bz:=zAa Bz b3
 clear b3
 go_wp2_with fail
 with_reducible refine(num15_q (1) (zh (by omega)) (zh (Tab.below hT.out (zAa hB (zAa (b:=w3) Bz (by go_grown)))))).mono ?_
 rintro e w4 ⟨s4,A4,c4,l4,s4r,A4r,c4r,l4r,rfl,h4,b4⟩
 replace b4:=zAa (a:=w3) (by go_grown) b4
 replace h1:=h1.below b4
 replace h2:=h2.below b4
 replace h3:=h3.below b4
 replace Bz:=zAa Bz b4
 clear b4
 go_wp2_with fail
 obtain⟨V2,hW,x2,hN⟩:=zAc w4 #[.int .i64 0,.bool s3,.slice A3 l3 c3,.bool s3r,.slice A3r l3r c3r,.int .i64 1,.bool s4,.slice A4 l4 c4,.bool s4r,.slice A4r l4r c4r] 71
 rw[←hW]
 clear hW
 obtain⟨v2,hb2⟩:∃b,b=w4.heap.size:=⟨_,rfl⟩
 rw[←hb2] at x2 ⊢
 have o0_2:w.heap.size<v2:=by have:=(zx HX0 Bz).lt;omega
 have o1_2:v1<v2:=by have:=(zx HX1 Bz).lt;omega
 have ow_2:w.heap.size≤v2:=by have:=zw hB Bz;omega
 replace h1:=h1.below hN
 replace h2:=h2.below hN
 replace h3:=h3.below hN
 replace h4:=h4.below hN
 replace hB:=zAa (zAa hB Bz) hN
 replace HX0:=zh ((zx HX0 Bz).below hN)
 replace HX1:=zh ((zx HX1 Bz).below hN)
 have HX2:=zh x2
 clear x2 hN Bz hb2
 have Bz:=Below.refl V2.heap.size V2
 with_reducible refine(num15_q (4) (zh (by omega)) (zh (Tab.below hT.out (zAa hB (zAa (b:=V2) Bz (by go_grown)))))).mono ?_
 rintro e w5 ⟨s5,A5,c5,l5,s5r,A5r,c5r,l5r,rfl,h5,b5⟩
 replace b5:=zAa (a:=V2) (by go_grown) b5
 replace h1:=h1.below b5
 replace h2:=h2.below b5
 replace h3:=h3.below b5
 replace h4:=h4.below b5
 replace Bz:=zAa Bz b5
 clear b5
 go_wp2_with fail
 obtain⟨V3,hW,x3,hN⟩:=zAc w5 #[.slice (some ⟨v2,0,none⟩) 2 2,.int .u8 3,.bool s5,.slice A5 l5 c5,.bool s5r,.slice A5r l5r c5r] 35
 rw[←hW]
 clear hW
 obtain⟨v3,hb3⟩:∃b,b=w5.heap.size:=⟨_,rfl⟩
 rw[←hb3] at x3 ⊢
 have o0_3:w.heap.size<v3:=by have:=(zx HX0 Bz).lt;omega
 have o1_3:v1<v3:=by have:=(zx HX1 Bz).lt;omega
 have o2_3:v2<v3:=by have:=(zx HX2 Bz).lt;omega
 have ow_3:w.heap.size≤v3:=by have:=zw hB Bz;omega
 replace h1:=h1.below hN
 replace h2:=h2.below hN
 replace h3:=h3.below hN
 replace h4:=h4.below hN
 replace h5:=h5.below hN
 replace hB:=zAa (zAa hB Bz) hN
 replace HX0:=zh ((zx HX0 Bz).below hN)
 replace HX1:=zh ((zx HX1 Bz).below hN)
 replace HX2:=zh ((zx HX2 Bz).below hN)
 have HX3:=zh x3
 clear x3 hN Bz hb3
 have Bz:=Below.refl V3.heap.size V3
 with_reducible refine(num15_q (1) (zh (by omega)) (zh (Tab.below hT.out (zAa hB (zAa (b:=V3) Bz (by go_grown)))))).mono ?_
 rintro e w6 ⟨s6,A6,c6,l6,s6r,A6r,c6r,l6r,rfl,h6,b6⟩
 replace b6:=zAa (a:=V3) (by go_grown) b6
 replace h1:=h1.below b6
 replace h2:=h2.below b6
 replace h3:=h3.below b6
 replace h4:=h4.below b6
 replace h5:=h5.below b6
 replace Bz:=zAa Bz b6
 clear b6
 go_wp2_with fail
 with_reducible refine(num15_q (2) (zh (by omega)) (zh (Tab.below hT.out (zAa hB (zAa (b:=w6) Bz (by go_grown)))))).mono ?_
 rintro e w7 ⟨s7,A7,c7,l7,s7r,A7r,c7r,l7r,rfl,h7,b7⟩
 replace b7:=zAa (a:=w6) (by go_grown) b7
 replace h1:=h1.below b7
 replace h2:=h2.below b7
 replace h3:=h3.below b7
 replace h4:=h4.below b7
 replace h5:=h5.below b7
 replace h6:=h6.below b7
 replace Bz:=zAa Bz b7
 clear b7
 obtain⟨p0_0,p0_1,p0_2,-⟩:=(zx HX0 Bz).cz
 have f0_0:=(zx HX0 Bz).frozen 0
 have f0_1:=(zx HX0 Bz).frozen 1
 have f0_2:=(zx HX0 Bz).frozen 2
 have y0:=(zx HX0 Bz).lt
 go_wp2_with fail
 clear p0_0 p0_1 p0_2 f0_0 f0_1 f0_2 y0
 obtain⟨p0_0,p0_1,p0_2,-⟩:=(zx HX0 Bz).cz
 obtain⟨V4,hW,x,kk,far,bel⟩:=st3_0_3 (.slice (some ⟨v1,0,none⟩) 2 2) (.slice (some ⟨v3,0,none⟩) 1 1) (.slice (some ⟨w7.heap.size,0,none⟩) 2 2) (zx HX0 Bz) nofun nofun nofun
 have hzV4:V4.heap.size=w7.heap.size:=by rw[hW];simp
 rw[←hW]
 clear hW
 replace h1:=h1.k kk
 replace h2:=h2.k kk
 replace h3:=h3.k kk
 replace h4:=h4.k kk
 replace h5:=h5.k kk
 replace h6:=h6.k kk
 replace h7:=h7.k kk
 replace hB:=bel w.heap.size w (by omega) (zAa hB Bz)
 replace HX1:=zh (far _ _ _ (by omega) (zx HX1 Bz))
 replace HX2:=zh (far _ _ _ (by omega) (zx HX2 Bz))
 replace HX3:=zh (far _ _ _ (by omega) (zx HX3 Bz))
 replace HX0:=zh x
 clear x kk far bel Bz
 have Bz:=Below.refl V4.heap.size V4
 clear p0_0 p0_1 p0_2
 have hz:V4.heap.size=w7.heap.size:=by omega
 obtain⟨V5,hW,x4,hN⟩:=zAc V4 #[.int .i64 0,.bool s6,.slice A6 l6 c6,.bool s6r,.slice A6r l6r c6r,.int .i64 1,.bool s7,.slice A7 l7 c7,.bool s7r,.slice A7r l7r c7r] 71
 have hs4:V5.heap.size=V4.heap.size+1:=by rw[hW];simp
 rw[←hW]
 clear hW
 rw[hz] at x4 hs4
 obtain⟨v4,hb4⟩:∃b,b=w7.heap.size:=⟨_,rfl⟩
 rw[←hb4] at x4 hs4 HX0 ⊢
 have o0_4:w.heap.size<v4:=by have:=(zx HX0 Bz).lt;omega
 have o1_4:v1<v4:=by have:=(zx HX1 Bz).lt;omega
 have o2_4:v2<v4:=by have:=(zx HX2 Bz).lt;omega
 have o3_4:v3<v4:=by have:=(zx HX3 Bz).lt;omega
 have ow_4:w.heap.size≤v4:=by have:=zw hB Bz;omega
 replace h1:=h1.below hN
 replace h2:=h2.below hN
 replace h3:=h3.below hN
 replace h4:=h4.below hN
 replace h5:=h5.below hN
 replace h6:=h6.below hN
 replace h7:=h7.below hN
 replace hB:=zAa (zAa hB Bz) hN
 replace HX0:=zh ((zx HX0 Bz).below hN)
 replace HX1:=zh ((zx HX1 Bz).below hN)
 replace HX2:=zh ((zx HX2 Bz).below hN)
 replace HX3:=zh ((zx HX3 Bz).below hN)
 have HX4:=zh x4
 clear x4 hN Bz hb4
 have Bz:=Below.refl V5.heap.size V5
 obtain⟨p0_0,p0_1,p0_2,-⟩:=(zx HX0 Bz).cz
 have f0_0:=(zx HX0 Bz).frozen 0
 have f0_1:=(zx HX0 Bz).frozen 1
 have f0_2:=(zx HX0 Bz).frozen 2
 have y0:=(zx HX0 Bz).lt
 (try simp only[Exit.inBlock,Exit.then])
 refine bodyPost_ret (by simp[results,Tryz.results62,go_sem,p0_0,p0_1,p0_2];try rfl) rfl ?_
 have hF:=zAa (c:=V5) hB Bz
 have hvs:=sl_lit15 (f:=Vr.cs) (k:=9) (n:=2) (L:=[⟨zFr,Fm.fr ⟨s1,A1,c1,l1,s1r,A1r,c1r,l1r⟩ (qof 3 1),false⟩,⟨zFr,Fm.fr ⟨s2,A2,c2,l2,s2r,A2r,c2r,l2r⟩ (qof 2 1),true⟩]) Vr.cs_len (HX1.out.below (zAa Bz (by go_grown))) rfl rfl
 have hts:=sl_lit15 (f:=Tm.cs) (k:=5) (n:=2) (L:=[⟨0,Fm.fr ⟨s3,A3,c3,l3,s3r,A3r,c3r,l3r⟩ (qof 1 1)⟩,⟨1,Fm.fr ⟨s4,A4,c4,l4,s4r,A4r,c4r,l4r⟩ (qof 1 1)⟩]) Tm.cs_len (HX2.out.below (zAa Bz (by go_grown))) rfl rfl
 have hrs:=sl_lit15 (f:=Rw.cs) (k:=6) (n:=1) (L:=[⟨some ⟨v2,0,none⟩,2,2,[⟨0,Fm.fr ⟨s3,A3,c3,l3,s3r,A3r,c3r,l3r⟩ (qof 1 1)⟩,⟨1,Fm.fr ⟨s4,A4,c4,l4,s4r,A4r,c4r,l4r⟩ (qof 1 1)⟩],3,Fm.fr ⟨s5,A5,c5,l5,s5r,A5r,c5r,l5r⟩ (qof 4 1)⟩]) Rw.cs_len (HX3.out.below (zAa Bz (by go_grown))) rfl rfl
 have hcs:=sl_lit15 (f:=Tm.cs) (k:=5) (n:=2) (L:=[⟨0,Fm.fr ⟨s6,A6,c6,l6,s6r,A6r,c6r,l6r⟩ (qof 1 1)⟩,⟨1,Fm.fr ⟨s7,A7,c7,l7,s7r,A7r,c7r,l7r⟩ (qof 2 1)⟩]) Tm.cs_len (HX4.out.below (zAa Bz (by go_grown))) rfl rfl
 have hf1:=(RN.fr (RN.below h1 (by go_grown)) (sz_one (by decide) (by decide) (by decide)))
 have hf2:=(RN.fr (RN.below h2 (by go_grown)) (sz_one (by decide) (by decide) (by decide)))
 have hf3:=(RN.fr (RN.below h3 (by go_grown)) (sz_one (by decide) (by decide) (by decide)))
 have hf4:=(RN.fr (RN.below h4 (by go_grown)) (sz_one (by decide) (by decide) (by decide)))
 have hf5:=(RN.fr (RN.below h5 (by go_grown)) (sz_one (by decide) (by decide) (by decide)))
 have hf6:=(RN.fr (RN.below h6 (by go_grown)) (sz_one (by decide) (by decide) (by decide)))
 have hf7:=(RN.fr (RN.below h7 (by go_grown)) (sz_one (by decide) (by decide) (by decide)))
 exact⟨_,v1,v3,v4,v2,⟨s1,A1,c1,l1,s1r,A1r,c1r,l1r⟩,⟨s2,A2,c2,l2,s2r,A2r,c2r,l2r⟩,⟨s3,A3,c3,l3,s3r,A3r,c3r,l3r⟩,⟨s4,A4,c4,l4,s4r,A4r,c4r,l4r⟩,⟨s5,A5,c5,l5,s5r,A5r,c5r,l5r⟩,⟨s6,A6,c6,l6,s6r,A6r,c6r,l6r⟩,⟨s7,A7,c7,l7,s7r,A7r,c7r,l7r⟩,rfl,rfl,⟨hvs,all2 ⟨(zFr_ok _ (by omega)),hf1⟩ ⟨(zFr_ok _ (by omega)),hf2⟩,hrs,all1 ⟨hts,all2 hf3 hf4,Nat.le_of_ble_eq_true rfl,(fun h=>(by cases h)),hf5⟩,hcs,all2 hf6 hf7,⟨Nat.le_of_ble_eq_true rfl,Nat.le_of_ble_eq_true rfl,Nat.le_of_ble_eq_true rfl⟩,(fun h=>(by cases h))⟩,zAa hF (by go_grown)⟩
theorem awake15_q {w:World} (hT:Hid (Tab w)):Calls Tryz.prog 15 #[] w fun e w'=>e=.returned (.bool true)∧Below w.heap.size w w':=by
 have hB:=Below.refl w.heap.size w
 have Bz:=Below.refl w.heap.size w
 go_enter Tryz.func15,Tryz.ntmps15
 go_wp2_with fail
 with_reducible refine(plain15_q (zh (Tab.below hT.out (zAa hB (zAa (b:=w) Bz (by go_grown)))))).mono ?_
 rintro e w1 ⟨p,q1,q2,q3,q4,m1,m2,m3,m4,m5,m6,m7,hp0,rfl,hp1,b1⟩
 replace b1:=zAa (a:=w) (by go_grown) b1
 replace Bz:=zAa Bz b1
 clear b1
 have HP0:=zh hp0
 clear hp0
 go_upto_region 2 with(fail)
 obtain⟨V1,hW,x0,hN⟩:=zAc w1 #[.slice p.vA p.vn p.vc,.slice p.rA p.rn p.rc,.slice p.cA p.cn p.cc] 27
 rw[←hW]
 clear hW
 obtain⟨v0,hb0⟩:∃b,b=w1.heap.size:=⟨_,rfl⟩
 rw[←hb0] at x0 ⊢
 have ow_0:w.heap.size≤v0:=by have:=zw hB Bz;omega
 replace hp1:=hp1.below hN
 replace hB:=zAa (zAa hB Bz) hN
 have HX0:=zh x0
 clear x0 hN Bz hb0
 have Bz:=Below.refl V1.heap.size V1
 obtain⟨p0_0,p0_1,p0_2,-⟩:=(zx HX0 Bz).cz
 go_wp2_with fail
 (try simp only[List.append_eq,List.cons_append,List.nil_append])
 refine wp_region_plan (.take 0 (.only 1 (.only 2 (.only 3 (.only 4 (.take 5 (.take 6 (.take 7 (.take 8 (.take 9 .done)))))))))) [] (fun w'=>w'.cell? ⟨v0,0,none⟩=some (.slice p.vA p.vn p.vc)∧w'.cell? ⟨v0,1,none⟩=some (.slice p.rA p.rn p.rc)∧w'.cell? ⟨v0,2,none⟩=some (.slice p.cA p.cn p.cc)) (by kernel_rfl) (by kernel_rfl) ⟨p0_0,p0_1,p0_2⟩ ?_
 refine zT rfl rfl (fun w' ⟨p0_0,p0_1,p0_2⟩=>by go_simp<;>with_reducible rfl) ?_
 try simp only[uW,uX,uY,uZ]
 refine zC 13 rfl rfl (fun K hK=>?_)
 go_simp
 with_reducible refine(num15_q (1) (zh (by omega)) (zh (Tab.below hT.out (zAa hB (zAa (b:=V1) Bz (by go_grown)))))).mono ?_
 rintro e w2 ⟨s2,A2,c2,l2,s2r,A2r,c2r,l2r,rfl,h2,b2⟩
 replace b2:=zAa (a:=V1) (by go_grown) b2
 replace hp1:=hp1.below b2
 replace Bz:=zAa Bz b2
 clear b2
 clear p0_0 p0_1 p0_2
 obtain⟨p0_0,p0_1,p0_2,-⟩:=(zx HX0 Bz).cz
 refine hK.out _ _ ⟨p0_0,p0_1,p0_2⟩ (fun _=>?_)
 try simp only[uW,uX,uY,uZ]
 clear hK K
 refine zC 14 rfl rfl (fun K hK=>?_)
 go_simp
 with_reducible refine(num15_q (2) (zh (by omega)) (zh (Tab.below hT.out (zAa hB (zAa (b:=w2) Bz (by go_grown)))))).mono ?_
 rintro e w3 ⟨s3,A3,c3,l3,s3r,A3r,c3r,l3r,rfl,h3,b3⟩
 replace b3:=zAa (a:=w2) (by go_grown) b3
 replace h2:=h2.below b3
 replace hp1:=hp1.below b3
 replace Bz:=zAa Bz b3
 clear b3
 clear p0_0 p0_1 p0_2
 obtain⟨p0_0,p0_1,p0_2,-⟩:=(zx HX0 Bz).cz
 refine hK.out _ _ ⟨p0_0,p0_1,p0_2⟩ (fun _=>?_)
 try simp only[uW,uX,uY,uZ]
 clear hK K
 refine zC 15 rfl rfl (fun K hK=>?_)
 go_simp
 refine hK.out _ _ ⟨(zAb p0_0),(zAb p0_1),(zAb p0_2)⟩ (fun _=>?_)
 try simp only[uW,uX,uY,uZ]
 clear hK K
 refine zC 16 rfl rfl (fun K hK=>?_)
 go_simp
 obtain⟨V2,hW,x1,hN⟩:=zAc w3 #[.bool s2,.slice A2 l2 c2,.bool s2r,.slice A2r l2r c2r,.bool s3,.slice A3 l3 c3,.bool s3r,.slice A3r l3r c3r] 33
 rw[←hW]
 clear hW
 obtain⟨v1,hb1⟩:∃b,b=w3.heap.size:=⟨_,rfl⟩
 rw[←hb1] at x1 ⊢
 have o0_1:v0<v1:=by have:=(zx HX0 Bz).lt;omega
 have ow_1:w.heap.size≤v1:=by have:=zw hB Bz;omega
 replace h2:=h2.below hN
 replace h3:=h3.below hN
 replace hp1:=hp1.below hN
 replace hB:=zAa (zAa hB Bz) hN
 replace HX0:=zh ((zx HX0 Bz).below hN)
 have HX1:=zh x1
 clear x1 hN Bz hb1
 have Bz:=Below.refl V2.heap.size V2
 clear p0_0 p0_1 p0_2
 with_reducible refine(broken_q (mx:=1) (M:=4) (KK:=27) (PgOk.below hp1 (by go_grown)) (sl_lit15 (f:=Fr.cs) (k:=4) (n:=2) (L:=[⟨s2,A2,c2,l2,s2r,A2r,c2r,l2r,qof (1) 1,true⟩,⟨s3,A3,c3,l3,s3r,A3r,c3r,l3r,qof (2) 1,true⟩]) Fr.cs_len (HX1.out.below (zAa Bz (by go_grown))) rfl rfl) (zh (all2 (RN.fr (RN.below h2 (by go_grown)) (sz_one (by decide) (by decide) (by decide))) (RN.fr (RN.below h3 (by go_grown)) (sz_one (by decide) (by decide) (by decide))))) (by omega) (by decide) (by decide) (by decide) (by decide) (zh (by rw[HP0.out];intro x hx;obtain rfl:=List.mem_singleton.1 hx;exact⟨Nat.le_of_ble_eq_true rfl,Nat.le_of_ble_eq_true rfl⟩)) (by decide) 2 0 (zh (by rw[HP0.out];kernel_rfl)) (zh (Tab.below hT.out (zAa hB (zAa (b:=V2) Bz (by go_grown)))))).mono ?_
 rintro e w4 ⟨rfl,b4⟩
 replace b4:=zAa (a:=V2) (by go_grown) b4
 replace hp1:=hp1.below b4
 replace Bz:=zAa Bz b4
 clear b4
 obtain⟨p0_0,p0_1,p0_2,-⟩:=(zx HX0 Bz).cz
 refine hK.out _ _ ⟨p0_0,p0_1,p0_2⟩ (fun _=>?_)
 try simp only[uW,uX,uY,uZ]
 clear hK K
 iterate 5 (refine zT rfl rfl (fun w' ⟨p0_0,p0_1,p0_2⟩=>by go_simp<;>with_reducible rfl) ?_;try simp only[uW,uX,uY,uZ])
 refine wpPlan_done ?_
 go_wp2_with fail
 (try simp only[List.append_eq,List.cons_append,List.nil_append])
 refine wp_region_plan (.take 0 (.only 1 (.only 2 (.only 3 (.only 4 (.take 5 (.take 6 (.take 7 (.take 8 (.take 9 .done)))))))))) [] (fun w'=>w'.cell? ⟨v0,0,none⟩=some (.slice p.vA p.vn p.vc)∧w'.cell? ⟨v0,1,none⟩=some (.slice p.rA p.rn p.rc)∧w'.cell? ⟨v0,2,none⟩=some (.slice p.cA p.cn p.cc)) (by kernel_rfl) (by kernel_rfl) ⟨p0_0,p0_1,p0_2⟩ ?_
 refine zT rfl rfl (fun w' ⟨p0_0,p0_1,p0_2⟩=>by go_simp<;>with_reducible rfl) ?_
 try simp only[uW,uX,uY,uZ]
 refine zC 21 rfl rfl (fun K hK=>?_)
 go_simp
 with_reducible refine(num15_q (3) (zh (by omega)) (zh (Tab.below hT.out (zAa hB (zAa (b:=w4) Bz (by go_grown)))))).mono ?_
 rintro e w5 ⟨s5,A5,c5,l5,s5r,A5r,c5r,l5r,rfl,h5,b5⟩
 replace b5:=zAa (a:=w4) (by go_grown) b5
 replace hp1:=hp1.below b5
 replace Bz:=zAa Bz b5
 clear b5
 clear p0_0 p0_1 p0_2
 obtain⟨p0_0,p0_1,p0_2,-⟩:=(zx HX0 Bz).cz
 refine hK.out _ _ ⟨p0_0,p0_1,p0_2⟩ (fun _=>?_)
 try simp only[uW,uX,uY,uZ]
 clear hK K
 refine zC 22 rfl rfl (fun K hK=>?_)
 go_simp
 with_reducible refine(of_q (3) 2 (zh (by omega)) (zh (by omega)) (zh (Tab.below hT.out (zAa hB (zAa (b:=w5) Bz (by go_grown)))))).mono ?_
 rintro e w6 ⟨s6,A6,c6,l6,s6r,A6r,c6r,l6r,rfl,h6,b6⟩
 replace b6:=zAa (a:=w5) (by go_grown) b6
 replace h5:=h5.below b6
 replace hp1:=hp1.below b6
 replace Bz:=zAa Bz b6
 clear b6
 clear p0_0 p0_1 p0_2
 obtain⟨p0_0,p0_1,p0_2,-⟩:=(zx HX0 Bz).cz
 refine hK.out _ _ ⟨p0_0,p0_1,p0_2⟩ (fun _=>?_)
 try simp only[uW,uX,uY,uZ]
 clear hK K
 refine zC 23 rfl rfl (fun K hK=>?_)
 go_simp
 refine hK.out _ _ ⟨(zAb p0_0),(zAb p0_1),(zAb p0_2)⟩ (fun _=>?_)
 try simp only[uW,uX,uY,uZ]
 clear hK K
 refine zC 24 rfl rfl (fun K hK=>?_)
 go_simp
 obtain⟨V3,hW,x2,hN⟩:=zAc w6 #[.bool s5,.slice A5 l5 c5,.bool s5r,.slice A5r l5r c5r,.bool s6,.slice A6 l6 c6,.bool s6r,.slice A6r l6r c6r] 33
 rw[←hW]
 clear hW
 obtain⟨v2,hb2⟩:∃b,b=w6.heap.size:=⟨_,rfl⟩
 rw[←hb2] at x2 ⊢
 have o0_2:v0<v2:=by have:=(zx HX0 Bz).lt;omega
 have o1_2:v1<v2:=by have:=(zx HX1 Bz).lt;omega
 have ow_2:w.heap.size≤v2:=by have:=zw hB Bz;omega
 replace h5:=h5.below hN
 replace h6:=h6.below hN
 replace hp1:=hp1.below hN
 replace hB:=zAa (zAa hB Bz) hN
 replace HX0:=zh ((zx HX0 Bz).below hN)
 replace HX1:=zh ((zx HX1 Bz).below hN)
 have HX2:=zh x2
 clear x2 hN Bz hb2
 have Bz:=Below.refl V3.heap.size V3
 clear p0_0 p0_1 p0_2
 with_reducible refine(broken_q (mx:=1) (M:=4) (KK:=27) (PgOk.below hp1 (by go_grown)) (sl_lit15 (f:=Fr.cs) (k:=4) (n:=2) (L:=[⟨s5,A5,c5,l5,s5r,A5r,c5r,l5r,qof (3) 1,true⟩,⟨s6,A6,c6,l6,s6r,A6r,c6r,l6r,qof (3) 2,true⟩]) Fr.cs_len (HX2.out.below (zAa Bz (by go_grown))) rfl rfl) (zh (all2 (RN.fr (RN.below h5 (by go_grown)) (sz_one (by decide) (by decide) (by decide))) (RN.fr (RN.below h6 (by go_grown)) (sz_one (by decide) (by decide) (by decide))))) (by omega) (by decide) (by decide) (by decide) (by decide) (zh (by rw[HP0.out];intro x hx;obtain rfl:=List.mem_singleton.1 hx;exact⟨Nat.le_of_ble_eq_true rfl,Nat.le_of_ble_eq_true rfl⟩)) (by decide) 3 1 (zh (by rw[HP0.out];kernel_rfl)) (zh (Tab.below hT.out (zAa hB (zAa (b:=V3) Bz (by go_grown)))))).mono ?_
 rintro e w7 ⟨rfl,b7⟩
 replace b7:=zAa (a:=V3) (by go_grown) b7
 replace hp1:=hp1.below b7
 replace Bz:=zAa Bz b7
 clear b7
 obtain⟨p0_0,p0_1,p0_2,-⟩:=(zx HX0 Bz).cz
 refine hK.out _ _ ⟨p0_0,p0_1,p0_2⟩ (fun _=>?_)
 try simp only[uW,uX,uY,uZ]
 clear hK K
 iterate 5 (refine zT rfl rfl (fun w' ⟨p0_0,p0_1,p0_2⟩=>by go_simp<;>with_reducible rfl) ?_;try simp only[uW,uX,uY,uZ])
 refine wpPlan_done ?_
 go_wp2_with fail
 (try simp only[List.append_eq,List.cons_append,List.nil_append])
 refine wp_region_plan (.take 0 (.only 1 (.only 2 (.only 3 (.only 4 (.take 5 (.take 6 (.take 7 (.take 8 (.take 9 .done)))))))))) [] (fun w'=>w'.cell? ⟨v0,0,none⟩=some (.slice p.vA p.vn p.vc)∧w'.cell? ⟨v0,1,none⟩=some (.slice p.rA p.rn p.rc)∧w'.cell? ⟨v0,2,none⟩=some (.slice p.cA p.cn p.cc)) (by kernel_rfl) (by kernel_rfl) ⟨p0_0,p0_1,p0_2⟩ ?_
 refine zT rfl rfl (fun w' ⟨p0_0,p0_1,p0_2⟩=>by go_simp<;>with_reducible rfl) ?_
 try simp only[uW,uX,uY,uZ]
 refine zC 29 rfl rfl (fun K hK=>?_)
 go_simp
 with_reducible refine(num15_q (3) (zh (by omega)) (zh (Tab.below hT.out (zAa hB (zAa (b:=w7) Bz (by go_grown)))))).mono ?_
 rintro e w8 ⟨s8,A8,c8,l8,s8r,A8r,c8r,l8r,rfl,h8,b8⟩
 replace b8:=zAa (a:=w7) (by go_grown) b8
 replace hp1:=hp1.below b8
 replace Bz:=zAa Bz b8
 clear b8
 clear p0_0 p0_1 p0_2
 obtain⟨p0_0,p0_1,p0_2,-⟩:=(zx HX0 Bz).cz
 refine hK.out _ _ ⟨p0_0,p0_1,p0_2⟩ (fun _=>?_)
 try simp only[uW,uX,uY,uZ]
 clear hK K
 refine zC 30 rfl rfl (fun K hK=>?_)
 go_simp
 with_reducible refine(num15_q (1) (zh (by omega)) (zh (Tab.below hT.out (zAa hB (zAa (b:=w8) Bz (by go_grown)))))).mono ?_
 rintro e w9 ⟨s9,A9,c9,l9,s9r,A9r,c9r,l9r,rfl,h9,b9⟩
 replace b9:=zAa (a:=w8) (by go_grown) b9
 replace h8:=h8.below b9
 replace hp1:=hp1.below b9
 replace Bz:=zAa Bz b9
 clear b9
 clear p0_0 p0_1 p0_2
 obtain⟨p0_0,p0_1,p0_2,-⟩:=(zx HX0 Bz).cz
 refine hK.out _ _ ⟨p0_0,p0_1,p0_2⟩ (fun _=>?_)
 try simp only[uW,uX,uY,uZ]
 clear hK K
 refine zC 31 rfl rfl (fun K hK=>?_)
 go_simp
 refine hK.out _ _ ⟨(zAb p0_0),(zAb p0_1),(zAb p0_2)⟩ (fun _=>?_)
 try simp only[uW,uX,uY,uZ]
 clear hK K
 refine zC 32 rfl rfl (fun K hK=>?_)
 go_simp
 obtain⟨V4,hW,x3,hN⟩:=zAc w9 #[.bool s8,.slice A8 l8 c8,.bool s8r,.slice A8r l8r c8r,.bool s9,.slice A9 l9 c9,.bool s9r,.slice A9r l9r c9r] 33
 rw[←hW]
 clear hW
 obtain⟨v3,hb3⟩:∃b,b=w9.heap.size:=⟨_,rfl⟩
 rw[←hb3] at x3 ⊢
 have o0_3:v0<v3:=by have:=(zx HX0 Bz).lt;omega
 have o1_3:v1<v3:=by have:=(zx HX1 Bz).lt;omega
 have o2_3:v2<v3:=by have:=(zx HX2 Bz).lt;omega
 have ow_3:w.heap.size≤v3:=by have:=zw hB Bz;omega
 replace h8:=h8.below hN
 replace h9:=h9.below hN
 replace hp1:=hp1.below hN
 replace hB:=zAa (zAa hB Bz) hN
 replace HX0:=zh ((zx HX0 Bz).below hN)
 replace HX1:=zh ((zx HX1 Bz).below hN)
 replace HX2:=zh ((zx HX2 Bz).below hN)
 have HX3:=zh x3
 clear x3 hN Bz hb3
 have Bz:=Below.refl V4.heap.size V4
 clear p0_0 p0_1 p0_2
 with_reducible refine(broken_q (mx:=1) (M:=4) (KK:=27) (PgOk.below hp1 (by go_grown)) (sl_lit15 (f:=Fr.cs) (k:=4) (n:=2) (L:=[⟨s8,A8,c8,l8,s8r,A8r,c8r,l8r,qof (3) 1,true⟩,⟨s9,A9,c9,l9,s9r,A9r,c9r,l9r,qof (1) 1,true⟩]) Fr.cs_len (HX3.out.below (zAa Bz (by go_grown))) rfl rfl) (zh (all2 (RN.fr (RN.below h8 (by go_grown)) (sz_one (by decide) (by decide) (by decide))) (RN.fr (RN.below h9 (by go_grown)) (sz_one (by decide) (by decide) (by decide))))) (by omega) (by decide) (by decide) (by decide) (by decide) (zh (by rw[HP0.out];intro x hx;obtain rfl:=List.mem_singleton.1 hx;exact⟨Nat.le_of_ble_eq_true rfl,Nat.le_of_ble_eq_true rfl⟩)) (by decide) 0 0 (zh (by rw[HP0.out];kernel_rfl)) (zh (Tab.below hT.out (zAa hB (zAa (b:=V4) Bz (by go_grown)))))).mono ?_
 rintro e w10 ⟨rfl,b10⟩
 replace b10:=zAa (a:=V4) (by go_grown) b10
 replace hp1:=hp1.below b10
 replace Bz:=zAa Bz b10
 clear b10
 obtain⟨p0_0,p0_1,p0_2,-⟩:=(zx HX0 Bz).cz
 refine hK.out _ _ ⟨p0_0,p0_1,p0_2⟩ (fun _=>?_)
 try simp only[uW,uX,uY,uZ]
 clear hK K
 iterate 5 (refine zT rfl rfl (fun w' ⟨p0_0,p0_1,p0_2⟩=>by go_simp<;>with_reducible rfl) ?_;try simp only[uW,uX,uY,uZ])
 refine wpPlan_done ?_
 go_wp2_with fail
 with_reducible refine(form_q (N:=3) (KD:=20) (PgOk.below hp1 (by go_grown)) (by rw[HP0.out];kernel_rfl) (by rw[HP0.out];kernel_rfl) (by decide) (zh ⟨by decide,by rw[HP0.out];intro x hx;obtain rfl:=List.mem_singleton.1 hx;exact⟨Nat.le_of_ble_eq_true rfl,Nat.le_of_ble_eq_true rfl⟩⟩) (zh (Tab.below hT.out (zAa hB (zAa (b:=w10) Bz (by go_grown)))))).mono ?_
 rintro e w11 ⟨g1,g2,g3,g4,g5,CV,LO,HI,CO,BB,rfl,hfs11,hcl11,hlo11,hhi11,hco11,hbb11,b11⟩
 replace b11:=zAa (a:=w10) (by go_grown) b11
 replace hp1:=hp1.below b11
 replace Bz:=zAa Bz b11
 clear b11
 clear hcl11 hco11 hbb11
 have hle:=hfs11.lens
 obtain⟨yl,hyl⟩:∃y,LO[2]?=some y:=⟨LO[2]'(by omega),List.getElem?_eq_getElem _⟩
 obtain⟨yh,hyh⟩:∃y,HI[2]?=some y:=⟨HI[2]'(by omega),List.getElem?_eq_getElem _⟩
 have HYL:=zh hyl
 have HYH:=zh hyh
 have HQL:Hid (yl.q=qof (-1) 1):=zh ((hlo11 2 yl hyl).2.2.2.trans (by rw[HP0.out];kernel_rfl))
 have HQH:Hid (yh.q=0):=zh ((hhi11 2 yh hyh).2.2.2.trans (by rw[HP0.out];kernel_rfl))
 clear hyl hyh hle
 clear p0_0 p0_1 p0_2
 go_upto_region 6 with(fail)
 obtain⟨V5,hW,x4,hN⟩:=zAc w11 #[.int .i64 (p.rn:Int),.slice (some ⟨g1,0,none⟩) 3 3,.slice (some ⟨g2,0,none⟩) 3 3,.slice (some ⟨g3,0,none⟩) 3 3,.slice (some ⟨g4,0,none⟩) 3 3,.slice (some ⟨g5,0,none⟩) p.rn p.rn] 39
 rw[←hW]
 clear hW
 obtain⟨v4,hb4⟩:∃b,b=w11.heap.size:=⟨_,rfl⟩
 rw[←hb4] at x4 ⊢
 have o0_4:v0<v4:=by have:=(zx HX0 Bz).lt;omega
 have o1_4:v1<v4:=by have:=(zx HX1 Bz).lt;omega
 have o2_4:v2<v4:=by have:=(zx HX2 Bz).lt;omega
 have o3_4:v3<v4:=by have:=(zx HX3 Bz).lt;omega
 have ow_4:w.heap.size≤v4:=by have:=zw hB Bz;omega
 replace hfs11:=hfs11.below hN
 replace hhi11:=hhi11.below hN
 replace hlo11:=hlo11.below hN
 replace hp1:=hp1.below hN
 replace hB:=zAa (zAa hB Bz) hN
 replace HX0:=zh ((zx HX0 Bz).below hN)
 replace HX1:=zh ((zx HX1 Bz).below hN)
 replace HX2:=zh ((zx HX2 Bz).below hN)
 replace HX3:=zh ((zx HX3 Bz).below hN)
 have HX4:=zh x4
 clear x4 hN Bz hb4
 have Bz:=Below.refl V5.heap.size V5
 obtain⟨p0_0,p0_1,p0_2,-⟩:=(zx HX0 Bz).cz
 obtain⟨-,p4_1,p4_2,p4_3,-⟩:=(zx HX4 Bz).cz
 have p51_0:=(show World.cell? _ ⟨g2,8,none⟩=some (.bool yl.s) from elt_frs.cell hfs11.fm.r2 HYL.out (j:=0) (u:=.bool yl.s) (by omega) rfl)
 have p51_1:=(show World.cell? _ ⟨g2,9,none⟩=some (.slice yl.A yl.l yl.c) from elt_frs.cell hfs11.fm.r2 HYL.out (j:=1) (u:=.slice yl.A yl.l yl.c) (by omega) rfl)
 have p51_2:=(show World.cell? _ ⟨g2,10,none⟩=some (.bool yl.s') from elt_frs.cell hfs11.fm.r2 HYL.out (j:=2) (u:=.bool yl.s') (by omega) rfl)
 have p51_3:=(show World.cell? _ ⟨g2,11,none⟩=some (.slice yl.A' yl.l' yl.c') from elt_frs.cell hfs11.fm.r2 HYL.out (j:=3) (u:=.slice yl.A' yl.l' yl.c') (by omega) rfl)
 have p52_0:=(show World.cell? _ ⟨g3,8,none⟩=some (.bool yh.s) from elt_frs.cell hfs11.fm.r3 HYH.out (j:=0) (u:=.bool yh.s) (by omega) rfl)
 have p52_1:=(show World.cell? _ ⟨g3,9,none⟩=some (.slice yh.A yh.l yh.c) from elt_frs.cell hfs11.fm.r3 HYH.out (j:=1) (u:=.slice yh.A yh.l yh.c) (by omega) rfl)
 have p52_2:=(show World.cell? _ ⟨g3,10,none⟩=some (.bool yh.s') from elt_frs.cell hfs11.fm.r3 HYH.out (j:=2) (u:=.bool yh.s') (by omega) rfl)
 have p52_3:=(show World.cell? _ ⟨g3,11,none⟩=some (.slice yh.A' yh.l' yh.c') from elt_frs.cell hfs11.fm.r3 HYH.out (j:=3) (u:=.slice yh.A' yh.l' yh.c') (by omega) rfl)
 go_wp2_with fail
 (try simp only[List.append_eq,List.cons_append,List.nil_append])
 refine wp_region_plan (.take 0 (.only 1 (.take 2 (.take 3 (.take 4 (.take 5 (.take 6 (.take 7 (.take 8 (.take 9 (.take 10 (.take 11 (.take 12 (.take 13 (.take 14 (.take 15 (.take 16 (.take 17 (.take 18 (.take 19 (.take 20 (.take 21 (.take 22 (.take 23 (.take 24 (.only 25 (.only 26 (.only 27 (.only 28 (.only 29 (.only 30 (.take 31 (.take 32 (.take 33 (.take 34 (.take 35 (.take 36 (.take 37 (.take 38 (.take 39 (.take 40 (.take 41 (.take 42 (.take 43 (.take 44 (.take 45 (.take 46 (.only 47 (.only 48 (.take 49 (.take 50 (.take 51 (.take 52 (.take 53 (.take 54 (.only 55 (.take 56 (.take 57 (.take 58 .done))))))))))))))))))))))))))))))))))))))))))))))))))))))))))) [] (fun w'=>w'.cell? ⟨v0,0,none⟩=some (.slice p.vA p.vn p.vc)∧w'.cell? ⟨v0,1,none⟩=some (.slice p.rA p.rn p.rc)∧w'.cell? ⟨v0,2,none⟩=some (.slice p.cA p.cn p.cc)∧w'.cell? ⟨v4,1,none⟩=some (.slice (some ⟨g1,0,none⟩) 3 3)∧w'.cell? ⟨v4,2,none⟩=some (.slice (some ⟨g2,0,none⟩) 3 3)∧w'.cell? ⟨v4,3,none⟩=some (.slice (some ⟨g3,0,none⟩) 3 3)∧w'.cell? ⟨g2,8,none⟩=some (.bool yl.s)∧w'.cell? ⟨g2,9,none⟩=some (.slice yl.A yl.l yl.c)∧w'.cell? ⟨g2,10,none⟩=some (.bool yl.s')∧w'.cell? ⟨g2,11,none⟩=some (.slice yl.A' yl.l' yl.c')∧w'.cell? ⟨g3,8,none⟩=some (.bool yh.s)∧w'.cell? ⟨g3,9,none⟩=some (.slice yh.A yh.l yh.c)∧w'.cell? ⟨g3,10,none⟩=some (.bool yh.s')∧w'.cell? ⟨g3,11,none⟩=some (.slice yh.A' yh.l' yh.c')) (by kernel_rfl) (by kernel_rfl) ⟨p0_0,p0_1,p0_2,p4_1,p4_2,p4_3,p51_0,p51_1,p51_2,p51_3,p52_0,p52_1,p52_2,p52_3⟩ ?_
 refine zT rfl rfl (fun w' ⟨p0_0,p0_1,p0_2,p4_1,p4_2,p4_3,p51_0,p51_1,p51_2,p51_3,p52_0,p52_1,p52_2,p52_3⟩=>by go_simp<;>with_reducible rfl) ?_
 try simp only[uW,uX,uY,uZ]
 refine zC 41 rfl rfl (fun K hK=>?_)
 go_simp
 with_reducible refine(pright_q (PgOk.below hp1 (by go_grown)) (by omega) 0 (zh (by rw[HP0.out];kernel_rfl)) (zh (Tab.below hT.out (zAa hB (zAa (b:=V5) Bz (by go_grown)))))).mono ?_
 rintro e w12 ⟨rfl,b12⟩
 replace b12:=zAa (a:=V5) (by go_grown) b12
 replace hfs11:=hfs11.below b12
 replace hhi11:=hhi11.below b12
 replace hlo11:=hlo11.below b12
 replace hp1:=hp1.below b12
 replace Bz:=zAa Bz b12
 clear b12
 clear p0_0 p0_1 p0_2 p4_1 p4_2 p4_3 p51_0 p51_1 p51_2 p51_3 p52_0 p52_1 p52_2 p52_3
 obtain⟨p0_0,p0_1,p0_2,-⟩:=(zx HX0 Bz).cz
 obtain⟨-,p4_1,p4_2,p4_3,-⟩:=(zx HX4 Bz).cz
 have p51_0:=(show World.cell? _ ⟨g2,8,none⟩=some (.bool yl.s) from elt_frs.cell hfs11.fm.r2 HYL.out (j:=0) (u:=.bool yl.s) (by omega) rfl)
 have p51_1:=(show World.cell? _ ⟨g2,9,none⟩=some (.slice yl.A yl.l yl.c) from elt_frs.cell hfs11.fm.r2 HYL.out (j:=1) (u:=.slice yl.A yl.l yl.c) (by omega) rfl)
 have p51_2:=(show World.cell? _ ⟨g2,10,none⟩=some (.bool yl.s') from elt_frs.cell hfs11.fm.r2 HYL.out (j:=2) (u:=.bool yl.s') (by omega) rfl)
 have p51_3:=(show World.cell? _ ⟨g2,11,none⟩=some (.slice yl.A' yl.l' yl.c') from elt_frs.cell hfs11.fm.r2 HYL.out (j:=3) (u:=.slice yl.A' yl.l' yl.c') (by omega) rfl)
 have p52_0:=(show World.cell? _ ⟨g3,8,none⟩=some (.bool yh.s) from elt_frs.cell hfs11.fm.r3 HYH.out (j:=0) (u:=.bool yh.s) (by omega) rfl)
 have p52_1:=(show World.cell? _ ⟨g3,9,none⟩=some (.slice yh.A yh.l yh.c) from elt_frs.cell hfs11.fm.r3 HYH.out (j:=1) (u:=.slice yh.A yh.l yh.c) (by omega) rfl)
 have p52_2:=(show World.cell? _ ⟨g3,10,none⟩=some (.bool yh.s') from elt_frs.cell hfs11.fm.r3 HYH.out (j:=2) (u:=.bool yh.s') (by omega) rfl)
 have p52_3:=(show World.cell? _ ⟨g3,11,none⟩=some (.slice yh.A' yh.l' yh.c') from elt_frs.cell hfs11.fm.r3 HYH.out (j:=3) (u:=.slice yh.A' yh.l' yh.c') (by omega) rfl)
 refine hK.out _ _ ⟨p0_0,p0_1,p0_2,p4_1,p4_2,p4_3,p51_0,p51_1,p51_2,p51_3,p52_0,p52_1,p52_2,p52_3⟩ (fun _=>?_)
 try simp only[uW,uX,uY,uZ]
 clear hK K
 iterate 23 (refine zT rfl rfl (fun w' ⟨p0_0,p0_1,p0_2,p4_1,p4_2,p4_3,p51_0,p51_1,p51_2,p51_3,p52_0,p52_1,p52_2,p52_3⟩=>by go_simp<;>with_reducible rfl) ?_;try simp only[uW,uX,uY,uZ])
 refine zC 65 rfl rfl (fun K hK=>?_)
 go_simp
 with_reducible refine(num15_q (3) (zh (by omega)) (zh (Tab.below hT.out (zAa hB (zAa (b:=w12) Bz (by go_grown)))))).mono ?_
 rintro e w13 ⟨s13,A13,c13,l13,s13r,A13r,c13r,l13r,rfl,h13,b13⟩
 replace b13:=zAa (a:=w12) (by go_grown) b13
 replace hfs11:=hfs11.below b13
 replace hhi11:=hhi11.below b13
 replace hlo11:=hlo11.below b13
 replace hp1:=hp1.below b13
 replace Bz:=zAa Bz b13
 clear b13
 clear p0_0 p0_1 p0_2 p4_1 p4_2 p4_3 p51_0 p51_1 p51_2 p51_3 p52_0 p52_1 p52_2 p52_3
 obtain⟨p0_0,p0_1,p0_2,-⟩:=(zx HX0 Bz).cz
 obtain⟨-,p4_1,p4_2,p4_3,-⟩:=(zx HX4 Bz).cz
 have p51_0:=(show World.cell? _ ⟨g2,8,none⟩=some (.bool yl.s) from elt_frs.cell hfs11.fm.r2 HYL.out (j:=0) (u:=.bool yl.s) (by omega) rfl)
 have p51_1:=(show World.cell? _ ⟨g2,9,none⟩=some (.slice yl.A yl.l yl.c) from elt_frs.cell hfs11.fm.r2 HYL.out (j:=1) (u:=.slice yl.A yl.l yl.c) (by omega) rfl)
 have p51_2:=(show World.cell? _ ⟨g2,10,none⟩=some (.bool yl.s') from elt_frs.cell hfs11.fm.r2 HYL.out (j:=2) (u:=.bool yl.s') (by omega) rfl)
 have p51_3:=(show World.cell? _ ⟨g2,11,none⟩=some (.slice yl.A' yl.l' yl.c') from elt_frs.cell hfs11.fm.r2 HYL.out (j:=3) (u:=.slice yl.A' yl.l' yl.c') (by omega) rfl)
 have p52_0:=(show World.cell? _ ⟨g3,8,none⟩=some (.bool yh.s) from elt_frs.cell hfs11.fm.r3 HYH.out (j:=0) (u:=.bool yh.s) (by omega) rfl)
 have p52_1:=(show World.cell? _ ⟨g3,9,none⟩=some (.slice yh.A yh.l yh.c) from elt_frs.cell hfs11.fm.r3 HYH.out (j:=1) (u:=.slice yh.A yh.l yh.c) (by omega) rfl)
 have p52_2:=(show World.cell? _ ⟨g3,10,none⟩=some (.bool yh.s') from elt_frs.cell hfs11.fm.r3 HYH.out (j:=2) (u:=.bool yh.s') (by omega) rfl)
 have p52_3:=(show World.cell? _ ⟨g3,11,none⟩=some (.slice yh.A' yh.l' yh.c') from elt_frs.cell hfs11.fm.r3 HYH.out (j:=3) (u:=.slice yh.A' yh.l' yh.c') (by omega) rfl)
 refine hK.out _ _ ⟨p0_0,p0_1,p0_2,p4_1,p4_2,p4_3,p51_0,p51_1,p51_2,p51_3,p52_0,p52_1,p52_2,p52_3⟩ (fun _=>?_)
 try simp only[uW,uX,uY,uZ]
 clear hK K
 refine zC 66 rfl rfl (fun K hK=>?_)
 go_simp
 with_reducible refine(num15_q (1) (zh (by omega)) (zh (Tab.below hT.out (zAa hB (zAa (b:=w13) Bz (by go_grown)))))).mono ?_
 rintro e w14 ⟨s14,A14,c14,l14,s14r,A14r,c14r,l14r,rfl,h14,b14⟩
 replace b14:=zAa (a:=w13) (by go_grown) b14
 replace hfs11:=hfs11.below b14
 replace hhi11:=hhi11.below b14
 replace h13:=h13.below b14
 replace hlo11:=hlo11.below b14
 replace hp1:=hp1.below b14
 replace Bz:=zAa Bz b14
 clear b14
 clear p0_0 p0_1 p0_2 p4_1 p4_2 p4_3 p51_0 p51_1 p51_2 p51_3 p52_0 p52_1 p52_2 p52_3
 obtain⟨p0_0,p0_1,p0_2,-⟩:=(zx HX0 Bz).cz
 obtain⟨-,p4_1,p4_2,p4_3,-⟩:=(zx HX4 Bz).cz
 have p51_0:=(show World.cell? _ ⟨g2,8,none⟩=some (.bool yl.s) from elt_frs.cell hfs11.fm.r2 HYL.out (j:=0) (u:=.bool yl.s) (by omega) rfl)
 have p51_1:=(show World.cell? _ ⟨g2,9,none⟩=some (.slice yl.A yl.l yl.c) from elt_frs.cell hfs11.fm.r2 HYL.out (j:=1) (u:=.slice yl.A yl.l yl.c) (by omega) rfl)
 have p51_2:=(show World.cell? _ ⟨g2,10,none⟩=some (.bool yl.s') from elt_frs.cell hfs11.fm.r2 HYL.out (j:=2) (u:=.bool yl.s') (by omega) rfl)
 have p51_3:=(show World.cell? _ ⟨g2,11,none⟩=some (.slice yl.A' yl.l' yl.c') from elt_frs.cell hfs11.fm.r2 HYL.out (j:=3) (u:=.slice yl.A' yl.l' yl.c') (by omega) rfl)
 have p52_0:=(show World.cell? _ ⟨g3,8,none⟩=some (.bool yh.s) from elt_frs.cell hfs11.fm.r3 HYH.out (j:=0) (u:=.bool yh.s) (by omega) rfl)
 have p52_1:=(show World.cell? _ ⟨g3,9,none⟩=some (.slice yh.A yh.l yh.c) from elt_frs.cell hfs11.fm.r3 HYH.out (j:=1) (u:=.slice yh.A yh.l yh.c) (by omega) rfl)
 have p52_2:=(show World.cell? _ ⟨g3,10,none⟩=some (.bool yh.s') from elt_frs.cell hfs11.fm.r3 HYH.out (j:=2) (u:=.bool yh.s') (by omega) rfl)
 have p52_3:=(show World.cell? _ ⟨g3,11,none⟩=some (.slice yh.A' yh.l' yh.c') from elt_frs.cell hfs11.fm.r3 HYH.out (j:=3) (u:=.slice yh.A' yh.l' yh.c') (by omega) rfl)
 refine hK.out _ _ ⟨p0_0,p0_1,p0_2,p4_1,p4_2,p4_3,p51_0,p51_1,p51_2,p51_3,p52_0,p52_1,p52_2,p52_3⟩ (fun _=>?_)
 try simp only[uW,uX,uY,uZ]
 clear hK K
 refine zC 67 rfl rfl (fun K hK=>?_)
 go_simp
 refine hK.out _ _ ⟨(zAb p0_0),(zAb p0_1),(zAb p0_2),(zAb p4_1),(zAb p4_2),(zAb p4_3),(zAb p51_0),(zAb p51_1),(zAb p51_2),(zAb p51_3),(zAb p52_0),(zAb p52_1),(zAb p52_2),(zAb p52_3)⟩ (fun _=>?_)
 try simp only[uW,uX,uY,uZ]
 clear hK K
 refine zC 68 rfl rfl (fun K hK=>?_)
 go_simp
 obtain⟨V6,hW,x5,hN⟩:=zAc w14 #[.bool s13,.slice A13 l13 c13,.bool s13r,.slice A13r l13r c13r,.bool s14,.slice A14 l14 c14,.bool s14r,.slice A14r l14r c14r] 33
 rw[←hW]
 clear hW
 obtain⟨v5,hb5⟩:∃b,b=w14.heap.size:=⟨_,rfl⟩
 rw[←hb5] at x5 ⊢
 have o0_5:v0<v5:=by have:=(zx HX0 Bz).lt;omega
 have o1_5:v1<v5:=by have:=(zx HX1 Bz).lt;omega
 have o2_5:v2<v5:=by have:=(zx HX2 Bz).lt;omega
 have o3_5:v3<v5:=by have:=(zx HX3 Bz).lt;omega
 have o4_5:v4<v5:=by have:=(zx HX4 Bz).lt;omega
 have ow_5:w.heap.size≤v5:=by have:=zw hB Bz;omega
 replace hfs11:=hfs11.below hN
 replace hhi11:=hhi11.below hN
 replace h13:=h13.below hN
 replace h14:=h14.below hN
 replace hlo11:=hlo11.below hN
 replace hp1:=hp1.below hN
 replace hB:=zAa (zAa hB Bz) hN
 replace HX0:=zh ((zx HX0 Bz).below hN)
 replace HX1:=zh ((zx HX1 Bz).below hN)
 replace HX2:=zh ((zx HX2 Bz).below hN)
 replace HX3:=zh ((zx HX3 Bz).below hN)
 replace HX4:=zh ((zx HX4 Bz).below hN)
 have HX5:=zh x5
 clear x5 hN Bz hb5
 have Bz:=Below.refl V6.heap.size V6
 clear p0_0 p0_1 p0_2 p4_1 p4_2 p4_3 p51_0 p51_1 p51_2 p51_3 p52_0 p52_1 p52_2 p52_3
 with_reducible refine(value_q (mx:=1) (KK:=27) (PgOk.below hp1 (by go_grown)) (sl_lit15 (f:=Fr.cs) (k:=4) (n:=2) (L:=[⟨s13,A13,c13,l13,s13r,A13r,c13r,l13r,qof (3) 1,true⟩,⟨s14,A14,c14,l14,s14r,A14r,c14r,l14r,qof (1) 1,true⟩]) Fr.cs_len (HX5.out.below (zAa Bz (by go_grown))) rfl rfl) (zh (all2 (RN.fr (RN.below h13 (by go_grown)) (sz_one (by decide) (by decide) (by decide))) (RN.fr (RN.below h14 (by go_grown)) (sz_one (by decide) (by decide) (by decide))))) (by decide) (by decide) (by rw[HP0.out];exact Nat.le_of_ble_eq_true rfl) (by rw[HP0.out];exact Nat.le_of_ble_eq_true rfl) (by decide) (zh (Tab.below hT.out (zAa hB (zAa (b:=V6) Bz (by go_grown)))))).mono ?_
 rintro e w15 ⟨s15,A15,c15,l15,s15r,A15r,c15r,l15r,rfl,h15,z15,b15⟩
 replace b15:=zAa (a:=V6) (by go_grown) b15
 replace hfs11:=hfs11.below b15
 replace hhi11:=hhi11.below b15
 replace hlo11:=hlo11.below b15
 replace Bz:=zAa Bz b15
 clear b15
 obtain⟨p0_0,p0_1,p0_2,-⟩:=(zx HX0 Bz).cz
 obtain⟨-,p4_1,p4_2,p4_3,-⟩:=(zx HX4 Bz).cz
 have p51_0:=(show World.cell? _ ⟨g2,8,none⟩=some (.bool yl.s) from elt_frs.cell hfs11.fm.r2 HYL.out (j:=0) (u:=.bool yl.s) (by omega) rfl)
 have p51_1:=(show World.cell? _ ⟨g2,9,none⟩=some (.slice yl.A yl.l yl.c) from elt_frs.cell hfs11.fm.r2 HYL.out (j:=1) (u:=.slice yl.A yl.l yl.c) (by omega) rfl)
 have p51_2:=(show World.cell? _ ⟨g2,10,none⟩=some (.bool yl.s') from elt_frs.cell hfs11.fm.r2 HYL.out (j:=2) (u:=.bool yl.s') (by omega) rfl)
 have p51_3:=(show World.cell? _ ⟨g2,11,none⟩=some (.slice yl.A' yl.l' yl.c') from elt_frs.cell hfs11.fm.r2 HYL.out (j:=3) (u:=.slice yl.A' yl.l' yl.c') (by omega) rfl)
 have p52_0:=(show World.cell? _ ⟨g3,8,none⟩=some (.bool yh.s) from elt_frs.cell hfs11.fm.r3 HYH.out (j:=0) (u:=.bool yh.s) (by omega) rfl)
 have p52_1:=(show World.cell? _ ⟨g3,9,none⟩=some (.slice yh.A yh.l yh.c) from elt_frs.cell hfs11.fm.r3 HYH.out (j:=1) (u:=.slice yh.A yh.l yh.c) (by omega) rfl)
 have p52_2:=(show World.cell? _ ⟨g3,10,none⟩=some (.bool yh.s') from elt_frs.cell hfs11.fm.r3 HYH.out (j:=2) (u:=.bool yh.s') (by omega) rfl)
 have p52_3:=(show World.cell? _ ⟨g3,11,none⟩=some (.slice yh.A' yh.l' yh.c') from elt_frs.cell hfs11.fm.r3 HYH.out (j:=3) (u:=.slice yh.A' yh.l' yh.c') (by omega) rfl)
 refine hK.out _ _ ⟨p0_0,p0_1,p0_2,p4_1,p4_2,p4_3,p51_0,p51_1,p51_2,p51_3,p52_0,p52_1,p52_2,p52_3⟩ (fun _=>?_)
 try simp only[uW,uX,uY,uZ]
 clear hK K
 refine zC 69 rfl rfl (fun K hK=>?_)
 go_simp
 with_reducible refine(num15_q (5) (zh (by omega)) (zh (Tab.below hT.out (zAa hB (zAa (b:=w15) Bz (by go_grown)))))).mono ?_
 rintro e w16 ⟨s16,A16,c16,l16,s16r,A16r,c16r,l16r,rfl,h16,b16⟩
 replace b16:=zAa (a:=w15) (by go_grown) b16
 replace hfs11:=hfs11.below b16
 replace hhi11:=hhi11.below b16
 replace h15:=h15.below b16
 replace hlo11:=hlo11.below b16
 replace Bz:=zAa Bz b16
 clear b16
 clear p0_0 p0_1 p0_2 p4_1 p4_2 p4_3 p51_0 p51_1 p51_2 p51_3 p52_0 p52_1 p52_2 p52_3
 obtain⟨p0_0,p0_1,p0_2,-⟩:=(zx HX0 Bz).cz
 obtain⟨-,p4_1,p4_2,p4_3,-⟩:=(zx HX4 Bz).cz
 have p51_0:=(show World.cell? _ ⟨g2,8,none⟩=some (.bool yl.s) from elt_frs.cell hfs11.fm.r2 HYL.out (j:=0) (u:=.bool yl.s) (by omega) rfl)
 have p51_1:=(show World.cell? _ ⟨g2,9,none⟩=some (.slice yl.A yl.l yl.c) from elt_frs.cell hfs11.fm.r2 HYL.out (j:=1) (u:=.slice yl.A yl.l yl.c) (by omega) rfl)
 have p51_2:=(show World.cell? _ ⟨g2,10,none⟩=some (.bool yl.s') from elt_frs.cell hfs11.fm.r2 HYL.out (j:=2) (u:=.bool yl.s') (by omega) rfl)
 have p51_3:=(show World.cell? _ ⟨g2,11,none⟩=some (.slice yl.A' yl.l' yl.c') from elt_frs.cell hfs11.fm.r2 HYL.out (j:=3) (u:=.slice yl.A' yl.l' yl.c') (by omega) rfl)
 have p52_0:=(show World.cell? _ ⟨g3,8,none⟩=some (.bool yh.s) from elt_frs.cell hfs11.fm.r3 HYH.out (j:=0) (u:=.bool yh.s) (by omega) rfl)
 have p52_1:=(show World.cell? _ ⟨g3,9,none⟩=some (.slice yh.A yh.l yh.c) from elt_frs.cell hfs11.fm.r3 HYH.out (j:=1) (u:=.slice yh.A yh.l yh.c) (by omega) rfl)
 have p52_2:=(show World.cell? _ ⟨g3,10,none⟩=some (.bool yh.s') from elt_frs.cell hfs11.fm.r3 HYH.out (j:=2) (u:=.bool yh.s') (by omega) rfl)
 have p52_3:=(show World.cell? _ ⟨g3,11,none⟩=some (.slice yh.A' yh.l' yh.c') from elt_frs.cell hfs11.fm.r3 HYH.out (j:=3) (u:=.slice yh.A' yh.l' yh.c') (by omega) rfl)
 refine hK.out _ _ ⟨p0_0,p0_1,p0_2,p4_1,p4_2,p4_3,p51_0,p51_1,p51_2,p51_3,p52_0,p52_1,p52_2,p52_3⟩ (fun _=>?_)
 try simp only[uW,uX,uY,uZ]
 clear hK K
 refine zC 70 rfl rfl (fun K hK=>?_)
 go_simp
 with_reducible refine(same_q (RN.r' (RN.below h15 (by go_grown)) z15) (RN.r' (RN.below h16 (by go_grown)) (sz_one (by decide) (by decide) (by decide))) (by decide) true (zh (by rw[HP0.out];kernel_rfl))).mono ?_
 rintro e w17 ⟨rfl,b17⟩
 replace b17:=zAa (a:=w16) (by go_grown) b17
 replace hfs11:=hfs11.below b17
 replace hhi11:=hhi11.below b17
 replace hlo11:=hlo11.below b17
 replace Bz:=zAa Bz b17
 clear b17
 clear p0_0 p0_1 p0_2 p4_1 p4_2 p4_3 p51_0 p51_1 p51_2 p51_3 p52_0 p52_1 p52_2 p52_3
 obtain⟨p0_0,p0_1,p0_2,-⟩:=(zx HX0 Bz).cz
 obtain⟨-,p4_1,p4_2,p4_3,-⟩:=(zx HX4 Bz).cz
 have p51_0:=(show World.cell? _ ⟨g2,8,none⟩=some (.bool yl.s) from elt_frs.cell hfs11.fm.r2 HYL.out (j:=0) (u:=.bool yl.s) (by omega) rfl)
 have p51_1:=(show World.cell? _ ⟨g2,9,none⟩=some (.slice yl.A yl.l yl.c) from elt_frs.cell hfs11.fm.r2 HYL.out (j:=1) (u:=.slice yl.A yl.l yl.c) (by omega) rfl)
 have p51_2:=(show World.cell? _ ⟨g2,10,none⟩=some (.bool yl.s') from elt_frs.cell hfs11.fm.r2 HYL.out (j:=2) (u:=.bool yl.s') (by omega) rfl)
 have p51_3:=(show World.cell? _ ⟨g2,11,none⟩=some (.slice yl.A' yl.l' yl.c') from elt_frs.cell hfs11.fm.r2 HYL.out (j:=3) (u:=.slice yl.A' yl.l' yl.c') (by omega) rfl)
 have p52_0:=(show World.cell? _ ⟨g3,8,none⟩=some (.bool yh.s) from elt_frs.cell hfs11.fm.r3 HYH.out (j:=0) (u:=.bool yh.s) (by omega) rfl)
 have p52_1:=(show World.cell? _ ⟨g3,9,none⟩=some (.slice yh.A yh.l yh.c) from elt_frs.cell hfs11.fm.r3 HYH.out (j:=1) (u:=.slice yh.A yh.l yh.c) (by omega) rfl)
 have p52_2:=(show World.cell? _ ⟨g3,10,none⟩=some (.bool yh.s') from elt_frs.cell hfs11.fm.r3 HYH.out (j:=2) (u:=.bool yh.s') (by omega) rfl)
 have p52_3:=(show World.cell? _ ⟨g3,11,none⟩=some (.slice yh.A' yh.l' yh.c') from elt_frs.cell hfs11.fm.r3 HYH.out (j:=3) (u:=.slice yh.A' yh.l' yh.c') (by omega) rfl)
 refine hK.out _ _ ⟨p0_0,p0_1,p0_2,p4_1,p4_2,p4_3,p51_0,p51_1,p51_2,p51_3,p52_0,p52_1,p52_2,p52_3⟩ (fun _=>?_)
 try simp only[uW,uX,uY,uZ]
 clear hK K
 iterate 16 (refine zT rfl rfl (fun w' ⟨p0_0,p0_1,p0_2,p4_1,p4_2,p4_3,p51_0,p51_1,p51_2,p51_3,p52_0,p52_1,p52_2,p52_3⟩=>by go_simp<;>with_reducible rfl) ?_;try simp only[uW,uX,uY,uZ])
 refine zC 87 rfl rfl (fun K hK=>?_)
 go_simp
 with_reducible refine(num15_q (-1) (zh (by omega)) (zh (Tab.below hT.out (zAa hB (zAa (b:=w17) Bz (by go_grown)))))).mono ?_
 rintro e w18 ⟨s18,A18,c18,l18,s18r,A18r,c18r,l18r,rfl,h18,b18⟩
 replace b18:=zAa (a:=w17) (by go_grown) b18
 replace hfs11:=hfs11.below b18
 replace hhi11:=hhi11.below b18
 replace hlo11:=hlo11.below b18
 replace Bz:=zAa Bz b18
 clear b18
 clear p0_0 p0_1 p0_2 p4_1 p4_2 p4_3 p51_0 p51_1 p51_2 p51_3 p52_0 p52_1 p52_2 p52_3
 obtain⟨p0_0,p0_1,p0_2,-⟩:=(zx HX0 Bz).cz
 obtain⟨-,p4_1,p4_2,p4_3,-⟩:=(zx HX4 Bz).cz
 have p51_0:=(show World.cell? _ ⟨g2,8,none⟩=some (.bool yl.s) from elt_frs.cell hfs11.fm.r2 HYL.out (j:=0) (u:=.bool yl.s) (by omega) rfl)
 have p51_1:=(show World.cell? _ ⟨g2,9,none⟩=some (.slice yl.A yl.l yl.c) from elt_frs.cell hfs11.fm.r2 HYL.out (j:=1) (u:=.slice yl.A yl.l yl.c) (by omega) rfl)
 have p51_2:=(show World.cell? _ ⟨g2,10,none⟩=some (.bool yl.s') from elt_frs.cell hfs11.fm.r2 HYL.out (j:=2) (u:=.bool yl.s') (by omega) rfl)
 have p51_3:=(show World.cell? _ ⟨g2,11,none⟩=some (.slice yl.A' yl.l' yl.c') from elt_frs.cell hfs11.fm.r2 HYL.out (j:=3) (u:=.slice yl.A' yl.l' yl.c') (by omega) rfl)
 have p52_0:=(show World.cell? _ ⟨g3,8,none⟩=some (.bool yh.s) from elt_frs.cell hfs11.fm.r3 HYH.out (j:=0) (u:=.bool yh.s) (by omega) rfl)
 have p52_1:=(show World.cell? _ ⟨g3,9,none⟩=some (.slice yh.A yh.l yh.c) from elt_frs.cell hfs11.fm.r3 HYH.out (j:=1) (u:=.slice yh.A yh.l yh.c) (by omega) rfl)
 have p52_2:=(show World.cell? _ ⟨g3,10,none⟩=some (.bool yh.s') from elt_frs.cell hfs11.fm.r3 HYH.out (j:=2) (u:=.bool yh.s') (by omega) rfl)
 have p52_3:=(show World.cell? _ ⟨g3,11,none⟩=some (.slice yh.A' yh.l' yh.c') from elt_frs.cell hfs11.fm.r3 HYH.out (j:=3) (u:=.slice yh.A' yh.l' yh.c') (by omega) rfl)
 refine hK.out _ _ ⟨p0_0,p0_1,p0_2,p4_1,p4_2,p4_3,p51_0,p51_1,p51_2,p51_3,p52_0,p52_1,p52_2,p52_3⟩ (fun _=>?_)
 try simp only[uW,uX,uY,uZ]
 clear hK K
 refine zC 88 rfl rfl (fun K hK=>?_)
 go_simp
 with_reducible refine(same_q (RN.r' (NumsF.at_ (NumsF.below hlo11 (by go_grown)) HYL.out).1 (Nat.le_of_succ_le (NumsF.at_ hlo11 HYL.out).2.2.1)) (RN.r' (RN.below h18 (by go_grown)) (sz_one (by decide) (by decide) (by decide))) (by decide) true (zh (decide_eq_true HQL.out))).mono ?_
 rintro e w19 ⟨rfl,b19⟩
 replace b19:=zAa (a:=w18) (by go_grown) b19
 replace hfs11:=hfs11.below b19
 replace hhi11:=hhi11.below b19
 replace Bz:=zAa Bz b19
 clear b19
 clear p0_0 p0_1 p0_2 p4_1 p4_2 p4_3 p51_0 p51_1 p51_2 p51_3 p52_0 p52_1 p52_2 p52_3
 obtain⟨p0_0,p0_1,p0_2,-⟩:=(zx HX0 Bz).cz
 obtain⟨-,p4_1,p4_2,p4_3,-⟩:=(zx HX4 Bz).cz
 have p51_0:=(show World.cell? _ ⟨g2,8,none⟩=some (.bool yl.s) from elt_frs.cell hfs11.fm.r2 HYL.out (j:=0) (u:=.bool yl.s) (by omega) rfl)
 have p51_1:=(show World.cell? _ ⟨g2,9,none⟩=some (.slice yl.A yl.l yl.c) from elt_frs.cell hfs11.fm.r2 HYL.out (j:=1) (u:=.slice yl.A yl.l yl.c) (by omega) rfl)
 have p51_2:=(show World.cell? _ ⟨g2,10,none⟩=some (.bool yl.s') from elt_frs.cell hfs11.fm.r2 HYL.out (j:=2) (u:=.bool yl.s') (by omega) rfl)
 have p51_3:=(show World.cell? _ ⟨g2,11,none⟩=some (.slice yl.A' yl.l' yl.c') from elt_frs.cell hfs11.fm.r2 HYL.out (j:=3) (u:=.slice yl.A' yl.l' yl.c') (by omega) rfl)
 have p52_0:=(show World.cell? _ ⟨g3,8,none⟩=some (.bool yh.s) from elt_frs.cell hfs11.fm.r3 HYH.out (j:=0) (u:=.bool yh.s) (by omega) rfl)
 have p52_1:=(show World.cell? _ ⟨g3,9,none⟩=some (.slice yh.A yh.l yh.c) from elt_frs.cell hfs11.fm.r3 HYH.out (j:=1) (u:=.slice yh.A yh.l yh.c) (by omega) rfl)
 have p52_2:=(show World.cell? _ ⟨g3,10,none⟩=some (.bool yh.s') from elt_frs.cell hfs11.fm.r3 HYH.out (j:=2) (u:=.bool yh.s') (by omega) rfl)
 have p52_3:=(show World.cell? _ ⟨g3,11,none⟩=some (.slice yh.A' yh.l' yh.c') from elt_frs.cell hfs11.fm.r3 HYH.out (j:=3) (u:=.slice yh.A' yh.l' yh.c') (by omega) rfl)
 refine hK.out _ _ ⟨p0_0,p0_1,p0_2,p4_1,p4_2,p4_3,p51_0,p51_1,p51_2,p51_3,p52_0,p52_1,p52_2,p52_3⟩ (fun _=>?_)
 try simp only[uW,uX,uY,uZ]
 clear hK K
 iterate 6 (refine zT rfl rfl (fun w' ⟨p0_0,p0_1,p0_2,p4_1,p4_2,p4_3,p51_0,p51_1,p51_2,p51_3,p52_0,p52_1,p52_2,p52_3⟩=>by go_simp<;>with_reducible rfl) ?_;try simp only[uW,uX,uY,uZ])
 refine zC 95 rfl rfl (fun K hK=>?_)
 go_simp
 with_reducible refine(sign_q (RN.r' (NumsF.at_ (NumsF.below hhi11 (by go_grown)) HYH.out).1 (Nat.le_of_succ_le (NumsF.at_ hhi11 HYH.out).2.2.1)) (by decide) 0 (zh (by rw[HQH.out];kernel_rfl))).mono ?_
 rintro e w20 ⟨rfl,b20⟩
 replace b20:=zAa (a:=w19) (by go_grown) b20
 replace hfs11:=hfs11.below b20
 replace Bz:=zAa Bz b20
 clear b20
 clear p0_0 p0_1 p0_2 p4_1 p4_2 p4_3 p51_0 p51_1 p51_2 p51_3 p52_0 p52_1 p52_2 p52_3
 obtain⟨p0_0,p0_1,p0_2,-⟩:=(zx HX0 Bz).cz
 obtain⟨-,p4_1,p4_2,p4_3,-⟩:=(zx HX4 Bz).cz
 have p51_0:=(show World.cell? _ ⟨g2,8,none⟩=some (.bool yl.s) from elt_frs.cell hfs11.fm.r2 HYL.out (j:=0) (u:=.bool yl.s) (by omega) rfl)
 have p51_1:=(show World.cell? _ ⟨g2,9,none⟩=some (.slice yl.A yl.l yl.c) from elt_frs.cell hfs11.fm.r2 HYL.out (j:=1) (u:=.slice yl.A yl.l yl.c) (by omega) rfl)
 have p51_2:=(show World.cell? _ ⟨g2,10,none⟩=some (.bool yl.s') from elt_frs.cell hfs11.fm.r2 HYL.out (j:=2) (u:=.bool yl.s') (by omega) rfl)
 have p51_3:=(show World.cell? _ ⟨g2,11,none⟩=some (.slice yl.A' yl.l' yl.c') from elt_frs.cell hfs11.fm.r2 HYL.out (j:=3) (u:=.slice yl.A' yl.l' yl.c') (by omega) rfl)
 have p52_0:=(show World.cell? _ ⟨g3,8,none⟩=some (.bool yh.s) from elt_frs.cell hfs11.fm.r3 HYH.out (j:=0) (u:=.bool yh.s) (by omega) rfl)
 have p52_1:=(show World.cell? _ ⟨g3,9,none⟩=some (.slice yh.A yh.l yh.c) from elt_frs.cell hfs11.fm.r3 HYH.out (j:=1) (u:=.slice yh.A yh.l yh.c) (by omega) rfl)
 have p52_2:=(show World.cell? _ ⟨g3,10,none⟩=some (.bool yh.s') from elt_frs.cell hfs11.fm.r3 HYH.out (j:=2) (u:=.bool yh.s') (by omega) rfl)
 have p52_3:=(show World.cell? _ ⟨g3,11,none⟩=some (.slice yh.A' yh.l' yh.c') from elt_frs.cell hfs11.fm.r3 HYH.out (j:=3) (u:=.slice yh.A' yh.l' yh.c') (by omega) rfl)
 refine hK.out _ _ ⟨p0_0,p0_1,p0_2,p4_1,p4_2,p4_3,p51_0,p51_1,p51_2,p51_3,p52_0,p52_1,p52_2,p52_3⟩ (fun _=>?_)
 try simp only[uW,uX,uY,uZ]
 clear hK K
 iterate 3 (refine zT rfl rfl (fun w' ⟨p0_0,p0_1,p0_2,p4_1,p4_2,p4_3,p51_0,p51_1,p51_2,p51_3,p52_0,p52_1,p52_2,p52_3⟩=>by go_simp<;>with_reducible rfl) ?_;try simp only[uW,uX,uY,uZ])
 refine wpPlan_done ?_
 go_wp2_with fail
 go_ret
 have hF:=zAa (c:=w20) hB Bz
 exact⟨rfl,zAa hF (by go_grown)⟩
end Go.Proofs.YtjkgjiofmgapfaaGreatDoor
