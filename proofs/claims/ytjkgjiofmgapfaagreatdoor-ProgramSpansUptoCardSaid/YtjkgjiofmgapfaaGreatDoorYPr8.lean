/-
  program.Form, the walk. Written by wip/gen/pr8.py.
-/
import Derived.Test.YtjkgjiofmgapfaaGreatDoorYPrF
set_option maxHeartbeats 32000000
set_option maxRecDepth 100000
namespace Go.Proofs.YtjkgjiofmgapfaaGreatDoor
open Go.RowKit Tw
theorem sz_one':sz 1≤1:=by
 show max (nl 1) (nl 1)≤1
 rw[nl_one];decide
theorem qof_11:qof 1 1=1:=by decide +kernel
def FX (w:World) (P0 FM:Array Value) (gf:Nat) (wr:World):Prop:=Bx wr w.heap.size P0 27∧Bx wr (w.heap.size+1) #[.int .i64 0,.slice none 0 0,.slice none 0 0,.slice none 0 0,.slice none 0 0,.slice none 0 0] 39∧Bx wr gf FM 39∧Below w.heap.size w wr
def FM1 (w:World) (gf B0 rn N g1 g2 g3 g4 g5 m KD n:Nat) (P0 FM:Array Value) (V:List Vr) (RR:List Rw) (_C:List Tm) (gk:Nat) (s:Value) (wr:World):Prop :=
 ∃(i:Nat) (LO HI:List Fr),i≤n∧n-i=gk∧s=.int .i64 (i:Int)∧FX w P0 FM gf wr∧FS wr B0 rn N g1 g2 g3 g4 g5 (List.replicate N zVc) LO HI (List.replicate N zFr) (List.replicate rn zFr) (m+2)∧NumsF wr KD LO (loF V RR i 0)∧NumsF wr KD HI (hiF V RR i 0)
def FM2 (w:World) (vn:Nat) (gf B0 rn N g1 g2 g3 g4 g5 m KD n:Nat) (P0 FM:Array Value) (V:List Vr) (RR:List Rw) (C:List Tm) (gk:Nat) (s:Value) (wr:World):Prop :=
 ∃(i:Nat) (LO HI CO:List Fr),i≤n∧n-i=gk∧s=.int .i64 (i:Int)∧FX w P0 FM gf wr∧FS wr B0 rn N g1 g2 g3 g4 g5 (List.replicate N zVc) LO HI CO (List.replicate rn zFr) (m+2)∧NumsF wr KD LO (loF V RR vn 0)∧NumsF wr KD HI (hiF V RR vn 0)∧NumsF wr KD CO (coF C i)
def FM3 (w:World) (vn cn:Nat) (gf B0 rn N g1 g2 g3 g4 g5 m KD n:Nat) (P0 FM:Array Value) (V:List Vr) (RR:List Rw) (C:List Tm) (gk:Nat) (s:Value) (wr:World):Prop :=
 ∃(i:Nat) (CV:List Vc) (LO HI CO BB:List Fr),i≤n∧n-i=gk∧s=.int .i64 (i:Int)∧FX w P0 FM gf wr∧FS wr B0 rn N g1 g2 g3 g4 g5 CV LO HI CO BB (m+2)∧ColsF CV vn (frmE RR i) i (i*2000001+1)∧Clr gf CV∧NumsF wr KD LO (loF V RR vn i)∧NumsF wr KD HI (hiF V RR vn i)∧NumsF wr KD CO (coF C cn)∧NumsF wr KD BB (bbF RR i)
def FM4 (w:World) (vn cn bq i:Nat) (XC:Array Value) (xL:List Tm) (LO HI CO BB:List Fr) (gf B0 rn N g1 g2 g3 g4 g5 m KD n:Nat) (P0 FM:Array Value) (V:List Vr) (RR:List Rw) (C:List Tm) (gk:Nat) (s:Value) (wr:World):Prop :=
 ∃(j:Nat) (CV:List Vc),j≤n∧n-j=gk∧s=.int .i64 (j:Int)∧FX w P0 FM gf wr∧Bx wr bq XC 35∧FS wr B0 rn N g1 g2 g3 g4 g5 CV LO HI CO BB (m+2)∧ColsF CV vn (frmE RR i++colE i (prs (xL.take j))) i (i*2000001+1+j)∧Clr gf CV∧Clr bq CV∧NumsF wr KD LO (loF V RR vn i)∧NumsF wr KD HI (hiF V RR vn i)∧NumsF wr KD CO (coF C cn)∧NumsF wr KD BB (bbF RR i)
def TellsForm (w:World) (p:Pg) (N m KD:Nat) (e:Ending) (w':World):Prop :=
 ∃(g1 g2 g3 g4 g5:Nat) (CV:List Vc) (LO HI CO BB:List Fr),e=.returned (.tuple #[.agg #[.int .i64 (p.rn:Int),.slice (some ⟨g1,0,none⟩) N N,.slice (some ⟨g2,0,none⟩) N N,.slice (some ⟨g3,0,none⟩) N N,.slice (some ⟨g4,0,none⟩) N N,.slice (some ⟨g5,0,none⟩) p.rn p.rn],.int .i64 0])∧
  FS w' w.heap.size p.rn N g1 g2 g3 g4 g5 CV LO HI CO BB (m+2)∧ColsF CV p.vn (frmE p.R p.rn) p.rn (p.rn*2000001+1)∧NumsF w' KD LO (loF p.V p.R p.vn p.rn)∧NumsF w' KD HI (hiF p.V p.R p.vn p.rn)∧NumsF w' KD CO (coF p.C p.cn)∧NumsF w' KD BB (bbF p.R p.rn)∧Below w.heap.size w w'
theorem form_r {w:World} {m KD N:Nat} {vA rA cA:Option Addr} {vn vc rn rc cn cc:Nat} {V:List Vr} {RR:List Rw} {C:List Tm} (h:PgOk w m ⟨vA,vn,vc,V,rA,rn,rc,RR,cA,cn,cc,C⟩) (hrp:rightP ⟨vA,vn,vc,V,rA,rn,rc,RR,cA,cn,cc,C⟩=true) (hN:vn+rn=N) (hm:m≤1000000000) (hKD:Hid (m+3≤KD∧∀x∈RR,1+x.n*(2*m+4)≤9000000000∧1+x.n*(2*m+4)+m+3≤KD)) (hT:Hid (Tab w)) :
  Calls Tryz.prog 11 #[.agg #[.slice vA vn vc,.slice rA rn rc,.slice cA cn cc]] w (TellsForm w ⟨vA,vn,vc,V,rA,rn,rc,RR,cA,cn,cc,C⟩ N m KD):=by
 obtain⟨hq1,hq2,hq3,hq4⟩:=rightP_parts hrp
 have hvn:vn≤600:=hq1
 have hrn:rn≤600:=hq2
 have HQR:Hid (∀x∈RR,rightB x.L (vn:Int)=true):=zh hq3
 have HQC:Hid (rightB C (vn:Int)=true):=zh hq4
 have HCR:=zh (rightB_nrm hq4).1.rise
 have HP:=zh h
 have hvsl:Sl Vr.cs 9 w vA vn vc V:=h.vsl
 have HVO:Hid (∀x∈V,VrOk w m x):=zh h.v
 have HVL:Hid (V.length=vn):=zh hvsl.1
 have hrsl:Sl Rw.cs 6 w rA rn rc RR:=h.rsl
 have HRW:Hid (∀x∈RR,RwOk w m x):=zh h.r
 have HRL:Hid (RR.length=rn):=zh hrsl.1
 have hcsl:Sl Tm.cs 5 w cA cn cc C:=h.csl
 have HCF:Hid (∀t∈C,FrOk w m t.x):=zh h.cf
 have HCL0:Hid (C.length=cn):=zh hcsl.1
 have hcn:cn≤2000000:=h.lens.2.2
 have hk3:=hKD.out.1
 clear hq1 hq2 hq3 hq4
 obtain⟨W,hW,x0,x1,hB⟩:=boxes2 w #[.slice vA vn vc,.slice rA rn rc,.slice cA cn cc] 27 #[.int .i64 0,.slice none 0 0,.slice none 0 0,.slice none 0 0,.slice none 0 0,.slice none 0 0] 39
 have HX0:=zh x0
 have HX1:=zh x1
 clear x0 x1
 have Bz:=Below.refl W.heap.size W
 obtain⟨p0_0,p0_1,p0_2,-⟩:=(zx HX0 Bz).cz
 go_enter Tryz.func11,Tryz.ntmps11
 go_wp2_with fail
 rw[←hW]
 clear hW
 with_reducible refine(pright_q (p:=⟨vA,vn,vc,V,rA,rn,rc,RR,cA,cn,cc,C⟩) (h.below (zAa hB (zAa (b:=W) Bz (by go_grown)))) (by omega) 0 (zh (if_pos hrp)) (zh (Tab.below hT.out (zAa hB (zAa (b:=W) Bz (by go_grown)))))).mono ?_
 rintro e w1 ⟨rfl,b1⟩
 replace b1:=zAa (a:=W) (by go_grown) b1
 replace Bz:=zAa Bz b1
 clear b1
 clear p0_0 p0_1 p0_2
 obtain⟨p0_0,p0_1,-⟩:=(zx HX0 Bz).cz
 go_wp2_with fail
 (try simp only[List.append_eq,List.cons_append,List.nil_append])
 refine wp_region_plan (.take 0 (.take 1 (.take 2 (.take 3 (.take 4 (.take 5 (.take 6 (.take 7 .done)))))))) [] (fun w'=>w'.cell? ⟨w.heap.size,0,none⟩=some (.slice vA vn vc)∧w'.cell? ⟨w.heap.size,1,none⟩=some (.slice rA rn rc)) (by kernel_rfl) (by kernel_rfl) ⟨p0_0,p0_1⟩ ?_
 iterate 8 (refine zT rfl rfl (fun w' ⟨p0_0,p0_1⟩=>by go_simp<;>with_reducible rfl) ?_;try simp only[uW,uX,uY,uZ])
 refine wpPlan_done ?_
 go_wp2_with fail
 refine form5 (N:=N) (Nat.le_of_ble_eq_true rfl) rfl rfl hN (by omega) ?_
 intro x28 x29 x30 x31 x32 x33 x34 x35 x36 x37 x38 x39 x40 x41 x42 x43 x44 x45 x46 x47 gf g1 g2 g3 g4 g5 WF hgf hng hxf hfr kb
 simp only[uW,uX,uY,uZ]
 have hdr:w1.drew.heap.size=w1.heap.size:=rfl
 obtain⟨B0,hB0⟩:∃B0,B0=w1.drew.heap.size:=⟨_,rfl⟩
 rw[←hB0] at hgf hfr
 replace kb:=zAa (a:=w1) (b:=w1.drew) (by go_grown) kb
 have kb0:w.heap.size+1<B0:=by have:=(zx HX1 Bz).lt;omega
 simp only[List.mem_cons,List.not_mem_nil,or_false,not_or] at hng
 obtain⟨kf1,kf2,kf3,kf4,kf5⟩:=hng
 have hfs:FS WF B0 rn N g1 g2 g3 g4 g5 (List.replicate N zVc) (List.replicate N zFr) (List.replicate N zFr) (List.replicate N zFr) (List.replicate rn zFr) (m+2):=hfr.fs
 obtain⟨kg1,kg2,kg3,kg4,kg5⟩:=hfs.base
 replace hB:=zAa (zAa hB Bz) kb
 replace HX0:=zh ((zx HX0 Bz).below kb)
 replace HX1:=zh ((zx HX1 Bz).below kb)
 have HX2:=zh hxf
 clear Bz kb hxf hfr hB0 hdr
 have Bz:=Below.refl WF.heap.size WF
 clear p0_0 p0_1
 have p0_0:=(zx HX0 Bz).cell 0 (.slice vA vn vc) rfl
 go_wp2_with fail
 have HST:Hid (FM1 w gf B0 rn N g1 g2 g3 g4 g5 m KD vn #[.slice vA vn vc,.slice rA rn rc,.slice cA cn cc] #[.int .i64 (rn:Int),.slice (some ⟨g1,0,none⟩) N N,.slice (some ⟨g2,0,none⟩) N N,.slice (some ⟨g3,0,none⟩) N N,.slice (some ⟨g4,0,none⟩) N N,.slice (some ⟨g5,0,none⟩) rn rn] V RR C vn (.int .i64 ((0:Nat):Int)) WF):=zh ⟨0,_,_,Nat.zero_le _,rfl,rfl,⟨HX0.out.below Bz,HX1.out.below Bz,HX2.out.below Bz,zAa hB Bz⟩,hfs,by rw[loF_start];exact NumsF.zeros _ _ (by omega),by rw[hiF_start];exact NumsF.zeros _ _ (by omega)⟩
 clear hB Bz HX0 HX1 HX2 hfs
 go_loopg [51] vn (fun gk s wr=>FM1 w gf B0 rn N g1 g2 g3 g4 g5 m KD vn #[.slice vA vn vc,.slice rA rn rc,.slice cA cn cc] #[.int .i64 (rn:Int),.slice (some ⟨g1,0,none⟩) N N,.slice (some ⟨g2,0,none⟩) N N,.slice (some ⟨g3,0,none⟩) N N,.slice (some ⟨g4,0,none⟩) N N,.slice (some ⟨g5,0,none⟩) rn rn] V RR C gk s wr)
 case atStart=>exact HST.out
 case round =>
  clear HST
  obtain⟨i,LO,HI,hi,hgk,rfl,hfx,hfs,hlo,hhi⟩:=hrel
  obtain⟨x0,x1,x2,hB⟩:=hfx
  have HX0:=zh x0
  have HX1:=zh x1
  have HX2:=zh x2
  have HGK:=zh hgk
  clear x0 x1 x2 hgk
  obtain⟨kl1,kl2,kl3,kl4,kl5⟩:=hfs.blks
  obtain⟨ln1,ln2,ln3,ln4,ln5⟩:=hfs.lens
  by_cases hlt:i<vn
  ·skip
   obtain⟨b,off,rfl,hel⟩:=hvsl.at Vr.cs_len (by omega) (by omega)
   obtain⟨x,hxi⟩:∃x,V[i]?=some x:=⟨V[i]'(by rw[HVL.out];exact hlt),List.getElem?_eq_getElem _⟩
   have HVF:=zh (HVO.out x (List.mem_of_getElem? hxi))
   have HVI:=zh hxi
   have hnd:=hel i x hxi
   obtain⟨y2,hy2⟩:∃y,LO[i]?=some y:=⟨LO[i]'(by omega),List.getElem?_eq_getElem _⟩
   have HY2:=zh hy2
   clear hy2
   obtain⟨y3,hy3⟩:∃y,HI[i]?=some y:=⟨HI[i]'(by omega),List.getElem?_eq_getElem _⟩
   have HY3:=zh hy3
   clear hy3
   have i1:(i:Int)<(vn:Int):=by omega
   have i2:(0:Int)≤(i:Int):=by omega
   have i3:(i:Int)<(N:Int):=by omega
   clear hel hxi
   have zs:=Nat.le_refl wr.heap.size
   have Bz:=Below.refl wr.heap.size wr
   obtain⟨p50_0,p50_1,p50_2,p50_3,p50_4,p50_5,p50_6,p50_7,p50_8,-⟩:=(hnd.below (zAa hB Bz)).ez
   go_upto_region 9 with(fail)
   obtain⟨V11,hW,x3,hN⟩:=zAc wr #[.bool x.lo.s,.slice x.lo.A x.lo.l x.lo.c,.bool x.lo.s',.slice x.lo.A' x.lo.l' x.lo.c',.bool x.hi.s,.slice x.hi.A x.hi.l x.hi.c,.bool x.hi.s',.slice x.hi.A' x.hi.l' x.hi.c',.bool x.int] 44
   rw[←hW]
   clear hW
   obtain⟨v3,hb3⟩:∃b,b=wr.heap.size:=⟨_,rfl⟩
   rw[←hb3] at x3 ⊢
   have o0_3:w.heap.size<v3:=by have:=(zx HX0 Bz).lt;omega
   have o1_3:w.heap.size+1<v3:=by have:=(zx HX1 Bz).lt;omega
   have o2_3:gf<v3:=by have:=(zx HX2 Bz).lt;omega
   have ow_3:w.heap.size≤v3:=by have:=zw hB Bz;omega
   have oz_3:wr.heap.size≤v3:=by have:=Bz.size;omega
   replace hfs:=hfs.below hN
   replace hhi:=hhi.below hN
   replace hlo:=hlo.below hN
   replace hB:=zAa (zAa hB Bz) hN
   replace HX0:=zh ((zx HX0 Bz).below hN)
   replace HX1:=zh ((zx HX1 Bz).below hN)
   replace HX2:=zh ((zx HX2 Bz).below hN)
   have HX3:=zh x3
   replace zs:wr.heap.size≤V11.heap.size:=by have:=Bz.size;have:=hN.size;omega
   clear x3 hN Bz hb3
   have Bz:=Below.refl V11.heap.size V11
   clear p50_0 p50_1 p50_2 p50_3 p50_4 p50_5 p50_6 p50_7 p50_8
   obtain⟨-,-,p2_2,p2_3,-⟩:=(zx HX2 Bz).cz
   obtain⟨p3_0,p3_1,p3_2,p3_3,p3_4,p3_5,p3_6,p3_7,-⟩:=(zx HX3 Bz).cz
   have p51_0:=fr_0 hfs.fm.r2 HY2.out
   have p51_1:=elt_frs.cell hfs.fm.r2 HY2.out (j:=1) (u:=.slice y2.A y2.l y2.c) (by omega) rfl
   have p51_2:=elt_frs.cell hfs.fm.r2 HY2.out (j:=2) (u:=.bool y2.s') (by omega) rfl
   have p51_3:=elt_frs.cell hfs.fm.r2 HY2.out (j:=3) (u:=.slice y2.A' y2.l' y2.c') (by omega) rfl
   have f51_0:=hfs.fm.r2.frozen (i*4)
   have f51_1:=hfs.fm.r2.frozen (i*4+1)
   have f51_2:=hfs.fm.r2.frozen (i*4+2)
   have f51_3:=hfs.fm.r2.frozen (i*4+3)
   have y51:=hfs.fm.r2.blk.1
   have p52_0:=fr_0 hfs.fm.r3 HY3.out
   have p52_1:=elt_frs.cell hfs.fm.r3 HY3.out (j:=1) (u:=.slice y3.A y3.l y3.c) (by omega) rfl
   have p52_2:=elt_frs.cell hfs.fm.r3 HY3.out (j:=2) (u:=.bool y3.s') (by omega) rfl
   have p52_3:=elt_frs.cell hfs.fm.r3 HY3.out (j:=3) (u:=.slice y3.A' y3.l' y3.c') (by omega) rfl
   have f52_0:=hfs.fm.r3.frozen (i*4)
   have f52_1:=hfs.fm.r3.frozen (i*4+1)
   have f52_2:=hfs.fm.r3.frozen (i*4+2)
   have f52_3:=hfs.fm.r3.frozen (i*4+3)
   have y52:=hfs.fm.r3.blk.1
   go_wp2_with fail
   (try simp only[List.append_eq,List.cons_append,List.nil_append])
   refine wp_region_plan (.pure 0 (.take 1 (.pure 2 (.pure 3 (.take 4 (.pure 5 (.pure 6 (.take 7 (.pure 9 (.take 10 (.only 8 (.only 11 (.pure 12 (.only 13 (.pure 14 (.only 15 .done)))))))))))))))) [15] (fun w'=>w'.cell? ⟨gf,2,none⟩=some (.slice (some ⟨g2,0,none⟩) N N)∧w'.cell? ⟨gf,3,none⟩=some (.slice (some ⟨g3,0,none⟩) N N)∧w'.cell? ⟨v3,0,none⟩=some (.bool x.lo.s)∧w'.cell? ⟨v3,1,none⟩=some (.slice x.lo.A x.lo.l x.lo.c)∧w'.cell? ⟨v3,2,none⟩=some (.bool x.lo.s')∧w'.cell? ⟨v3,3,none⟩=some (.slice x.lo.A' x.lo.l' x.lo.c')∧w'.cell? ⟨v3,4,none⟩=some (.bool x.hi.s)∧w'.cell? ⟨v3,5,none⟩=some (.slice x.hi.A x.hi.l x.hi.c)∧w'.cell? ⟨v3,6,none⟩=some (.bool x.hi.s')∧w'.cell? ⟨v3,7,none⟩=some (.slice x.hi.A' x.hi.l' x.hi.c')) (by kernel_rfl) (by kernel_rfl) ⟨p2_2,p2_3,p3_0,p3_1,p3_2,p3_3,p3_4,p3_5,p3_6,p3_7⟩ ?_
   refine zP rfl rfl (fun w'=>by go_simp<;>with_reducible rfl) ?_
   try simp only[uW,uX,uY,uZ]
   refine zT rfl rfl (fun w' ⟨p2_2,p2_3,p3_0,p3_1,p3_2,p3_3,p3_4,p3_5,p3_6,p3_7⟩=>by go_simp<;>with_reducible rfl) ?_
   try simp only[uW,uX,uY,uZ]
   iterate 2 (refine zP rfl rfl (fun w'=>by go_simp<;>with_reducible rfl) ?_;try simp only[uW,uX,uY,uZ])
   refine zT rfl rfl (fun w' ⟨p2_2,p2_3,p3_0,p3_1,p3_2,p3_3,p3_4,p3_5,p3_6,p3_7⟩=>by go_simp<;>with_reducible rfl) ?_
   try simp only[uW,uX,uY,uZ]
   iterate 2 (refine zP rfl rfl (fun w'=>by go_simp<;>with_reducible rfl) ?_;try simp only[uW,uX,uY,uZ])
   refine zT rfl rfl (fun w' ⟨p2_2,p2_3,p3_0,p3_1,p3_2,p3_3,p3_4,p3_5,p3_6,p3_7⟩=>by go_simp<;>with_reducible rfl) ?_
   try simp only[uW,uX,uY,uZ]
   refine zP rfl rfl (fun w'=>by go_simp<;>with_reducible rfl) ?_
   try simp only[uW,uX,uY,uZ]
   refine zT rfl rfl (fun w' ⟨p2_2,p2_3,p3_0,p3_1,p3_2,p3_3,p3_4,p3_5,p3_6,p3_7⟩=>by go_simp<;>with_reducible rfl) ?_
   try simp only[uW,uX,uY,uZ]
   refine zC 64 rfl rfl (fun K hK=>?_)
   go_simp
   with_reducible refine(norm_q (FrOk.below HVF.out.lof (zAa hB (zAa (b:=V11) Bz (by go_grown)))).r (by omega) (zh (Tab.below hT.out (zAa hB (zAa (b:=V11) Bz (by go_grown)))))).mono ?_
   rintro e w11 ⟨s11,A11,c11,l11,s11r,A11r,c11r,l11r,rfl,h11,b11⟩
   replace b11:=zAa (a:=V11) (by go_grown) b11
   replace hfs:=hfs.below b11
   replace hhi:=hhi.below b11
   replace hlo:=hlo.below b11
   replace Bz:=zAa Bz b11
   clear b11
   clear p2_2 p2_3 p3_0 p3_1 p3_2 p3_3 p3_4 p3_5 p3_6 p3_7 p51_0 p51_1 p51_2 p51_3 f51_0 f51_1 f51_2 f51_3 y51 p52_0 p52_1 p52_2 p52_3 f52_0 f52_1 f52_2 f52_3 y52
   obtain⟨-,-,p2_2,p2_3,-⟩:=(zx HX2 Bz).cz
   obtain⟨p3_0,p3_1,p3_2,p3_3,p3_4,p3_5,p3_6,p3_7,-⟩:=(zx HX3 Bz).cz
   have p51_0:=fr_0 hfs.fm.r2 HY2.out
   have p51_1:=elt_frs.cell hfs.fm.r2 HY2.out (j:=1) (u:=.slice y2.A y2.l y2.c) (by omega) rfl
   have p51_2:=elt_frs.cell hfs.fm.r2 HY2.out (j:=2) (u:=.bool y2.s') (by omega) rfl
   have p51_3:=elt_frs.cell hfs.fm.r2 HY2.out (j:=3) (u:=.slice y2.A' y2.l' y2.c') (by omega) rfl
   have f51_0:=hfs.fm.r2.frozen (i*4)
   have f51_1:=hfs.fm.r2.frozen (i*4+1)
   have f51_2:=hfs.fm.r2.frozen (i*4+2)
   have f51_3:=hfs.fm.r2.frozen (i*4+3)
   have y51:=hfs.fm.r2.blk.1
   have p52_0:=fr_0 hfs.fm.r3 HY3.out
   have p52_1:=elt_frs.cell hfs.fm.r3 HY3.out (j:=1) (u:=.slice y3.A y3.l y3.c) (by omega) rfl
   have p52_2:=elt_frs.cell hfs.fm.r3 HY3.out (j:=2) (u:=.bool y3.s') (by omega) rfl
   have p52_3:=elt_frs.cell hfs.fm.r3 HY3.out (j:=3) (u:=.slice y3.A' y3.l' y3.c') (by omega) rfl
   have f52_0:=hfs.fm.r3.frozen (i*4)
   have f52_1:=hfs.fm.r3.frozen (i*4+1)
   have f52_2:=hfs.fm.r3.frozen (i*4+2)
   have f52_3:=hfs.fm.r3.frozen (i*4+3)
   have y52:=hfs.fm.r3.blk.1
   refine hK.out _ _ ⟨p2_2,p2_3,p3_0,p3_1,p3_2,p3_3,p3_4,p3_5,p3_6,p3_7⟩ (fun _=>?_)
   try simp only[uW,uX,uY,uZ]
   clear hK K
   refine zC 67 rfl rfl (fun K hK=>?_)
   go_simp
   with_reducible refine(norm_q (FrOk.below HVF.out.hif (zAa hB (zAa (b:=w11) Bz (by go_grown)))).r (by omega) (zh (Tab.below hT.out (zAa hB (zAa (b:=w11) Bz (by go_grown)))))).mono ?_
   rintro e w12 ⟨s12,A12,c12,l12,s12r,A12r,c12r,l12r,rfl,h12,b12⟩
   replace b12:=zAa (a:=w11) (by go_grown) b12
   replace hfs:=hfs.below b12
   replace hhi:=hhi.below b12
   replace h11:=h11.below b12
   replace hlo:=hlo.below b12
   replace Bz:=zAa Bz b12
   clear b12
   clear p2_2 p2_3 p3_0 p3_1 p3_2 p3_3 p3_4 p3_5 p3_6 p3_7 p51_0 p51_1 p51_2 p51_3 f51_0 f51_1 f51_2 f51_3 y51 p52_0 p52_1 p52_2 p52_3 f52_0 f52_1 f52_2 f52_3 y52
   obtain⟨-,-,p2_2,p2_3,-⟩:=(zx HX2 Bz).cz
   obtain⟨p3_0,p3_1,p3_2,p3_3,p3_4,p3_5,p3_6,p3_7,-⟩:=(zx HX3 Bz).cz
   have p51_0:=fr_0 hfs.fm.r2 HY2.out
   have p51_1:=elt_frs.cell hfs.fm.r2 HY2.out (j:=1) (u:=.slice y2.A y2.l y2.c) (by omega) rfl
   have p51_2:=elt_frs.cell hfs.fm.r2 HY2.out (j:=2) (u:=.bool y2.s') (by omega) rfl
   have p51_3:=elt_frs.cell hfs.fm.r2 HY2.out (j:=3) (u:=.slice y2.A' y2.l' y2.c') (by omega) rfl
   have f51_0:=hfs.fm.r2.frozen (i*4)
   have f51_1:=hfs.fm.r2.frozen (i*4+1)
   have f51_2:=hfs.fm.r2.frozen (i*4+2)
   have f51_3:=hfs.fm.r2.frozen (i*4+3)
   have y51:=hfs.fm.r2.blk.1
   have p52_0:=fr_0 hfs.fm.r3 HY3.out
   have p52_1:=elt_frs.cell hfs.fm.r3 HY3.out (j:=1) (u:=.slice y3.A y3.l y3.c) (by omega) rfl
   have p52_2:=elt_frs.cell hfs.fm.r3 HY3.out (j:=2) (u:=.bool y3.s') (by omega) rfl
   have p52_3:=elt_frs.cell hfs.fm.r3 HY3.out (j:=3) (u:=.slice y3.A' y3.l' y3.c') (by omega) rfl
   have f52_0:=hfs.fm.r3.frozen (i*4)
   have f52_1:=hfs.fm.r3.frozen (i*4+1)
   have f52_2:=hfs.fm.r3.frozen (i*4+2)
   have f52_3:=hfs.fm.r3.frozen (i*4+3)
   have y52:=hfs.fm.r3.blk.1
   refine hK.out _ _ ⟨p2_2,p2_3,p3_0,p3_1,p3_2,p3_3,p3_4,p3_5,p3_6,p3_7⟩ (fun _=>?_)
   try simp only[uW,uX,uY,uZ]
   clear hK K
   refine zP rfl rfl (fun w'=>by go_simp<;>with_reducible rfl) ?_
   try simp only[uW,uX,uY,uZ]
   refine wpPlan_call (o:=⟨none,_,_,_,_,_⟩) rfl rfl (fun K hK=>?_)
   go_simp
   obtain⟨V12,hV,hfs2,hg2⟩:=FS.lo hfs HY2.out ⟨s11,A11,c11,l11,s11r,A11r,c11r,l11r,x.lo.q,true⟩
   rw[←hV]
   clear hV
   replace hB:=(zAa hB Bz).trans (hg2.below (by have:=zw hB Bz;omega) (row_base (by omega)))
   replace zs:wr.heap.size≤V12.heap.size:=by have:=Bz.size;have:=hg2.size;omega
   replace HX0:=zh (hg2.bx (zx HX0 Bz) (ne_row (by omega)))
   replace HX1:=zh (hg2.bx (zx HX1 Bz) (ne_row (by omega)))
   replace HX2:=zh (hg2.bx (zx HX2 Bz) (ne_row (by omega)))
   replace HX3:=zh (hg2.bx (zx HX3 Bz) (ne_row (by omega)))
   replace hhi:=hhi.k hg2.k
   replace h11:=h11.k hg2.k
   replace h12:=h12.k hg2.k
   replace hlo:=hlo.k hg2.k
   replace hfs:=hfs2
   clear hfs2 hg2 Bz
   have Bz:=Below.refl V12.heap.size V12
   clear p2_2 p2_3 p3_0 p3_1 p3_2 p3_3 p3_4 p3_5 p3_6 p3_7 p51_0 p51_1 p51_2 p51_3 f51_0 f51_1 f51_2 f51_3 y51 p52_0 p52_1 p52_2 p52_3 f52_0 f52_1 f52_2 f52_3 y52
   obtain⟨-,-,p2_2,p2_3,-⟩:=(zx HX2 Bz).cz
   obtain⟨p3_0,p3_1,p3_2,p3_3,p3_4,p3_5,p3_6,p3_7,-⟩:=(zx HX3 Bz).cz
   have p52_0:=fr_0 hfs.fm.r3 HY3.out
   have p52_1:=elt_frs.cell hfs.fm.r3 HY3.out (j:=1) (u:=.slice y3.A y3.l y3.c) (by omega) rfl
   have p52_2:=elt_frs.cell hfs.fm.r3 HY3.out (j:=2) (u:=.bool y3.s') (by omega) rfl
   have p52_3:=elt_frs.cell hfs.fm.r3 HY3.out (j:=3) (u:=.slice y3.A' y3.l' y3.c') (by omega) rfl
   have f52_0:=hfs.fm.r3.frozen (i*4)
   have f52_1:=hfs.fm.r3.frozen (i*4+1)
   have f52_2:=hfs.fm.r3.frozen (i*4+2)
   have f52_3:=hfs.fm.r3.frozen (i*4+3)
   have y52:=hfs.fm.r3.blk.1
   refine hK.out _ _ ⟨p2_2,p2_3,p3_0,p3_1,p3_2,p3_3,p3_4,p3_5,p3_6,p3_7⟩ (fun _=>?_)
   try simp only[Act.put,uX,uY,uZ]
   clear hK K
   refine zP rfl rfl (fun w'=>by go_simp<;>with_reducible rfl) ?_
   try simp only[uW,uX,uY,uZ]
   refine wpPlan_late (o:=⟨none,_,_,_,_,_⟩) rfl rfl (by decide) (fun K hK=>?_)
   go_simp
   refine hK.out _ _ ?_
   try simp only[Act.put,uX,uY,uZ]
   clear hK K
   obtain⟨V13,hV,hfs2,hg2⟩:=FS.hi hfs HY3.out ⟨s12,A12,c12,l12,s12r,A12r,c12r,l12r,x.hi.q,true⟩
   rw[←hV]
   clear hV
   replace hB:=(zAa hB Bz).trans (hg2.below (by have:=zw hB Bz;omega) (row_base (by omega)))
   replace zs:wr.heap.size≤V13.heap.size:=by have:=Bz.size;have:=hg2.size;omega
   replace HX0:=zh (hg2.bx (zx HX0 Bz) (ne_row (by omega)))
   replace HX1:=zh (hg2.bx (zx HX1 Bz) (ne_row (by omega)))
   replace HX2:=zh (hg2.bx (zx HX2 Bz) (ne_row (by omega)))
   replace HX3:=zh (hg2.bx (zx HX3 Bz) (ne_row (by omega)))
   replace hhi:=hhi.k hg2.k
   replace h11:=h11.k hg2.k
   replace h12:=h12.k hg2.k
   replace hlo:=hlo.k hg2.k
   replace hfs:=hfs2
   clear hfs2 hg2 Bz
   have Bz:=Below.refl V13.heap.size V13
   clear p2_2 p2_3 p3_0 p3_1 p3_2 p3_3 p3_4 p3_5 p3_6 p3_7 p52_0 p52_1 p52_2 p52_3 f52_0 f52_1 f52_2 f52_3 y52
   obtain⟨-,-,p2_2,p2_3,-⟩:=(zx HX2 Bz).cz
   obtain⟨p3_0,p3_1,p3_2,p3_3,p3_4,p3_5,p3_6,p3_7,-⟩:=(zx HX3 Bz).cz
   refine wpPlan_done ?_
   go_wp2_with fail
   go_roundg (vn-(i+1))
   case measure=>have:=HGK.out;omega
   case rel=>exact⟨i+1,_,_,by omega,rfl,by go_num,⟨HX0.out.below (zAa Bz (by go_grown)),HX1.out.below (zAa Bz (by go_grown)),HX2.out.below (zAa Bz (by go_grown)),zAa (zAa hB Bz) (by go_grown)⟩,FS.below hfs (by go_grown),NumsF.below (NumsF.set hlo (x:=⟨s11,A11,c11,l11,s11r,A11r,c11r,l11r,x.lo.q,true⟩) ⟨h11,rfl,by show sz x.lo.q+1≤KD;have:=R.sz HVF.out.lof.r;omega⟩ (loF_at HVI.out) (fun j hj=>loF_ne hj)) (by go_grown),NumsF.below (NumsF.set hhi (x:=⟨s12,A12,c12,l12,s12r,A12r,c12r,l12r,x.hi.q,true⟩) ⟨h12,rfl,by show sz x.hi.q+1≤KD;have:=R.sz HVF.out.hif.r;omega⟩ (hiF_at HVI.out) (fun j hj=>hiF_ne hj)) (by go_grown)⟩
  ·obtain rfl:i=vn:=by omega
   obtain⟨vn,hvn0⟩:∃vn,vn=i:=⟨_,rfl⟩
   subst hvn0
   have i1:¬(vn:Int)<(vn:Int):=by omega
   have zs:=Nat.le_refl wr.heap.size
   have Bz:=Below.refl wr.heap.size wr
   have p0_2:=(zx HX0 Bz).cell 2 (.slice cA cn cc) rfl
   go_wp2_with fail
   have HST:Hid (FM2 w vn gf B0 rn N g1 g2 g3 g4 g5 m KD cn #[.slice vA vn vc,.slice rA rn rc,.slice cA cn cc] #[.int .i64 (rn:Int),.slice (some ⟨g1,0,none⟩) N N,.slice (some ⟨g2,0,none⟩) N N,.slice (some ⟨g3,0,none⟩) N N,.slice (some ⟨g4,0,none⟩) N N,.slice (some ⟨g5,0,none⟩) rn rn] V RR C cn (.int .i64 ((0:Nat):Int)) wr):=zh ⟨0,_,_,_,Nat.zero_le _,rfl,rfl,⟨HX0.out.below Bz,HX1.out.below Bz,HX2.out.below Bz,zAa hB Bz⟩,hfs,hlo,hhi,by rw[coF_start];exact NumsF.zeros _ _ (by omega)⟩
   clear hB Bz HX0 HX1 HX2 hfs hlo hhi i1 HGK ln1 ln2 ln3 ln4 ln5 kl1 kl2 kl3 kl4 kl5
   obtain⟨wo,hwo⟩:∃x:World,x=wr:=⟨_,rfl⟩
   subst hwo
   go_loopg [74] cn (fun gk s wr=>FM2 w vn gf B0 rn N g1 g2 g3 g4 g5 m KD cn #[.slice vA vn vc,.slice rA rn rc,.slice cA cn cc] #[.int .i64 (rn:Int),.slice (some ⟨g1,0,none⟩) N N,.slice (some ⟨g2,0,none⟩) N N,.slice (some ⟨g3,0,none⟩) N N,.slice (some ⟨g4,0,none⟩) N N,.slice (some ⟨g5,0,none⟩) rn rn] V RR C gk s wr)
   case atStart=>exact HST.out
   case round =>
    clear HST
    obtain⟨i,LO,HI,CO,hi,hgk,rfl,hfx,hfs,hlo,hhi,hco⟩:=hrel
    obtain⟨x0,x1,x2,hB⟩:=hfx
    have HX0:=zh x0
    have HX1:=zh x1
    have HX2:=zh x2
    have HGK:=zh hgk
    clear x0 x1 x2 hgk
    obtain⟨kl1,kl2,kl3,kl4,kl5⟩:=hfs.blks
    obtain⟨ln1,ln2,ln3,ln4,ln5⟩:=hfs.lens
    by_cases hlt:i<cn
    ·skip
     obtain⟨b,off,rfl,hel⟩:=hcsl.at Tm.cs_len (by omega) (by omega)
     obtain⟨x,hxi⟩:∃x,C[i]?=some x:=⟨C[i]'(by rw[HCL0.out];exact hlt),List.getElem?_eq_getElem _⟩
     have HTF:=zh (HCF.out x (List.mem_of_getElem? hxi))
     have HTI:=zh hxi
     have hnd:=hel i x hxi
     have hat:=rightB_get HQC.out hxi
     have j1:0≤x.at_:=hat.1
     have j2:x.at_<(vn:Int):=hat.2.1
     have j3:x.at_<(N:Int):=by omega
     have i1:(i:Int)<(cn:Int):=by omega
     have i2:(0:Int)≤(i:Int):=by omega
     clear hel hxi hat
     obtain⟨y4,hy4⟩:∃y,CO[x.at_.toNat]?=some y:=⟨CO[x.at_.toNat]'(by omega),List.getElem?_eq_getElem _⟩
     have HY4:=zh hy4
     clear hy4
     have zs:=Nat.le_refl wr.heap.size
     have Bz:=Below.refl wr.heap.size wr
     obtain⟨p50_0,p50_1,p50_2,p50_3,p50_4,-⟩:=(hnd.below (zAa hB Bz)).ez
     go_upto_region 14 with(fail)
     obtain⟨V21,hW,x3,hN⟩:=zAc wr #[.int .i64 x.at_,.bool x.x.s,.slice x.x.A x.x.l x.x.c,.bool x.x.s',.slice x.x.A' x.x.l' x.x.c'] 71
     rw[←hW]
     clear hW
     obtain⟨v3,hb3⟩:∃b,b=wr.heap.size:=⟨_,rfl⟩
     rw[←hb3] at x3 ⊢
     have o0_3:w.heap.size<v3:=by have:=(zx HX0 Bz).lt;omega
     have o1_3:w.heap.size+1<v3:=by have:=(zx HX1 Bz).lt;omega
     have o2_3:gf<v3:=by have:=(zx HX2 Bz).lt;omega
     have ow_3:w.heap.size≤v3:=by have:=zw hB Bz;omega
     have oz_3:wr.heap.size≤v3:=by have:=Bz.size;omega
     replace hco:=hco.below hN
     replace hfs:=hfs.below hN
     replace hhi:=hhi.below hN
     replace hlo:=hlo.below hN
     replace hB:=zAa (zAa hB Bz) hN
     replace HX0:=zh ((zx HX0 Bz).below hN)
     replace HX1:=zh ((zx HX1 Bz).below hN)
     replace HX2:=zh ((zx HX2 Bz).below hN)
     have HX3:=zh x3
     replace zs:wr.heap.size≤V21.heap.size:=by have:=Bz.size;have:=hN.size;omega
     clear x3 hN Bz hb3
     have Bz:=Below.refl V21.heap.size V21
     clear p50_0 p50_1 p50_2 p50_3 p50_4
     have p2_4:=(zx HX2 Bz).cell 4 (.slice (some ⟨g4,0,none⟩) N N) rfl
     obtain⟨p3_0,p3_1,p3_2,p3_3,p3_4,-⟩:=(zx HX3 Bz).cz
     have p51_0:=fr_0 hfs.fm.r4 HY4.out
     have p51_1:=elt_frs.cell hfs.fm.r4 HY4.out (j:=1) (u:=.slice y4.A y4.l y4.c) (by omega) rfl
     have p51_2:=elt_frs.cell hfs.fm.r4 HY4.out (j:=2) (u:=.bool y4.s') (by omega) rfl
     have p51_3:=elt_frs.cell hfs.fm.r4 HY4.out (j:=3) (u:=.slice y4.A' y4.l' y4.c') (by omega) rfl
     have f51_0:=hfs.fm.r4.frozen (x.at_.toNat*4)
     have f51_1:=hfs.fm.r4.frozen (x.at_.toNat*4+1)
     have f51_2:=hfs.fm.r4.frozen (x.at_.toNat*4+2)
     have f51_3:=hfs.fm.r4.frozen (x.at_.toNat*4+3)
     have y51:=hfs.fm.r4.blk.1
     go_wp2_with fail
     (try simp only[List.append_eq,List.cons_append,List.nil_append])
     refine wp_region_plan (.pure 0 (.take 1 (.pure 2 (.take 3 (.pure 4 (.take 5 (.only 6 (.pure 7 (.only 8 .done))))))))) [8] (fun w'=>w'.cell? ⟨gf,4,none⟩=some (.slice (some ⟨g4,0,none⟩) N N)∧w'.cell? ⟨v3,0,none⟩=some (.int .i64 x.at_)∧w'.cell? ⟨v3,1,none⟩=some (.bool x.x.s)∧w'.cell? ⟨v3,2,none⟩=some (.slice x.x.A x.x.l x.x.c)∧w'.cell? ⟨v3,3,none⟩=some (.bool x.x.s')∧w'.cell? ⟨v3,4,none⟩=some (.slice x.x.A' x.x.l' x.x.c')) (by kernel_rfl) (by kernel_rfl) ⟨p2_4,p3_0,p3_1,p3_2,p3_3,p3_4⟩ ?_
     refine zP rfl rfl (fun w'=>by go_simp<;>with_reducible rfl) ?_
     try simp only[uW,uX,uY,uZ]
     refine zT rfl rfl (fun w' ⟨p2_4,p3_0,p3_1,p3_2,p3_3,p3_4⟩=>by go_simp<;>with_reducible rfl) ?_
     try simp only[uW,uX,uY,uZ]
     refine zP rfl rfl (fun w'=>by go_simp<;>with_reducible rfl) ?_
     try simp only[uW,uX,uY,uZ]
     refine zT rfl rfl (fun w' ⟨p2_4,p3_0,p3_1,p3_2,p3_3,p3_4⟩=>by go_simp<;>with_reducible rfl) ?_
     try simp only[uW,uX,uY,uZ]
     refine zP rfl rfl (fun w'=>by go_simp<;>with_reducible rfl) ?_
     try simp only[uW,uX,uY,uZ]
     refine zT rfl rfl (fun w' ⟨p2_4,p3_0,p3_1,p3_2,p3_3,p3_4⟩=>by go_simp<;>with_reducible rfl) ?_
     try simp only[uW,uX,uY,uZ]
     refine zC 84 rfl rfl (fun K hK=>?_)
     go_simp
     with_reducible refine(norm_q (FrOk.below HTF.out (zAa hB (zAa (b:=V21) Bz (by go_grown)))).r (by omega) (zh (Tab.below hT.out (zAa hB (zAa (b:=V21) Bz (by go_grown)))))).mono ?_
     rintro e w21 ⟨s21,A21,c21,l21,s21r,A21r,c21r,l21r,rfl,h21,b21⟩
     replace b21:=zAa (a:=V21) (by go_grown) b21
     replace hco:=hco.below b21
     replace hfs:=hfs.below b21
     replace hhi:=hhi.below b21
     replace hlo:=hlo.below b21
     replace Bz:=zAa Bz b21
     clear b21
     clear p2_4 p3_0 p3_1 p3_2 p3_3 p3_4 p51_0 p51_1 p51_2 p51_3 f51_0 f51_1 f51_2 f51_3 y51
     have p2_4:=(zx HX2 Bz).cell 4 (.slice (some ⟨g4,0,none⟩) N N) rfl
     obtain⟨p3_0,p3_1,p3_2,p3_3,p3_4,-⟩:=(zx HX3 Bz).cz
     have p51_0:=fr_0 hfs.fm.r4 HY4.out
     have p51_1:=elt_frs.cell hfs.fm.r4 HY4.out (j:=1) (u:=.slice y4.A y4.l y4.c) (by omega) rfl
     have p51_2:=elt_frs.cell hfs.fm.r4 HY4.out (j:=2) (u:=.bool y4.s') (by omega) rfl
     have p51_3:=elt_frs.cell hfs.fm.r4 HY4.out (j:=3) (u:=.slice y4.A' y4.l' y4.c') (by omega) rfl
     have f51_0:=hfs.fm.r4.frozen (x.at_.toNat*4)
     have f51_1:=hfs.fm.r4.frozen (x.at_.toNat*4+1)
     have f51_2:=hfs.fm.r4.frozen (x.at_.toNat*4+2)
     have f51_3:=hfs.fm.r4.frozen (x.at_.toNat*4+3)
     have y51:=hfs.fm.r4.blk.1
     refine hK.out _ _ ⟨p2_4,p3_0,p3_1,p3_2,p3_3,p3_4⟩ (fun _=>?_)
     try simp only[uW,uX,uY,uZ]
     clear hK K
     refine zP rfl rfl (fun w'=>by go_simp<;>with_reducible rfl) ?_
     try simp only[uW,uX,uY,uZ]
     refine wpPlan_late (o:=⟨none,_,_,_,_,_⟩) rfl rfl (by decide) (fun K hK=>?_)
     go_simp
     refine hK.out _ _ ?_
     try simp only[Act.put,uX,uY,uZ]
     clear hK K
     obtain⟨V22,hV,hfs2,hg2⟩:=FS.co hfs HY4.out ⟨s21,A21,c21,l21,s21r,A21r,c21r,l21r,x.x.q,true⟩
     rw[←hV]
     clear hV
     replace hB:=(zAa hB Bz).trans (hg2.below (by have:=zw hB Bz;omega) (row_base (by omega)))
     replace zs:wr.heap.size≤V22.heap.size:=by have:=Bz.size;have:=hg2.size;omega
     replace HX0:=zh (hg2.bx (zx HX0 Bz) (ne_row (by omega)))
     replace HX1:=zh (hg2.bx (zx HX1 Bz) (ne_row (by omega)))
     replace HX2:=zh (hg2.bx (zx HX2 Bz) (ne_row (by omega)))
     replace HX3:=zh (hg2.bx (zx HX3 Bz) (ne_row (by omega)))
     replace hco:=hco.k hg2.k
     replace hhi:=hhi.k hg2.k
     replace h21:=h21.k hg2.k
     replace hlo:=hlo.k hg2.k
     replace hfs:=hfs2
     clear hfs2 hg2 Bz
     have Bz:=Below.refl V22.heap.size V22
     clear p2_4 p3_0 p3_1 p3_2 p3_3 p3_4 p51_0 p51_1 p51_2 p51_3 f51_0 f51_1 f51_2 f51_3 y51
     have p2_4:=(zx HX2 Bz).cell 4 (.slice (some ⟨g4,0,none⟩) N N) rfl
     obtain⟨p3_0,p3_1,p3_2,p3_3,p3_4,-⟩:=(zx HX3 Bz).cz
     refine wpPlan_done ?_
     go_wp2_with fail
     go_roundg (cn-(i+1))
     case measure=>have:=HGK.out;omega
     case rel=>exact⟨i+1,_,_,_,by omega,rfl,by go_num,⟨HX0.out.below (zAa Bz (by go_grown)),HX1.out.below (zAa Bz (by go_grown)),HX2.out.below (zAa Bz (by go_grown)),zAa (zAa hB Bz) (by go_grown)⟩,FS.below hfs (by go_grown),NumsF.below hlo (by go_grown),NumsF.below hhi (by go_grown),NumsF.below (NumsF.set hco (x:=⟨s21,A21,c21,l21,s21r,A21r,c21r,l21r,x.x.q,true⟩) ⟨h21,rfl,by show sz x.x.q+1≤KD;have:=R.sz HTF.out.r;omega⟩ (coF_at HTI.out HCR.out (by omega)) (fun j hj=>coF_ne HTI.out (by omega))) (by go_grown)⟩
    ·obtain rfl:i=cn:=by omega
     obtain⟨cn,hcn0⟩:∃cn,cn=i:=⟨_,rfl⟩
     subst hcn0
     have i1:¬(cn:Int)<(cn:Int):=by omega
     have zs:=Nat.le_refl wr.heap.size
     have Bz:=Below.refl wr.heap.size wr
     have p0_1:=(zx HX0 Bz).cell 1 (.slice rA rn rc) rfl
     go_wp2_with fail
     have HST:Hid (FM3 w vn cn gf B0 rn N g1 g2 g3 g4 g5 m KD rn #[.slice vA vn vc,.slice rA rn rc,.slice cA cn cc] #[.int .i64 (rn:Int),.slice (some ⟨g1,0,none⟩) N N,.slice (some ⟨g2,0,none⟩) N N,.slice (some ⟨g3,0,none⟩) N N,.slice (some ⟨g4,0,none⟩) N N,.slice (some ⟨g5,0,none⟩) rn rn] V RR C rn (.int .i64 ((0:Nat):Int)) wr):=zh ⟨0,_,_,_,_,_,Nat.zero_le _,rfl,rfl,⟨HX0.out.below Bz,HX1.out.below Bz,HX2.out.below Bz,zAa hB Bz⟩,hfs,ColsF.start vn N _,Clr.start gf N,hlo,hhi,hco,by rw[bbF_start];exact NumsF.zeros _ _ (by omega)⟩
     clear hB Bz HX0 HX1 HX2 hfs hlo hhi hco i1 HGK ln1 ln2 ln3 ln4 ln5 kl1 kl2 kl3 kl4 kl5
     obtain⟨wo2,hwo2⟩:∃x:World,x=wr:=⟨_,rfl⟩
     subst hwo2
     go_loopg [90] rn (fun gk s wr=>FM3 w vn cn gf B0 rn N g1 g2 g3 g4 g5 m KD rn #[.slice vA vn vc,.slice rA rn rc,.slice cA cn cc] #[.int .i64 (rn:Int),.slice (some ⟨g1,0,none⟩) N N,.slice (some ⟨g2,0,none⟩) N N,.slice (some ⟨g3,0,none⟩) N N,.slice (some ⟨g4,0,none⟩) N N,.slice (some ⟨g5,0,none⟩) rn rn] V RR C gk s wr)
     case atStart=>exact HST.out
     case round =>
      clear HST
      obtain⟨i,CV,LO,HI,CO,BB,hi,hgk,rfl,hfx,hfs,hce,hcf,hlo,hhi,hco,hbb⟩:=hrel
      obtain⟨x0,x1,x2,hB⟩:=hfx
      have HX0:=zh x0
      have HX1:=zh x1
      have HX2:=zh x2
      have HGK:=zh hgk
      clear x0 x1 x2 hgk
      obtain⟨kl1,kl2,kl3,kl4,kl5⟩:=hfs.blks
      obtain⟨ln1,ln2,ln3,ln4,ln5⟩:=hfs.lens
      have HCE0:=zh hce
      clear hce
      by_cases hlt:i<rn
      ·skip
       obtain⟨b,off,rfl,hel⟩:=hrsl.at Rw.cs_len (by omega) (by omega)
       obtain⟨x,hxi⟩:∃x,RR[i]?=some x:=⟨RR[i]'(by rw[HRL.out];exact hlt),List.getElem?_eq_getElem _⟩
       have hro:=HRW.out x (List.mem_of_getElem? hxi)
       have hsk:=hKD.out.2 x (List.mem_of_getElem? hxi)
       have hrb:=HQR.out x (List.mem_of_getElem? hxi)
       have hnd:=hel i x hxi
       have HFE:=zh (frmE_at hxi)
       obtain⟨xA,xn,xc,xL,xk,xb⟩:=x
       have HRO:=zh hro
       have HRI:=zh hxi
       have HSK:Hid (1+xn*(2*m+4)≤9000000000):=zh hsk.1
       have HSD:Hid (1+xn*(2*m+4)+m+3≤KD):=zh hsk.2
       have HRB:Hid (rightB xL (vn:Int)=true):=zh hrb
       have hxsl:Sl Tm.cs 5 w xA xn xc xL:=hro.sl
       have HXF:Hid (∀t∈xL,FrOk w m t.x):=zh hro.fr
       have HXL:Hid (xL.length=xn):=zh hxsl.1
       have hxn:xn≤2000000:=hro.len
       have hfs0:=hfs
       have i1:(i:Int)<(rn:Int):=by omega
       have i2:(0:Int)≤(i:Int):=by omega
       clear hel hxi hro hsk hrb
       have zs:=Nat.le_refl wr.heap.size
       have Bz:=Below.refl wr.heap.size wr
       obtain⟨p50_0,p50_1,p50_2,p50_3,p50_4,p50_5,-⟩:=(hnd.below (zAa hB Bz)).ez
       go_upto_region 19 with(fail)
       obtain⟨V31,hW,x3,hN⟩:=zAc wr #[.slice xA xn xc,.int .u8 xk,.bool xb.s,.slice xb.A xb.l xb.c,.bool xb.s',.slice xb.A' xb.l' xb.c'] 35
       rw[←hW]
       clear hW
       obtain⟨v3,hb3⟩:∃b,b=wr.heap.size:=⟨_,rfl⟩
       rw[←hb3] at x3 ⊢
       have o0_3:w.heap.size<v3:=by have:=(zx HX0 Bz).lt;omega
       have o1_3:w.heap.size+1<v3:=by have:=(zx HX1 Bz).lt;omega
       have o2_3:gf<v3:=by have:=(zx HX2 Bz).lt;omega
       have ow_3:w.heap.size≤v3:=by have:=zw hB Bz;omega
       have oz_3:wr.heap.size≤v3:=by have:=Bz.size;omega
       replace hbb:=hbb.below hN
       replace hco:=hco.below hN
       replace hfs:=hfs.below hN
       replace hhi:=hhi.below hN
       replace hlo:=hlo.below hN
       replace hB:=zAa (zAa hB Bz) hN
       replace HX0:=zh ((zx HX0 Bz).below hN)
       replace HX1:=zh ((zx HX1 Bz).below hN)
       replace HX2:=zh ((zx HX2 Bz).below hN)
       have HX3:=zh x3
       replace zs:wr.heap.size≤V31.heap.size:=by have:=Bz.size;have:=hN.size;omega
       clear x3 hN Bz hb3
       have Bz:=Below.refl V31.heap.size V31
       clear p50_0 p50_1 p50_2 p50_3 p50_4 p50_5
       have p3_0:=(zx HX3 Bz).cell 0 (.slice xA xn xc) rfl
       go_wp2_with fail
       have hcq:=FS.clr hfs0 (b:=v3) oz_3
       have kq1:v3≠g1∧v3≠g2∧v3≠g3∧v3≠g4∧v3≠g5:=by omega
       obtain⟨kq1,kq2,kq3,kq4,kq5⟩:=kq1
       have HST:Hid (FM4 w vn cn v3 i #[.slice xA xn xc,.int .u8 xk,.bool xb.s,.slice xb.A xb.l xb.c,.bool xb.s',.slice xb.A' xb.l' xb.c'] xL LO HI CO BB gf B0 rn N g1 g2 g3 g4 g5 m KD xn #[.slice vA vn vc,.slice (some ⟨b,off,none⟩) rn rc,.slice cA cn cc] #[.int .i64 (rn:Int),.slice (some ⟨g1,0,none⟩) N N,.slice (some ⟨g2,0,none⟩) N N,.slice (some ⟨g3,0,none⟩) N N,.slice (some ⟨g4,0,none⟩) N N,.slice (some ⟨g5,0,none⟩) rn rn] V RR C xn (.int .i64 ((0:Nat):Int)) V31):=zh ⟨0,CV,Nat.zero_le _,rfl,rfl,⟨HX0.out.below Bz,HX1.out.below Bz,HX2.out.below Bz,zAa hB Bz⟩,HX3.out.below Bz,hfs,by rw[List.take_zero];show ColsF CV vn (frmE RR i++[]) i _;rw[List.append_nil];exact HCE0.out,hcf,hcq,hlo,hhi,hco,hbb⟩
       obtain⟨bq,hbq⟩:∃b,b=v3:=⟨_,rfl⟩
       clear hB Bz HX0 HX1 HX2 HX3 hfs hfs0 hlo hhi hco hbb hcf hcq zs oz_3 o0_3 o1_3 o2_3 ow_3 ln1 kl1 kl2 kl3 kl4 kl5 HCE0
       subst hbq
       obtain⟨wo3,hwo3⟩:∃x:World,x=wr:=⟨_,rfl⟩
       subst hwo3
       go_loopg [98] xn (fun gk s wr=>FM4 w vn cn bq i #[.slice xA xn xc,.int .u8 xk,.bool xb.s,.slice xb.A xb.l xb.c,.bool xb.s',.slice xb.A' xb.l' xb.c'] xL LO HI CO BB gf B0 rn N g1 g2 g3 g4 g5 m KD xn #[.slice vA vn vc,.slice (some ⟨b,off,none⟩) rn rc,.slice cA cn cc] #[.int .i64 (rn:Int),.slice (some ⟨g1,0,none⟩) N N,.slice (some ⟨g2,0,none⟩) N N,.slice (some ⟨g3,0,none⟩) N N,.slice (some ⟨g4,0,none⟩) N N,.slice (some ⟨g5,0,none⟩) rn rn] V RR C gk s wr)
       case atStart=>exact HST.out
       case round =>
        clear HST
        obtain⟨j,CV,hj,hgj,rfl,hfx,x3,hfs,hce,hcf,hcq,hlo,hhi,hco,hbb⟩:=hrel
        obtain⟨x0,x1,x2,hB⟩:=hfx
        have HX0:=zh x0
        have HX1:=zh x1
        have HX2:=zh x2
        have HX3:=zh x3
        have HGJ:=zh hgj
        have HCE1:=zh hce
        clear x0 x1 x2 x3 hgj hce
        obtain⟨kl1,kl2,kl3,kl4,kl5⟩:=hfs.blks
        obtain⟨ln1,_⟩:=hfs.lens
        by_cases hlj:j<xn
        ·skip
         obtain⟨eb,offe,rfl,hel⟩:=hxsl.at Tm.cs_len (by omega) (by omega)
         obtain⟨t,hti⟩:∃t,xL[j]?=some t:=⟨xL[j]'(by rw[HXL.out];exact hlj),List.getElem?_eq_getElem _⟩
         have HTF:=zh (HXF.out t (List.mem_of_getElem? hti))
         have hnd2:=hel j t hti
         have hat:=rightB_get HRB.out hti
         have j1:0≤t.at_:=hat.1
         have j2:t.at_<(vn:Int):=hat.2.1
         have j3:t.at_<(N:Int):=by omega
         have i3:(j:Int)<(xn:Int):=by omega
         have i4:(0:Int)≤(j:Int):=by omega
         obtain⟨u,hu⟩:∃u,CV[t.at_.toNat]?=some u:=⟨CV[t.at_.toNat]'(by omega),List.getElem?_eq_getElem _⟩
         have hun:=HCE1.out.n u (List.mem_of_getElem? hu)
         have HCE:Hid (∀(H:Option Addr) (c:Nat) (fs fs':Bool) (fA fA':Option Addr) (fc fc' fl fl':Nat),ColsF (CV.set t.at_.toNat ⟨H,u.n+1,c,u.L++[⟨(i:Int),⟨fs,fA,fc,fl,fs',fA',fc',fl',t.x.q,true⟩⟩]⟩) vn (frmE RR i++colE i (prs (xL.take (j+1)))) i (i*2000001+1+(j+1))):=zh (fun H c fs fs' fA fA' fc fc' fl fl'=>by
          have h9:=HCE1.out.app hu (by omega) H c ⟨fs,fA,fc,fl,fs',fA',fc',fl',t.x.q,true⟩ (i:Int)
          rw[Int.toNat_of_nonneg j1] at h9
          rw[colE_snoc i hti,←List.append_assoc]
          exact h9.mono (by omega))
         have HVU:=zh hu
         have hou:=hfs.own hu
         have hout:=hfs.fm.r1
         have apGU:Ap (.slice (some ⟨g1,0,none⟩) N N) (.slice u.A u.n u.c):=(hfs.ts.og u (List.mem_of_getElem? hu)).1
         have apUG:=apGU.symm
         clear hel hti hat hu
         have zs:=Nat.le_refl wr.heap.size
         have Bz:=Below.refl wr.heap.size wr
         have p50_0:=(hnd2.below (zAa hB Bz)).c0 (u:=.int .i64 t.at_) rfl
         have p50_1:=(hnd2.below (zAa hB Bz)).at 1 (.bool t.x.s) rfl
         have p50_2:=(hnd2.below (zAa hB Bz)).at 2 (.slice t.x.A t.x.l t.x.c) rfl
         have p50_3:=(hnd2.below (zAa hB Bz)).at 3 (.bool t.x.s') rfl
         have p50_4:=(hnd2.below (zAa hB Bz)).at 4 (.slice t.x.A' t.x.l' t.x.c') rfl
         go_upto_region 22 with(fail)
         obtain⟨V41,hW,x4,hN⟩:=zAc wr #[.int .i64 t.at_,.bool t.x.s,.slice t.x.A t.x.l t.x.c,.bool t.x.s',.slice t.x.A' t.x.l' t.x.c'] 71
         rw[←hW]
         clear hW
         obtain⟨v4,hb4⟩:∃b,b=wr.heap.size:=⟨_,rfl⟩
         rw[←hb4] at x4 ⊢
         have o0_4:w.heap.size<v4:=by have:=(zx HX0 Bz).lt;omega
         have o1_4:w.heap.size+1<v4:=by have:=(zx HX1 Bz).lt;omega
         have o2_4:gf<v4:=by have:=(zx HX2 Bz).lt;omega
         have o3_4:bq<v4:=by have:=(zx HX3 Bz).lt;omega
         have ow_4:w.heap.size≤v4:=by have:=zw hB Bz;omega
         have nv4_own:=OwnR.off' (b:=v4) hou (by omega)
         have nv4_out:=OwnR.off' (b:=v4) hout (by omega)
         have oz_4:wr.heap.size≤v4:=by have:=Bz.size;omega
         replace hbb:=hbb.below hN
         replace hco:=hco.below hN
         replace hfs:=hfs.below hN
         replace hhi:=hhi.below hN
         replace hlo:=hlo.below hN
         replace hout:=hout.below hN
         replace hou:=hou.below hN
         replace hB:=zAa (zAa hB Bz) hN
         replace HX0:=zh ((zx HX0 Bz).below hN)
         replace HX1:=zh ((zx HX1 Bz).below hN)
         replace HX2:=zh ((zx HX2 Bz).below hN)
         replace HX3:=zh ((zx HX3 Bz).below hN)
         have HX4:=zh x4
         replace zs:wr.heap.size≤V41.heap.size:=by have:=Bz.size;have:=hN.size;omega
         clear x4 hN Bz hb4
         have Bz:=Below.refl V41.heap.size V41
         clear p50_0 p50_1 p50_2 p50_3 p50_4
         have p2_1:=(zx HX2 Bz).cell 1 (.slice (some ⟨g1,0,none⟩) N N) rfl
         obtain⟨p4_0,p4_1,p4_2,p4_3,p4_4,-⟩:=(zx HX4 Bz).cz
         have p51_0:=vc_cell hout HVU.out
         have f51_0:=hout.frozen t.at_.toNat
         have y51:=hout.blk.1
         go_wp2_with fail
         (try simp only[List.append_eq,List.cons_append,List.nil_append])
         refine wp_region_plan (.pure 0 (.take 1 (.pure 2 (.take 3 (.pure 4 (.take 5 (.pure 6 (.take 7 (.pure 8 (.take 9 (.pure 10 (.pure 11 (.take 12 (.only 13 (.pure 14 (.only 15 (.only 16 (.pure 17 (.only 18 .done))))))))))))))))))) [18] (fun w'=>w'.cell? ⟨gf,1,none⟩=some (.slice (some ⟨g1,0,none⟩) N N)∧w'.cell? ⟨v4,0,none⟩=some (.int .i64 t.at_)∧w'.cell? ⟨v4,1,none⟩=some (.bool t.x.s)∧w'.cell? ⟨v4,2,none⟩=some (.slice t.x.A t.x.l t.x.c)∧w'.cell? ⟨v4,3,none⟩=some (.bool t.x.s')∧w'.cell? ⟨v4,4,none⟩=some (.slice t.x.A' t.x.l' t.x.c')∧w'.cell? ⟨g1,t.at_.toNat,none⟩=some (.slice u.A u.n u.c)) (by kernel_rfl) (by kernel_rfl) ⟨p2_1,p4_0,p4_1,p4_2,p4_3,p4_4,p51_0⟩ ?_
         refine zP rfl rfl (fun w'=>by go_simp<;>with_reducible rfl) ?_
         try simp only[uW,uX,uY,uZ]
         refine zT rfl rfl (fun w' ⟨p2_1,p4_0,p4_1,p4_2,p4_3,p4_4,p51_0⟩=>by go_simp<;>with_reducible rfl) ?_
         try simp only[uW,uX,uY,uZ]
         refine zP rfl rfl (fun w'=>by go_simp<;>with_reducible rfl) ?_
         try simp only[uW,uX,uY,uZ]
         refine zT rfl rfl (fun w' ⟨p2_1,p4_0,p4_1,p4_2,p4_3,p4_4,p51_0⟩=>by go_simp<;>with_reducible rfl) ?_
         try simp only[uW,uX,uY,uZ]
         refine zP rfl rfl (fun w'=>by go_simp<;>with_reducible rfl) ?_
         try simp only[uW,uX,uY,uZ]
         refine zT rfl rfl (fun w' ⟨p2_1,p4_0,p4_1,p4_2,p4_3,p4_4,p51_0⟩=>by go_simp<;>with_reducible rfl) ?_
         try simp only[uW,uX,uY,uZ]
         refine zP rfl rfl (fun w'=>by go_simp<;>with_reducible rfl) ?_
         try simp only[uW,uX,uY,uZ]
         refine zT rfl rfl (fun w' ⟨p2_1,p4_0,p4_1,p4_2,p4_3,p4_4,p51_0⟩=>by go_simp<;>with_reducible rfl) ?_
         try simp only[uW,uX,uY,uZ]
         refine zP rfl rfl (fun w'=>by go_simp<;>with_reducible rfl) ?_
         try simp only[uW,uX,uY,uZ]
         refine zT rfl rfl (fun w' ⟨p2_1,p4_0,p4_1,p4_2,p4_3,p4_4,p51_0⟩=>by go_simp<;>with_reducible rfl) ?_
         try simp only[uW,uX,uY,uZ]
         iterate 2 (refine zP rfl rfl (fun w'=>by go_simp<;>with_reducible rfl) ?_;try simp only[uW,uX,uY,uZ])
         refine zT rfl rfl (fun w' ⟨p2_1,p4_0,p4_1,p4_2,p4_3,p4_4,p51_0⟩=>by go_simp<;>with_reducible rfl) ?_
         try simp only[uW,uX,uY,uZ]
         refine zC 115 rfl rfl (fun K hK=>?_)
         go_simp
         with_reducible refine(norm_q (FrOk.below HTF.out (zAa hB (zAa (b:=V41) Bz (by go_grown)))).r (by omega) (zh (Tab.below hT.out (zAa hB (zAa (b:=V41) Bz (by go_grown)))))).mono ?_
         rintro e w41 ⟨s41,A41,c41,l41,s41r,A41r,c41r,l41r,rfl,h41,b41⟩
         replace b41:=zAa (a:=V41) (by go_grown) b41
         replace hbb:=hbb.below b41
         replace hco:=hco.below b41
         replace hfs:=hfs.below b41
         replace hhi:=hhi.below b41
         replace hlo:=hlo.below b41
         replace hout:=hout.below b41
         replace hou:=hou.below b41
         replace Bz:=zAa Bz b41
         clear b41
         clear p2_1 p4_0 p4_1 p4_2 p4_3 p4_4 p51_0 f51_0 y51
         have p2_1:=(zx HX2 Bz).cell 1 (.slice (some ⟨g1,0,none⟩) N N) rfl
         obtain⟨p4_0,p4_1,p4_2,p4_3,p4_4,-⟩:=(zx HX4 Bz).cz
         have p51_0:=vc_cell hout HVU.out
         have f51_0:=hout.frozen t.at_.toNat
         have y51:=hout.blk.1
         refine hK.out _ _ ⟨p2_1,p4_0,p4_1,p4_2,p4_3,p4_4,p51_0⟩ (fun _=>?_)
         try simp only[uW,uX,uY,uZ]
         clear hK K
         refine zP rfl rfl (fun w'=>by go_simp<;>with_reducible rfl) ?_
         try simp only[uW,uX,uY,uZ]
         refine zC 117 rfl rfl (fun K hK=>?_)
         go_simp
         refine hK.out _ _ ⟨(zAb p2_1),(zAb p4_0),(zAb p4_1),(zAb p4_2),(zAb p4_3),(zAb p4_4),(zAb p51_0)⟩ (fun _=>?_)
         try simp only[uW,uX,uY,uZ]
         clear hK K
         refine zC 118 rfl rfl (fun K hK=>?_)
         obtain⟨V42,hW,x5,hN⟩:=zAc w41 #[.int .i64 (i:Int),.bool s41,.slice A41 l41 c41,.bool s41r,.slice A41r l41r c41r] 71
         rw[←hW]
         clear hW
         obtain⟨v5,hb5⟩:∃b,b=w41.heap.size:=⟨_,rfl⟩
         rw[←hb5] at x5 ⊢
         have o0_5:w.heap.size<v5:=by have:=(zx HX0 Bz).lt;omega
         have o1_5:w.heap.size+1<v5:=by have:=(zx HX1 Bz).lt;omega
         have o2_5:gf<v5:=by have:=(zx HX2 Bz).lt;omega
         have o3_5:bq<v5:=by have:=(zx HX3 Bz).lt;omega
         have o4_5:v4<v5:=by have:=(zx HX4 Bz).lt;omega
         have ow_5:w.heap.size≤v5:=by have:=zw hB Bz;omega
         have nv5_own:=OwnR.off' (b:=v5) hou (by omega)
         have nv5_out:=OwnR.off' (b:=v5) hout (by omega)
         have oz_5:wr.heap.size≤v5:=by have:=Bz.size;omega
         replace hbb:=hbb.below hN
         replace hco:=hco.below hN
         replace hfs:=hfs.below hN
         replace hhi:=hhi.below hN
         replace h41:=h41.below hN
         replace hlo:=hlo.below hN
         replace hout:=hout.below hN
         replace hou:=hou.below hN
         replace hB:=zAa (zAa hB Bz) hN
         replace HX0:=zh ((zx HX0 Bz).below hN)
         replace HX1:=zh ((zx HX1 Bz).below hN)
         replace HX2:=zh ((zx HX2 Bz).below hN)
         replace HX3:=zh ((zx HX3 Bz).below hN)
         replace HX4:=zh ((zx HX4 Bz).below hN)
         have HX5:=zh x5
         replace zs:wr.heap.size≤V42.heap.size:=by have:=Bz.size;have:=hN.size;omega
         clear x5 hN Bz hb5
         have Bz:=Below.refl V42.heap.size V42
         clear p2_1 p4_0 p4_1 p4_2 p4_3 p4_4 p51_0 f51_0 y51
         have HFS1:=zh hfs
         have hdr:V42.drew.heap.size=V42.heap.size:=rfl
         have hdr2:V42.drew.drew.heap.size=V42.heap.size:=rfl
         refine Elt.wp elt_vec (.tmp 111) (.tmp 117) rfl (B0) (.slice u.A u.n u.c) (u.n) (u.L) rfl hou (.slice (some ⟨v5,0,none⟩) 1 1) (1) ([⟨(i:Int),⟨s41,A41,c41,l41,s41r,A41r,c41r,l41r,t.x.q,true⟩⟩]) rfl (From.one (HX5.out.below (zAa Bz (by go_grown))) (⟨(i:Int),⟨s41,A41,c41,l41,s41r,A41r,c41r,l41r,t.x.q,true⟩⟩) rfl (elt_vec.len _)) (by omega) (by have:=(FS.blks hfs).1;have:=kg1;omega) ?_
         intro H42 c42 w42 ho42 hg42
         replace hB:=(zAa (zAa hB Bz) (by go_grown)).trans (hg42.below (by have:=zw hB Bz;omega) (fun g hg=>by have:=hou.base g hg;omega))
         replace HX0:=zh (hg42.bx (HX0.out.below (zAa Bz (by go_grown))) (hou.off (by omega)))
         replace HX1:=zh (hg42.bx (HX1.out.below (zAa Bz (by go_grown))) (hou.off (by omega)))
         have nv2_own42:=hg42.ne (HX2.out.below (zAa Bz (by go_grown))).lt (hcf.at_ HVU.out)
         replace HX2:=zh (hg42.bx (HX2.out.below (zAa Bz (by go_grown))) (hcf.at_ HVU.out))
         have nv3_own42:=hg42.ne (HX3.out.below (zAa Bz (by go_grown))).lt (hcq.at_ HVU.out)
         replace HX3:=zh (hg42.bx (HX3.out.below (zAa Bz (by go_grown))) (hcq.at_ HVU.out))
         have nv4_own42:=hg42.ne (HX4.out.below (zAa Bz (by go_grown))).lt nv4_own
         replace HX4:=zh (hg42.bx (HX4.out.below (zAa Bz (by go_grown))) nv4_own)
         have nv5_own42:=hg42.ne (HX5.out.below (zAa Bz (by go_grown))).lt nv5_own
         replace HX5:=zh (hg42.bx (HX5.out.below (zAa Bz (by go_grown))) nv5_own)
         have apGU':=hg42.ap hout apGU
         have apUG':=apGU'.symm
         replace hout:=(OwnR.below hout (by go_grown)).grown hg42 apGU
         clear apGU apUG
         have apGU:=apGU'
         have apUG:=apUG'
         clear apGU' apUG'
         replace zs:wr.heap.size≤w42.heap.size:=by have:=Bz.size;have:=hg42.size;omega
         clear hdr hdr2
         replace hbb:=hbb.k hg42.k
         replace hco:=hco.k hg42.k
         replace hhi:=hhi.k hg42.k
         replace h41:=h41.k hg42.k
         replace hlo:=hlo.k hg42.k
         clear Bz
         have Bz:=Below.refl w42.heap.size w42
         have p2_1:=(zx HX2 Bz).cell 1 (.slice (some ⟨g1,0,none⟩) N N) rfl
         obtain⟨p4_0,p4_1,p4_2,p4_3,p4_4,-⟩:=(zx HX4 Bz).cz
         have p51_0:=vc_cell hout HVU.out
         have f51_0:=hout.frozen t.at_.toNat
         have y51:=hout.blk.1
         refine hK.out _ _ ⟨p2_1,p4_0,p4_1,p4_2,p4_3,p4_4,p51_0⟩ (fun _=>?_)
         try simp only[uW,uX,uY,uZ]
         clear hK K
         refine zP rfl rfl (fun w'=>by go_simp<;>with_reducible rfl) ?_
         try simp only[uW,uX,uY,uZ]
         refine wpPlan_late (o:=⟨none,_,_,_,_,_⟩) rfl rfl (by decide) (fun K hK=>?_)
         go_simp
         refine hK.out _ _ ?_
         try simp only[Act.put,uX,uY,uZ]
         clear hK K
         obtain⟨V43,hV,hfs2,hg2⟩:=(FS.below HFS1.out (by go_grown)).app HVU.out ho42 hg42 (OnT.one (i:Int) h41 (by have:=R.sz HTF.out.r;omega))
         clear hfs hout
         have hfs:=hfs2
         rw[←hV]
         clear hV
         replace hB:=(zAa hB Bz).trans (hg2.below (by have:=zw hB Bz;omega) (row_base (by omega)))
         replace zs:wr.heap.size≤V43.heap.size:=by have:=Bz.size;have:=hg2.size;omega
         replace HX0:=zh (hg2.bx (zx HX0 Bz) (ne_row (by omega)))
         replace HX1:=zh (hg2.bx (zx HX1 Bz) (ne_row (by omega)))
         replace HX2:=zh (hg2.bx (zx HX2 Bz) (ne_row (by omega)))
         replace HX3:=zh (hg2.bx (zx HX3 Bz) (ne_row (by omega)))
         replace HX4:=zh (hg2.bx (zx HX4 Bz) (ne_row (by omega)))
         replace HX5:=zh (hg2.bx (zx HX5 Bz) (ne_row (by omega)))
         replace hbb:=hbb.k hg2.k
         replace hco:=hco.k hg2.k
         replace hhi:=hhi.k hg2.k
         replace hlo:=hlo.k hg2.k
         replace hfs:=hfs2
         clear hfs2 hg2 Bz
         have Bz:=Below.refl V43.heap.size V43
         clear p2_1 p4_0 p4_1 p4_2 p4_3 p4_4 p51_0 f51_0 y51
         have p2_1:=(zx HX2 Bz).cell 1 (.slice (some ⟨g1,0,none⟩) N N) rfl
         obtain⟨p4_0,p4_1,p4_2,p4_3,p4_4,-⟩:=(zx HX4 Bz).cz
         refine wpPlan_done ?_
         go_wp2_with fail
         go_roundg (xn-(j+1))
         case measure=>have:=HGJ.out;omega
         case rel=>exact⟨j+1,_,by omega,rfl,by go_num,⟨HX0.out.below (zAa Bz (by go_grown)),HX1.out.below (zAa Bz (by go_grown)),HX2.out.below (zAa Bz (by go_grown)),zAa (zAa hB Bz) (by go_grown)⟩,HX3.out.below (zAa Bz (by go_grown)),FS.below hfs (by go_grown),HCE.out _ _ _ _ _ _ _ _ _ _,Clr.set hcf nv2_own42,Clr.set hcq nv3_own42,NumsF.below hlo (by go_grown),NumsF.below hhi (by go_grown),NumsF.below hco (by go_grown),NumsF.below hbb (by go_grown)⟩
        ·obtain rfl:j=xn:=by omega
         obtain⟨xn,hxn0⟩:∃xn,xn=j:=⟨_,rfl⟩
         subst hxn0
         have i3:¬(xn:Int)<(xn:Int):=by omega
         have HQ:Hid (((vn:Int)+(i:Int)).toNat=vn+i):=zh (by omega)
         have w1:IntKind.i64.wrap ((vn:Int)+(i:Int))=(vn:Int)+(i:Int):=IntWalk.i64_in _ (by omega)
         have i5:(vn:Int)+(i:Int)<(N:Int):=by omega
         have i6:(0:Int)≤(vn:Int)+(i:Int):=by omega
         have ln2:LO.length=N:=hfs.lens.2.1
         have ln3:HI.length=N:=hfs.lens.2.2.1
         have ln5:BB.length=rn:=hfs.lens.2.2.2.2
         obtain⟨y1,hy1⟩:∃y,CV[((vn:Int)+(i:Int)).toNat]?=some y:=⟨CV[((vn:Int)+(i:Int)).toNat]'(by omega),List.getElem?_eq_getElem _⟩
         have HY1:=zh hy1
         clear hy1
         obtain⟨y2,hy2⟩:∃y,LO[((vn:Int)+(i:Int)).toNat]?=some y:=⟨LO[((vn:Int)+(i:Int)).toNat]'(by omega),List.getElem?_eq_getElem _⟩
         have HY2:=zh hy2
         clear hy2
         obtain⟨y3,hy3⟩:∃y,HI[((vn:Int)+(i:Int)).toNat]?=some y:=⟨HI[((vn:Int)+(i:Int)).toNat]'(by omega),List.getElem?_eq_getElem _⟩
         have HY3:=zh hy3
         clear hy3
         obtain⟨y5,hy5⟩:∃y,BB[i]?=some y:=⟨BB[i]'(by omega),List.getElem?_eq_getElem _⟩
         have HY5:=zh hy5
         clear hy5
         have HCE:Hid (∀(H:Option Addr) (fs fs':Bool) (fA fA':Option Addr) (fc fc' fl fl':Nat),ColsF (CV.set ((vn:Int)+(i:Int)).toNat ⟨H,1,1,[⟨(i:Int),⟨fs,fA,fc,fl,fs',fA',fc',fl',(1:Rat),true⟩⟩]⟩) vn (frmE RR (i+1)) (i+1) ((i+1)*2000001+1)):=zh (fun H fs fs' fA fA' fc fc' fl fl'=>by
          have h8:=HCE1.out
          rw[List.take_of_length_le (by rw[HXL.out];exact Nat.le_refl _)] at h8
          rw[HFE.out,HQ.out]
          exact(h8.mono (B':=(i+1)*2000001+1) (by omega)).put (by omega) rfl (by simp only;omega))
         have zs:=Nat.le_refl wr.heap.size
         have Bz:=Below.refl wr.heap.size wr
         have p2_1:=(zx HX2 Bz).cell 1 (.slice (some ⟨g1,0,none⟩) N N) rfl
         have p51_0:=vc_cell hfs.fm.r1 HY1.out
         have f51_0:=hfs.fm.r1.frozen ((vn:Int)+(i:Int)).toNat
         have y51:=hfs.fm.r1.blk.1
         go_wp2_with fail
         (try simp only[List.append_eq,List.cons_append,List.nil_append])
         refine wp_region_plan (.pure 0 (.take 1 (.pure 2 (.pure 3 (.pure 4 (.pure 5 (.only 6 (.pure 7 (.only 8 (.pure 9 (.only 10 .done))))))))))) [10] (fun w'=>w'.cell? ⟨gf,1,none⟩=some (.slice (some ⟨g1,0,none⟩) N N)) (by kernel_rfl) (by kernel_rfl) p2_1 ?_
         refine zP rfl rfl (fun w'=>by go_simp<;>with_reducible rfl) ?_
         try simp only[uW,uX,uY,uZ]
         refine zT rfl rfl (fun w' p2_1=>by go_simp<;>with_reducible rfl) ?_
         try simp only[uW,uX,uY,uZ]
         iterate 4 (refine zP rfl rfl (fun w'=>by go_simp<;>with_reducible rfl) ?_;try simp only[uW,uX,uY,uZ])
         refine zC 127 rfl rfl (fun K hK=>?_)
         go_simp
         with_reducible refine(of_q 1 1 (zh (by omega)) (zh (by omega)) (zh (Tab.below hT.out (zAa hB (zAa (b:=wr) Bz (by go_grown)))))).mono ?_
         rintro e w51 ⟨s51,A51,c51,l51,s51r,A51r,c51r,l51r,rfl,h51,b51⟩
         replace b51:=zAa (a:=wr) (by go_grown) b51
         replace hbb:=hbb.below b51
         replace hco:=hco.below b51
         replace hfs:=hfs.below b51
         replace hhi:=hhi.below b51
         replace hlo:=hlo.below b51
         replace Bz:=zAa Bz b51
         clear b51
         rw[qof_11] at h51
         clear p2_1 p51_0 f51_0 y51
         have p2_1:=(zx HX2 Bz).cell 1 (.slice (some ⟨g1,0,none⟩) N N) rfl
         have p51_0:=vc_cell hfs.fm.r1 HY1.out
         have f51_0:=hfs.fm.r1.frozen ((vn:Int)+(i:Int)).toNat
         have y51:=hfs.fm.r1.blk.1
         refine hK.out _ _ p2_1 (fun _=>?_)
         try simp only[uW,uX,uY,uZ]
         clear hK K
         refine zP rfl rfl (fun w'=>by go_simp<;>with_reducible rfl) ?_
         try simp only[uW,uX,uY,uZ]
         refine zC 129 rfl rfl (fun K hK=>?_)
         go_simp
         refine hK.out _ _ (zAb p2_1) (fun _=>?_)
         try simp only[uW,uX,uY,uZ]
         clear hK K
         refine zP rfl rfl (fun w'=>by go_simp<;>with_reducible rfl) ?_
         try simp only[uW,uX,uY,uZ]
         refine wpPlan_late (o:=⟨none,_,_,_,_,_⟩) rfl rfl (by decide) (fun K hK=>?_)
         have HFS1:=zh hfs
         obtain⟨V51,hW,x4,hN⟩:=zAc w51 #[.int .i64 (i:Int),.bool s51,.slice A51 l51 c51,.bool s51r,.slice A51r l51r c51r] 71
         rw[←hW]
         clear hW
         obtain⟨v4,hb4⟩:∃b,b=w51.heap.size:=⟨_,rfl⟩
         rw[←hb4] at x4 ⊢
         have o0_4:w.heap.size<v4:=by have:=(zx HX0 Bz).lt;omega
         have o1_4:w.heap.size+1<v4:=by have:=(zx HX1 Bz).lt;omega
         have o2_4:gf<v4:=by have:=(zx HX2 Bz).lt;omega
         have o3_4:bq<v4:=by have:=(zx HX3 Bz).lt;omega
         have ow_4:w.heap.size≤v4:=by have:=zw hB Bz;omega
         have oz_4:wr.heap.size≤v4:=by have:=Bz.size;omega
         have op_4:w51.heap.size≤v4:=by have:=Bz.size;omega
         replace hbb:=hbb.below hN
         replace hco:=hco.below hN
         replace hfs:=hfs.below hN
         replace hhi:=hhi.below hN
         replace h51:=h51.below hN
         replace hlo:=hlo.below hN
         replace hB:=zAa (zAa hB Bz) hN
         replace HX0:=zh ((zx HX0 Bz).below hN)
         replace HX1:=zh ((zx HX1 Bz).below hN)
         replace HX2:=zh ((zx HX2 Bz).below hN)
         replace HX3:=zh ((zx HX3 Bz).below hN)
         have HX4:=zh x4
         replace zs:wr.heap.size≤V51.heap.size:=by have:=Bz.size;have:=hN.size;omega
         have hNN:=hN
         clear x4 hN Bz hb4
         have Bz:=Below.refl V51.heap.size V51
         clear p2_1 p51_0 f51_0 y51
         have p2_1:=(zx HX2 Bz).cell 1 (.slice (some ⟨g1,0,none⟩) N N) rfl
         have p51_0:=vc_cell hfs.fm.r1 HY1.out
         have f51_0:=hfs.fm.r1.frozen ((vn:Int)+(i:Int)).toNat
         have y51:=hfs.fm.r1.blk.1
         go_simp
         refine hK.out _ _ ?_
         try simp only[Act.put,uX,uY,uZ]
         clear hK K
         have hrow:=OwnR.lit1 elt_vec HX4.out op_4 (⟨(i:Int),⟨s51,A51,c51,l51,s51r,A51r,c51r,l51r,(1:Rat),true⟩⟩:Tm) rfl
         obtain⟨V52,hV,hfs2,hg2⟩:=FS.put HFS1.out hNN (by have:=HFS1.out.blks.1;omega) HY1.out (x:=⟨some ⟨v4,0,none⟩,1,1,[⟨(i:Int),⟨s51,A51,c51,l51,s51r,A51r,c51r,l51r,(1:Rat),true⟩⟩]⟩) hrow (OnT.one (i:Int) h51 (by have:=sz_one';omega))
         clear hrow HFS1 hNN
         replace hcf:=Clr.set (i:=((vn:Int)+(i:Int)).toNat) hcf (x:=⟨some ⟨v4,0,none⟩,1,1,[⟨(i:Int),⟨s51,A51,c51,l51,s51r,A51r,c51r,l51r,(1:Rat),true⟩⟩]⟩) (ne_row (by omega))
         clear HX4
         clear hfs
         have hfs:=hfs2
         rw[←hV]
         clear hV
         replace hB:=(zAa hB Bz).trans (hg2.below (by have:=zw hB Bz;omega) (row_base (by omega)))
         replace zs:wr.heap.size≤V52.heap.size:=by have:=Bz.size;have:=hg2.size;omega
         replace HX0:=zh (hg2.bx (zx HX0 Bz) (ne_row (by omega)))
         replace HX1:=zh (hg2.bx (zx HX1 Bz) (ne_row (by omega)))
         replace HX2:=zh (hg2.bx (zx HX2 Bz) (ne_row (by omega)))
         replace HX3:=zh (hg2.bx (zx HX3 Bz) (ne_row (by omega)))
         replace hbb:=hbb.k hg2.k
         replace hco:=hco.k hg2.k
         replace hhi:=hhi.k hg2.k
         replace hlo:=hlo.k hg2.k
         replace hfs:=hfs2
         clear hfs2 hg2 Bz
         have Bz:=Below.refl V52.heap.size V52
         clear p2_1 p51_0 f51_0 y51
         obtain⟨p0_0,p0_1,p0_2,-⟩:=(zx HX0 Bz).cz
         obtain⟨-,p2_1,p2_2,p2_3,-⟩:=(zx HX2 Bz).cz
         obtain⟨p3_0,p3_1,p3_2,p3_3,p3_4,p3_5,-⟩:=(zx HX3 Bz).cz
         have p52_0:=fr_0 hfs.fm.r2 HY2.out
         have p52_1:=elt_frs.cell hfs.fm.r2 HY2.out (j:=1) (u:=.slice y2.A y2.l y2.c) (by omega) rfl
         have p52_2:=elt_frs.cell hfs.fm.r2 HY2.out (j:=2) (u:=.bool y2.s') (by omega) rfl
         have p52_3:=elt_frs.cell hfs.fm.r2 HY2.out (j:=3) (u:=.slice y2.A' y2.l' y2.c') (by omega) rfl
         have f52_0:=hfs.fm.r2.frozen (((vn:Int)+(i:Int)).toNat*4)
         have f52_1:=hfs.fm.r2.frozen (((vn:Int)+(i:Int)).toNat*4+1)
         have f52_2:=hfs.fm.r2.frozen (((vn:Int)+(i:Int)).toNat*4+2)
         have f52_3:=hfs.fm.r2.frozen (((vn:Int)+(i:Int)).toNat*4+3)
         have y52:=hfs.fm.r2.blk.1
         have p53_0:=fr_0 hfs.fm.r3 HY3.out
         have p53_1:=elt_frs.cell hfs.fm.r3 HY3.out (j:=1) (u:=.slice y3.A y3.l y3.c) (by omega) rfl
         have p53_2:=elt_frs.cell hfs.fm.r3 HY3.out (j:=2) (u:=.bool y3.s') (by omega) rfl
         have p53_3:=elt_frs.cell hfs.fm.r3 HY3.out (j:=3) (u:=.slice y3.A' y3.l' y3.c') (by omega) rfl
         have f53_0:=hfs.fm.r3.frozen (((vn:Int)+(i:Int)).toNat*4)
         have f53_1:=hfs.fm.r3.frozen (((vn:Int)+(i:Int)).toNat*4+1)
         have f53_2:=hfs.fm.r3.frozen (((vn:Int)+(i:Int)).toNat*4+2)
         have f53_3:=hfs.fm.r3.frozen (((vn:Int)+(i:Int)).toNat*4+3)
         have y53:=hfs.fm.r3.blk.1
         refine wpPlan_done ?_
         go_wp2_with fail
         (try simp only[List.append_eq,List.cons_append,List.nil_append])
         refine wp_region_plan (.pure 0 (.take 1 (.pure 2 (.pure 3 (.pure 4 (.pure 5 (.take 6 (.pure 7 (.pure 8 (.pure 9 (.take 10 (.take 11 (.only 12 (.pure 13 (.pure 14 (.pure 15 (.pure 16 (.only 17 (.pure 18 (.only 19 .done)))))))))))))))))))) [19] (fun w'=>w'.cell? ⟨w.heap.size,0,none⟩=some (.slice vA vn vc)∧w'.cell? ⟨w.heap.size,1,none⟩=some (.slice (some ⟨b,off,none⟩) rn rc)∧w'.cell? ⟨w.heap.size,2,none⟩=some (.slice cA cn cc)∧w'.cell? ⟨gf,2,none⟩=some (.slice (some ⟨g2,0,none⟩) N N)∧w'.cell? ⟨gf,3,none⟩=some (.slice (some ⟨g3,0,none⟩) N N)∧w'.cell? ⟨bq,0,none⟩=some (.slice xA xn xc)∧w'.cell? ⟨bq,1,none⟩=some (.int .u8 xk)∧w'.cell? ⟨bq,2,none⟩=some (.bool xb.s)∧w'.cell? ⟨bq,3,none⟩=some (.slice xb.A xb.l xb.c)∧w'.cell? ⟨bq,4,none⟩=some (.bool xb.s')∧w'.cell? ⟨bq,5,none⟩=some (.slice xb.A' xb.l' xb.c')) (by kernel_rfl) (by kernel_rfl) ⟨p0_0,p0_1,p0_2,p2_2,p2_3,p3_0,p3_1,p3_2,p3_3,p3_4,p3_5⟩ ?_
         refine zP rfl rfl (fun w'=>by go_simp<;>with_reducible rfl) ?_
         try simp only[uW,uX,uY,uZ]
         refine zT rfl rfl (fun w' ⟨p0_0,p0_1,p0_2,p2_2,p2_3,p3_0,p3_1,p3_2,p3_3,p3_4,p3_5⟩=>by go_simp<;>with_reducible rfl) ?_
         try simp only[uW,uX,uY,uZ]
         iterate 4 (refine zP rfl rfl (fun w'=>by go_simp<;>with_reducible rfl) ?_;try simp only[uW,uX,uY,uZ])
         refine zT rfl rfl (fun w' ⟨p0_0,p0_1,p0_2,p2_2,p2_3,p3_0,p3_1,p3_2,p3_3,p3_4,p3_5⟩=>by go_simp<;>with_reducible rfl) ?_
         try simp only[uW,uX,uY,uZ]
         iterate 3 (refine zP rfl rfl (fun w'=>by go_simp<;>with_reducible rfl) ?_;try simp only[uW,uX,uY,uZ])
         iterate 2 (refine zT rfl rfl (fun w' ⟨p0_0,p0_1,p0_2,p2_2,p2_3,p3_0,p3_1,p3_2,p3_3,p3_4,p3_5⟩=>by go_simp<;>with_reducible rfl) ?_;try simp only[uW,uX,uY,uZ])
         refine zC 144 rfl rfl (fun K hK=>?_)
         go_simp
         with_reducible refine(slack_q (p:=⟨vA,vn,vc,V,some ⟨b,off,none⟩,rn,rc,RR,cA,cn,cc,C⟩) (x:=⟨xA,xn,xc,xL,xk,xb⟩) (HP.out.below (zAa hB (zAa (b:=V52) Bz (by go_grown)))) (HRO.out.below (zAa hB (zAa (b:=V52) Bz (by go_grown)))) (by omega) HSK (zh (Tab.below hT.out (zAa hB (zAa (b:=V52) Bz (by go_grown)))))).mono ?_
         rintro e w52 ⟨u52,u52r,rfl,h52,h52r,b52⟩
         replace b52:=zAa (a:=V52) (by go_grown) b52
         replace hbb:=hbb.below b52
         replace hco:=hco.below b52
         replace hfs:=hfs.below b52
         replace hhi:=hhi.below b52
         replace hlo:=hlo.below b52
         replace Bz:=zAa Bz b52
         clear b52
         have hz0:sz (slackF V ⟨xA,xn,xc,xL,xk,xb⟩).1≤1+xn*(2*m+4)+m+2:=h52.2
         have hz1:sz (slackF V ⟨xA,xn,xc,xL,xk,xb⟩).2≤1+xn*(2*m+4)+m+2:=h52r.2
         clear p0_0 p0_1 p0_2 p2_1 p2_2 p2_3 p3_0 p3_1 p3_2 p3_3 p3_4 p3_5 p52_0 p52_1 p52_2 p52_3 f52_0 f52_1 f52_2 f52_3 y52 p53_0 p53_1 p53_2 p53_3 f53_0 f53_1 f53_2 f53_3 y53
         obtain⟨p0_0,p0_1,p0_2,-⟩:=(zx HX0 Bz).cz
         obtain⟨-,-,p2_2,p2_3,-⟩:=(zx HX2 Bz).cz
         obtain⟨p3_0,p3_1,p3_2,p3_3,p3_4,p3_5,-⟩:=(zx HX3 Bz).cz
         have p52_0:=fr_0 hfs.fm.r2 HY2.out
         have p52_1:=elt_frs.cell hfs.fm.r2 HY2.out (j:=1) (u:=.slice y2.A y2.l y2.c) (by omega) rfl
         have p52_2:=elt_frs.cell hfs.fm.r2 HY2.out (j:=2) (u:=.bool y2.s') (by omega) rfl
         have p52_3:=elt_frs.cell hfs.fm.r2 HY2.out (j:=3) (u:=.slice y2.A' y2.l' y2.c') (by omega) rfl
         have f52_0:=hfs.fm.r2.frozen (((vn:Int)+(i:Int)).toNat*4)
         have f52_1:=hfs.fm.r2.frozen (((vn:Int)+(i:Int)).toNat*4+1)
         have f52_2:=hfs.fm.r2.frozen (((vn:Int)+(i:Int)).toNat*4+2)
         have f52_3:=hfs.fm.r2.frozen (((vn:Int)+(i:Int)).toNat*4+3)
         have y52:=hfs.fm.r2.blk.1
         have p53_0:=fr_0 hfs.fm.r3 HY3.out
         have p53_1:=elt_frs.cell hfs.fm.r3 HY3.out (j:=1) (u:=.slice y3.A y3.l y3.c) (by omega) rfl
         have p53_2:=elt_frs.cell hfs.fm.r3 HY3.out (j:=2) (u:=.bool y3.s') (by omega) rfl
         have p53_3:=elt_frs.cell hfs.fm.r3 HY3.out (j:=3) (u:=.slice y3.A' y3.l' y3.c') (by omega) rfl
         have f53_0:=hfs.fm.r3.frozen (((vn:Int)+(i:Int)).toNat*4)
         have f53_1:=hfs.fm.r3.frozen (((vn:Int)+(i:Int)).toNat*4+1)
         have f53_2:=hfs.fm.r3.frozen (((vn:Int)+(i:Int)).toNat*4+2)
         have f53_3:=hfs.fm.r3.frozen (((vn:Int)+(i:Int)).toNat*4+3)
         have y53:=hfs.fm.r3.blk.1
         refine hK.out _ _ ⟨p0_0,p0_1,p0_2,p2_2,p2_3,p3_0,p3_1,p3_2,p3_3,p3_4,p3_5⟩ (fun _=>?_)
         try simp only[uW,uX,uY,uZ]
         clear hK K
         iterate 4 (refine zP rfl rfl (fun w'=>by go_simp<;>with_reducible rfl) ?_;try simp only[uW,uX,uY,uZ])
         refine wpPlan_call (o:=⟨none,_,_,_,_,_⟩) rfl rfl (fun K hK=>?_)
         go_simp
         obtain⟨V53,hV,hfs2,hg2⟩:=FS.lo hfs HY2.out ⟨u52.s,u52.A,u52.c,u52.l,u52.s',u52.A',u52.c',u52.l',(slackF V ⟨xA,xn,xc,xL,xk,xb⟩).1,true⟩
         rw[←hV]
         clear hV
         replace hB:=(zAa hB Bz).trans (hg2.below (by have:=zw hB Bz;omega) (row_base (by omega)))
         replace zs:wr.heap.size≤V53.heap.size:=by have:=Bz.size;have:=hg2.size;omega
         replace HX0:=zh (hg2.bx (zx HX0 Bz) (ne_row (by omega)))
         replace HX1:=zh (hg2.bx (zx HX1 Bz) (ne_row (by omega)))
         replace HX2:=zh (hg2.bx (zx HX2 Bz) (ne_row (by omega)))
         replace HX3:=zh (hg2.bx (zx HX3 Bz) (ne_row (by omega)))
         replace hbb:=hbb.k hg2.k
         replace hco:=hco.k hg2.k
         replace hhi:=hhi.k hg2.k
         replace h52:=h52.k hg2.k
         replace h52r:=h52r.k hg2.k
         replace hlo:=hlo.k hg2.k
         replace hfs:=hfs2
         clear hfs2 hg2 Bz
         have Bz:=Below.refl V53.heap.size V53
         clear p0_0 p0_1 p0_2 p2_2 p2_3 p3_0 p3_1 p3_2 p3_3 p3_4 p3_5 p52_0 p52_1 p52_2 p52_3 f52_0 f52_1 f52_2 f52_3 y52 p53_0 p53_1 p53_2 p53_3 f53_0 f53_1 f53_2 f53_3 y53
         obtain⟨p0_0,p0_1,p0_2,-⟩:=(zx HX0 Bz).cz
         obtain⟨-,-,p2_2,p2_3,-⟩:=(zx HX2 Bz).cz
         obtain⟨p3_0,p3_1,p3_2,p3_3,p3_4,p3_5,-⟩:=(zx HX3 Bz).cz
         have p53_0:=fr_0 hfs.fm.r3 HY3.out
         have p53_1:=elt_frs.cell hfs.fm.r3 HY3.out (j:=1) (u:=.slice y3.A y3.l y3.c) (by omega) rfl
         have p53_2:=elt_frs.cell hfs.fm.r3 HY3.out (j:=2) (u:=.bool y3.s') (by omega) rfl
         have p53_3:=elt_frs.cell hfs.fm.r3 HY3.out (j:=3) (u:=.slice y3.A' y3.l' y3.c') (by omega) rfl
         have f53_0:=hfs.fm.r3.frozen (((vn:Int)+(i:Int)).toNat*4)
         have f53_1:=hfs.fm.r3.frozen (((vn:Int)+(i:Int)).toNat*4+1)
         have f53_2:=hfs.fm.r3.frozen (((vn:Int)+(i:Int)).toNat*4+2)
         have f53_3:=hfs.fm.r3.frozen (((vn:Int)+(i:Int)).toNat*4+3)
         have y53:=hfs.fm.r3.blk.1
         refine hK.out _ _ ⟨p0_0,p0_1,p0_2,p2_2,p2_3,p3_0,p3_1,p3_2,p3_3,p3_4,p3_5⟩ (fun _=>?_)
         try simp only[Act.put,uX,uY,uZ]
         clear hK K
         refine zP rfl rfl (fun w'=>by go_simp<;>with_reducible rfl) ?_
         try simp only[uW,uX,uY,uZ]
         refine wpPlan_late (o:=⟨none,_,_,_,_,_⟩) rfl rfl (by decide) (fun K hK=>?_)
         go_simp
         refine hK.out _ _ ?_
         try simp only[Act.put,uX,uY,uZ]
         clear hK K
         obtain⟨V54,hV,hfs2,hg2⟩:=FS.hi hfs HY3.out ⟨u52r.s,u52r.A,u52r.c,u52r.l,u52r.s',u52r.A',u52r.c',u52r.l',(slackF V ⟨xA,xn,xc,xL,xk,xb⟩).2,true⟩
         rw[←hV]
         clear hV
         replace hB:=(zAa hB Bz).trans (hg2.below (by have:=zw hB Bz;omega) (row_base (by omega)))
         replace zs:wr.heap.size≤V54.heap.size:=by have:=Bz.size;have:=hg2.size;omega
         replace HX0:=zh (hg2.bx (zx HX0 Bz) (ne_row (by omega)))
         replace HX1:=zh (hg2.bx (zx HX1 Bz) (ne_row (by omega)))
         replace HX2:=zh (hg2.bx (zx HX2 Bz) (ne_row (by omega)))
         replace HX3:=zh (hg2.bx (zx HX3 Bz) (ne_row (by omega)))
         replace hbb:=hbb.k hg2.k
         replace hco:=hco.k hg2.k
         replace hhi:=hhi.k hg2.k
         replace h52:=h52.k hg2.k
         replace h52r:=h52r.k hg2.k
         replace hlo:=hlo.k hg2.k
         replace hfs:=hfs2
         clear hfs2 hg2 Bz
         have Bz:=Below.refl V54.heap.size V54
         clear p0_0 p0_1 p0_2 p2_2 p2_3 p3_0 p3_1 p3_2 p3_3 p3_4 p3_5 p53_0 p53_1 p53_2 p53_3 f53_0 f53_1 f53_2 f53_3 y53
         obtain⟨p0_0,p0_1,p0_2,-⟩:=(zx HX0 Bz).cz
         obtain⟨-,-,p2_2,p2_3,-,p2_5,-⟩:=(zx HX2 Bz).cz
         obtain⟨p3_0,p3_1,p3_2,p3_3,p3_4,p3_5,-⟩:=(zx HX3 Bz).cz
         have p54_0:=fr_0 hfs.fm.r5 HY5.out
         have p54_1:=elt_frs.cell hfs.fm.r5 HY5.out (j:=1) (u:=.slice y5.A y5.l y5.c) (by omega) rfl
         have p54_2:=elt_frs.cell hfs.fm.r5 HY5.out (j:=2) (u:=.bool y5.s') (by omega) rfl
         have p54_3:=elt_frs.cell hfs.fm.r5 HY5.out (j:=3) (u:=.slice y5.A' y5.l' y5.c') (by omega) rfl
         have f54_0:=hfs.fm.r5.frozen (i*4)
         have f54_1:=hfs.fm.r5.frozen (i*4+1)
         have f54_2:=hfs.fm.r5.frozen (i*4+2)
         have f54_3:=hfs.fm.r5.frozen (i*4+3)
         have y54:=hfs.fm.r5.blk.1
         refine wpPlan_done ?_
         go_wp2_with fail
         (try simp only[List.append_eq,List.cons_append,List.nil_append])
         refine wp_region_plan (.pure 0 (.take 1 (.pure 2 (.pure 3 (.take 4 (.only 5 (.pure 6 (.only 7 .done)))))))) [7] (fun w'=>w'.cell? ⟨gf,5,none⟩=some (.slice (some ⟨g5,0,none⟩) rn rn)∧w'.cell? ⟨bq,2,none⟩=some (.bool xb.s)∧w'.cell? ⟨bq,3,none⟩=some (.slice xb.A xb.l xb.c)∧w'.cell? ⟨bq,4,none⟩=some (.bool xb.s')∧w'.cell? ⟨bq,5,none⟩=some (.slice xb.A' xb.l' xb.c')) (by kernel_rfl) (by kernel_rfl) ⟨p2_5,p3_2,p3_3,p3_4,p3_5⟩ ?_
         refine zP rfl rfl (fun w'=>by go_simp<;>with_reducible rfl) ?_
         try simp only[uW,uX,uY,uZ]
         refine zT rfl rfl (fun w' ⟨p2_5,p3_2,p3_3,p3_4,p3_5⟩=>by go_simp<;>with_reducible rfl) ?_
         try simp only[uW,uX,uY,uZ]
         iterate 2 (refine zP rfl rfl (fun w'=>by go_simp<;>with_reducible rfl) ?_;try simp only[uW,uX,uY,uZ])
         refine zT rfl rfl (fun w' ⟨p2_5,p3_2,p3_3,p3_4,p3_5⟩=>by go_simp<;>with_reducible rfl) ?_
         try simp only[uW,uX,uY,uZ]
         refine zC 154 rfl rfl (fun K hK=>?_)
         go_simp
         with_reducible refine(norm_q (FrOk.below HRO.out.b (zAa hB (zAa (b:=V54) Bz (by go_grown)))).r (by omega) (zh (Tab.below hT.out (zAa hB (zAa (b:=V54) Bz (by go_grown)))))).mono ?_
         rintro e w53 ⟨s53,A53,c53,l53,s53r,A53r,c53r,l53r,rfl,h53,b53⟩
         replace b53:=zAa (a:=V54) (by go_grown) b53
         replace hbb:=hbb.below b53
         replace hco:=hco.below b53
         replace hfs:=hfs.below b53
         replace hhi:=hhi.below b53
         replace h52:=h52.below b53
         replace h52r:=h52r.below b53
         replace hlo:=hlo.below b53
         replace Bz:=zAa Bz b53
         clear b53
         clear p0_0 p0_1 p0_2 p2_2 p2_3 p2_5 p3_0 p3_1 p3_2 p3_3 p3_4 p3_5 p54_0 p54_1 p54_2 p54_3 f54_0 f54_1 f54_2 f54_3 y54
         have p2_5:=(zx HX2 Bz).cell 5 (.slice (some ⟨g5,0,none⟩) rn rn) rfl
         obtain⟨-,-,p3_2,p3_3,p3_4,p3_5,-⟩:=(zx HX3 Bz).cz
         have p54_0:=fr_0 hfs.fm.r5 HY5.out
         have p54_1:=elt_frs.cell hfs.fm.r5 HY5.out (j:=1) (u:=.slice y5.A y5.l y5.c) (by omega) rfl
         have p54_2:=elt_frs.cell hfs.fm.r5 HY5.out (j:=2) (u:=.bool y5.s') (by omega) rfl
         have p54_3:=elt_frs.cell hfs.fm.r5 HY5.out (j:=3) (u:=.slice y5.A' y5.l' y5.c') (by omega) rfl
         have f54_0:=hfs.fm.r5.frozen (i*4)
         have f54_1:=hfs.fm.r5.frozen (i*4+1)
         have f54_2:=hfs.fm.r5.frozen (i*4+2)
         have f54_3:=hfs.fm.r5.frozen (i*4+3)
         have y54:=hfs.fm.r5.blk.1
         refine hK.out _ _ ⟨p2_5,p3_2,p3_3,p3_4,p3_5⟩ (fun _=>?_)
         try simp only[uW,uX,uY,uZ]
         clear hK K
         refine zP rfl rfl (fun w'=>by go_simp<;>with_reducible rfl) ?_
         try simp only[uW,uX,uY,uZ]
         refine wpPlan_late (o:=⟨none,_,_,_,_,_⟩) rfl rfl (by decide) (fun K hK=>?_)
         go_simp
         refine hK.out _ _ ?_
         try simp only[Act.put,uX,uY,uZ]
         clear hK K
         obtain⟨V55,hV,hfs2,hg2⟩:=FS.bb hfs HY5.out ⟨s53,A53,c53,l53,s53r,A53r,c53r,l53r,xb.q,true⟩
         rw[←hV]
         clear hV
         replace hB:=(zAa hB Bz).trans (hg2.below (by have:=zw hB Bz;omega) (row_base (by omega)))
         replace zs:wr.heap.size≤V55.heap.size:=by have:=Bz.size;have:=hg2.size;omega
         replace HX0:=zh (hg2.bx (zx HX0 Bz) (ne_row (by omega)))
         replace HX1:=zh (hg2.bx (zx HX1 Bz) (ne_row (by omega)))
         replace HX2:=zh (hg2.bx (zx HX2 Bz) (ne_row (by omega)))
         replace HX3:=zh (hg2.bx (zx HX3 Bz) (ne_row (by omega)))
         replace hbb:=hbb.k hg2.k
         replace hco:=hco.k hg2.k
         replace hhi:=hhi.k hg2.k
         replace h52:=h52.k hg2.k
         replace h52r:=h52r.k hg2.k
         replace h53:=h53.k hg2.k
         replace hlo:=hlo.k hg2.k
         replace hfs:=hfs2
         clear hfs2 hg2 Bz
         have Bz:=Below.refl V55.heap.size V55
         clear p2_5 p3_2 p3_3 p3_4 p3_5 p54_0 p54_1 p54_2 p54_3 f54_0 f54_1 f54_2 f54_3 y54
         have p2_5:=(zx HX2 Bz).cell 5 (.slice (some ⟨g5,0,none⟩) rn rn) rfl
         obtain⟨-,-,p3_2,p3_3,p3_4,p3_5,-⟩:=(zx HX3 Bz).cz
         refine wpPlan_done ?_
         go_wp2_with fail
         go_roundg (rn-(i+1))
         case measure=>have:=HGK.out;omega
         case rel=>exact⟨i+1,_,_,_,_,_,by omega,rfl,by go_num,⟨HX0.out.below (zAa Bz (by go_grown)),HX1.out.below (zAa Bz (by go_grown)),HX2.out.below (zAa Bz (by go_grown)),zAa (zAa hB Bz) (by go_grown)⟩,FS.below hfs (by go_grown),HCE.out _ _ _ _ _ _ _ _ _,hcf,NumsF.below (NumsF.set hlo (x:=⟨u52.s,u52.A,u52.c,u52.l,u52.s',u52.A',u52.c',u52.l',(slackF V ⟨xA,xn,xc,xL,xk,xb⟩).1,true⟩) ⟨(h52).1,rfl,by show sz (slackF V ⟨xA,xn,xc,xL,xk,xb⟩).1+1≤KD;have:=HSD.out;omega⟩ (by rw[HQ.out];exact loF_row HRI.out HVL.out.symm) (fun j hj=>loF_rne HVL.out.symm (by have:=HQ.out;omega))) (by go_grown),NumsF.below (NumsF.set hhi (x:=⟨u52r.s,u52r.A,u52r.c,u52r.l,u52r.s',u52r.A',u52r.c',u52r.l',(slackF V ⟨xA,xn,xc,xL,xk,xb⟩).2,true⟩) ⟨(h52r).1,rfl,by show sz (slackF V ⟨xA,xn,xc,xL,xk,xb⟩).2+1≤KD;have:=HSD.out;omega⟩ (by rw[HQ.out];exact hiF_row HRI.out HVL.out.symm) (fun j hj=>hiF_rne HVL.out.symm (by have:=HQ.out;omega))) (by go_grown),NumsF.below hco (by go_grown),NumsF.below (NumsF.set hbb (x:=⟨s53,A53,c53,l53,s53r,A53r,c53r,l53r,xb.q,true⟩) ⟨h53,rfl,by show sz xb.q+1≤KD;have:sz xb.q≤max m 1:=R.sz HRO.out.b.r;omega⟩ (bbF_at HRI.out) (fun j hj=>bbF_ne hj)) (by go_grown)⟩
      ·obtain rfl:i=rn:=by omega
       obtain⟨rn,hrn0⟩:∃rn,rn=i:=⟨_,rfl⟩
       subst hrn0
       have i1:¬(rn:Int)<(rn:Int):=by omega
       have HCL:Hid (ColsF CV vn (frmE RR rn) rn (rn*2000001+1)):=HCE0
       have zs:=Nat.le_refl wr.heap.size
       have Bz:=Below.refl wr.heap.size wr
       obtain⟨p1_0,p1_1,p1_2,p1_3,p1_4,p1_5,-⟩:=(zx HX1 Bz).cz
       have f1_0:=(zx HX1 Bz).frozen 0
       have f1_1:=(zx HX1 Bz).frozen 1
       have f1_2:=(zx HX1 Bz).frozen 2
       have f1_3:=(zx HX1 Bz).frozen 3
       have f1_4:=(zx HX1 Bz).frozen 4
       have f1_5:=(zx HX1 Bz).frozen 5
       have y1:=(zx HX1 Bz).lt
       obtain⟨p2_0,p2_1,p2_2,p2_3,p2_4,p2_5,-⟩:=(zx HX2 Bz).cz
       go_wp2_with fail
       (try simp only[Exit.inBlock,Exit.then])
       refine bodyPost_ret (by simp[results,Tryz.results11,go_sem,p1_0,p1_1,p1_2,p1_3,p1_4,p1_5];try rfl) rfl ?_
       obtain⟨V61,hW,x,kk,far,bel⟩:=st6_0_6 (.int .i64 (rn:Int)) (.slice (some ⟨g1,0,none⟩) N N) (.slice (some ⟨g2,0,none⟩) N N) (.slice (some ⟨g3,0,none⟩) N N) (.slice (some ⟨g4,0,none⟩) N N) (.slice (some ⟨g5,0,none⟩) rn rn) (zx HX1 Bz) nofun nofun nofun nofun nofun nofun
       rw[←hW]
       clear hW
       replace hbb:=hbb.k kk
       replace hco:=hco.k kk
       replace hfs:=hfs.away kk far (by omega)
       replace hhi:=hhi.k kk
       replace hlo:=hlo.k kk
       replace hB:=bel w.heap.size w (by omega) (zAa hB Bz)
       replace HX0:=zh (far _ _ _ (by omega) (zx HX0 Bz))
       replace HX2:=zh (far _ _ _ (by omega) (zx HX2 Bz))
       replace HX1:=zh x
       clear x kk far bel Bz
       have Bz:=Below.refl V61.heap.size V61
       have hF:=zAa (c:=V61) hB Bz
       exact⟨g1,g2,g3,g4,g5,_,_,_,_,_,rfl,(FS.below hfs (by go_grown)).rebase (by omega),HCL.out,NumsF.below hlo (by go_grown),NumsF.below hhi (by go_grown),NumsF.below hco (by go_grown),NumsF.below hbb (by go_grown),zAa hF (by go_grown)⟩
end Go.Proofs.YtjkgjiofmgapfaaGreatDoor
