/-
  tripwireref04.Make, Of; tripwireref05.Get, Places. Written by wip/gen/pl.py.
-/
import Derived.Test.YtljjgfmeaejnfaaGreatDoorYMx2
import Derived.Test.YtljjgfmeaejnfaaGreatDoorYRf
import Derived.Test.YtljjgfmeaejnfaaGreatDoorYSo5
set_option maxHeartbeats 16000000
set_option maxRecDepth 100000
namespace Go.Proofs.YtljjgfmeaejnfaaGreatDoor
open Go.RowKit Tw
theorem make_r4 {w:World} {s s':Bool} {A A':Option Addr} {l c l' c':Nat} {n d:Int} (hn:I w s A c l n) (hd:I w s' A' c' l' d) (hl:l≤900) (hl':l'≤900) (hd0:0<d) :
  Calls Tryz.prog 135 #[.agg #[.bool s,.slice A l c],.agg #[.bool s',.slice A' l' c']] w (TellsR w (qof n d)):=by
 have HS:Hid (d.sign=1):=zh (Int.sign_eq_one_of_pos hd0)
 obtain⟨W,hW,x0,x1,x2,hB⟩:=boxes3 w #[.bool s,.slice A l c] 48 #[.bool s',.slice A' l' c'] 48 #[.bool false,.slice none 0 0,.bool false,.slice none 0 0] 50
 replace hd:=hd.below hB
 replace hn:=hn.below hB
 have HX0:=zh x0
 have HX1:=zh x1
 have HX2:=zh x2
 clear x0 x1 x2
 have Bz:=Below.refl W.heap.size W
 obtain⟨p1_0,p1_1,-⟩:=(zxb HX1 Bz).cz
 go_enter Tryz.func135,Tryz.ntmps135
 go_wp2_with fail
 rw[←hW]
 clear hW
 go_wp2_with fail
 with_reducible refine(sign_r (I.below hd (by go_grown)) (by omega) 1 HS.out).mono ?_
 rintro e w1 ⟨rfl,b1⟩
 replace b1:=zAa (a:=W) (by go_grown) b1
 replace hd:=hd.below b1
 replace hn:=hn.below b1
 replace Bz:=zAa Bz b1
 clear b1
 clear p1_0 p1_1
 obtain⟨p0_0,p0_1,-⟩:=(zxb HX0 Bz).cz
 obtain⟨p1_0,p1_1,-⟩:=(zxb HX1 Bz).cz
 go_wp2_with fail
 with_reducible refine(lowest_r (I.below hn (by go_grown)) (I.below hd (by go_grown)) (by omega) (by omega) hd0).mono ?_
 rintro e w2 ⟨s2,A2,c2,l2,s2r,A2r,c2r,l2r,rfl,h2,b2⟩
 replace b2:=zAa (a:=w1) (by go_grown) b2
 replace Bz:=zAa Bz b2
 clear b2
 clear p0_0 p0_1 p1_0 p1_1
 obtain⟨p2_0,p2_1,p2_2,p2_3,-⟩:=(zxb HX2 Bz).cz
 have f2_0:=(zxb HX2 Bz).frozen 0
 have f2_1:=(zxb HX2 Bz).frozen 1
 have f2_2:=(zxb HX2 Bz).frozen 2
 have f2_3:=(zxb HX2 Bz).frozen 3
 have y2:=(zxb HX2 Bz).lt
 go_wp2_with fail
 have q2_0:w2.cell? ⟨w.heap.size+2,0,none⟩=some (.bool false):=p2_0
 have q2_1:w2.cell? ⟨w.heap.size+2,1,none⟩=some (.slice none 0 0):=p2_1
 have q2_2:w2.cell? ⟨w.heap.size+2,2,none⟩=some (.bool false):=p2_2
 have q2_3:w2.cell? ⟨w.heap.size+2,3,none⟩=some (.slice none 0 0):=p2_3
 (try simp only[Exit.inBlock,Exit.then])
 refine bodyPost_ret (by simp[results,Tryz.results135,go_sem,q2_0,q2_1,q2_2,q2_3];try rfl) rfl ?_
 obtain⟨V1,hW,x,kk,far,bel⟩:=store4 (.bool s2) (.slice A2 l2 c2) (.bool s2r) (.slice A2r l2r c2r) (zxb HX2 Bz) nofun nofun nofun nofun
 rw[←hW]
 clear hW
 replace h2:=h2.k kk
 replace hB:=bel w.heap.size w (by omega) (zAa hB Bz)
 replace HX0:=zh (far _ _ _ (by omega) (zxb HX0 Bz))
 replace HX1:=zh (far _ _ _ (by omega) (zxb HX1 Bz))
 replace HX2:=zh x
 clear x kk far bel Bz
 have Bz:=Below.refl V1.heap.size V1
 have hF:=zAa (c:=V1) hB Bz
 exact⟨s2,A2,c2,l2,s2r,A2r,c2r,l2r,rfl,(RN.below h2 (by go_grown)),zAa hF (by go_grown)⟩
theorem of_r4 {w:World} (n d:Int) (hn:Hid (-9223372036854775808≤n∧n≤9223372036854775807)) (hd:Hid (-9223372036854775808≤d∧d≤9223372036854775807)) (hd0:0<d) :
  Calls Tryz.prog 94 #[.int .i64 n,.int .i64 d] w (TellsR w (qof n d)):=by
 obtain⟨W,hW,x0,hB⟩:=zAe w #[.bool false,.slice none 0 0,.bool false,.slice none 0 0] 50
 have HX0:=zh x0
 clear x0
 have Bz:=Below.refl W.heap.size W
 go_enter Tryz.func94,Tryz.ntmps94
 go_wp2_with fail
 rw[←hW]
 clear hW
 go_wp2_with fail
 with_reducible refine(ofq n hn).mono ?_
 rintro e w1 ⟨s1,A1,c1,l1,rfl,h1,m1,b1⟩
 replace b1:=zAa (a:=W) (by go_grown) b1
 replace Bz:=zAa Bz b1
 clear b1
 go_wp2_with fail
 with_reducible refine(ofq d hd).mono ?_
 rintro e w2 ⟨s2,A2,c2,l2,rfl,h2,m2,b2⟩
 replace b2:=zAa (a:=w1) (by go_grown) b2
 replace h1:=h1.below b2
 replace Bz:=zAa Bz b2
 clear b2
 go_wp2_with fail
 with_reducible refine(make_r4 (I.below h1.i (by go_grown)) (I.below h2.i (by go_grown)) (by omega) (by omega) hd0).mono ?_
 rintro e w3 ⟨s3,A3,c3,l3,s3r,A3r,c3r,l3r,rfl,h3,b3⟩
 replace b3:=zAa (a:=w2) (by go_grown) b3
 replace Bz:=zAa Bz b3
 clear b3
 obtain⟨p0_0,p0_1,p0_2,p0_3,-⟩:=(zxb HX0 Bz).cz
 have f0_0:=(zxb HX0 Bz).frozen 0
 have f0_1:=(zxb HX0 Bz).frozen 1
 have f0_2:=(zxb HX0 Bz).frozen 2
 have f0_3:=(zxb HX0 Bz).frozen 3
 have y0:=(zxb HX0 Bz).lt
 go_wp2_with fail
 (try simp only[Exit.inBlock,Exit.then])
 refine bodyPost_ret (by simp[results,Tryz.results94,go_sem,p0_0,p0_1,p0_2,p0_3];try rfl) rfl ?_
 obtain⟨V1,hW,x,kk,far,bel⟩:=store4 (.bool s3) (.slice A3 l3 c3) (.bool s3r) (.slice A3r l3r c3r) (zxb HX0 Bz) nofun nofun nofun nofun
 rw[←hW]
 clear hW
 replace h3:=h3.k kk
 replace hB:=bel w.heap.size w (by omega) (zAa hB Bz)
 replace HX0:=zh x
 clear x kk far bel Bz
 have Bz:=Below.refl V1.heap.size V1
 have hF:=zAa (c:=V1) hB Bz
 exact⟨s3,A3,c3,l3,s3r,A3r,c3r,l3r,rfl,(RN.below h3 (by go_grown)),zAa hF (by go_grown)⟩
theorem getR_q {w:World} {A:Option Addr} {n c M:Nat} {P:List (Int×Rat)} (at_:Int) (h:GV w A n c P M) (hM:M≤890) (hn:n≤1000000) :
  Calls Tryz.prog 38 #[.slice A n c,.int .i64 at_] w (TellsR w (pget P at_)):=by
 obtain⟨L,h1,h2,rfl,h4,h5⟩:=h
 have HS:=zh h1
 have HLN:=zh h1.1
 have HOK:=zh h2
 have HWS:=zh h4
 clear h1 h2 h4 h5
 obtain⟨W,hW,x0,x1,hB⟩:=boxes2 w #[.bool false,.slice none 0 0,.bool false,.slice none 0 0] 50 #[.bool false,.slice none 0 0,.bool false,.slice none 0 0] 50
 have HX0:=zh x0
 have HX1:=zh x1
 clear x0 x1
 have Bz:=Below.refl W.heap.size W
 go_enter Tryz.func38,Tryz.ntmps38
 go_wp2_with fail
 rw[←hW]
 clear hW
 go_wp2_with fail
 have HB1:=zh (zAa hB Bz)
 have XX0:=zh (zxb HX0 Bz)
 have XX1:=zh (zxb HX1 Bz)
 clear hB Bz HX0 HX1
 go_loopg [6] n (fun gk s wr=>GT1 w L at_ n gk s wr)
 case atStart=>exact⟨0,_,_,_,_,_,_,_,_,Nat.zero_le _,rfl,rfl,RN.zero _,XX0.out,XX1.out,HB1.out⟩
 case round =>
  clear HB1 XX0 XX1
  obtain⟨i,sS,sA,sc,sl,sS',sA',sc',sl',hi,hgk,rfl,hs,hx0,hx1,hB⟩:=hrel
  have HGK:=zh hgk
  have HX0:=zh hx0
  have HX1:=zh hx1
  clear hgk hx0 hx1
  by_cases hlt:i<n
  ·obtain⟨b,off,rfl,hel⟩:=HS.out.at Tm.cs_len (by omega) (by omega)
   obtain⟨x,hx⟩:∃x,L[i]?=some x:=⟨L[i]'(by rw[HLN.out];exact hlt),List.getElem?_eq_getElem _⟩
   have hnd:=hel i x hx
   have hfx:=HOK.out x (List.mem_of_getElem? hx)
   have hrx:R wr x.x.s x.x.A x.x.c x.x.l x.x.s' x.x.A' x.x.c' x.x.l' x.x.q (dgT x):=(hfx.below hB).r
   have hss:sz (pget (prs (L.take i)) at_)≤wsum (L.take i) at_+1:=get_sz (fun t ht=>HOK.out t (List.mem_of_mem_take ht)) at_
   have hws:wsum (L.take i) at_+(if x.at_=at_ then dgT x+2 else 0)≤M:=by rw[←wsum_snoc hx];exact Nat.le_trans (wsum_take_le L (i+1) at_) (HWS.out at_)
   have hpt:=pget_take hx at_
   have i1:(i:Int)<(n:Int):=by omega
   have i2:(0:Int)≤(i:Int):=by omega
   clear hel hx hfx
   by_cases hq:x.at_=at_
   ·have g1:(x.at_==at_)=true:=by simpa using hq
    have HSM:Hid (pget (prs (L.take i)) at_+x.x.q=pget (prs (L.take (i+1))) at_):=zh (by rw[hpt,if_pos hq])
    rw[if_pos hq] at hws
    clear hpt hq
    have Bz:=Below.refl wr.heap.size wr
    obtain⟨p1_0,p1_1,p1_2,p1_3,-⟩:=(zxb HX1 Bz).cz
    have f1_0:=(zxb HX1 Bz).frozen 0
    have f1_1:=(zxb HX1 Bz).frozen 1
    have f1_2:=(zxb HX1 Bz).frozen 2
    have f1_3:=(zxb HX1 Bz).frozen 3
    have y1:=(zxb HX1 Bz).lt
    obtain⟨p50_0,p50_1,p50_2,p50_3,p50_4,-⟩:=(hnd.below (zAa hB Bz)).ez
    go_wp2_with fail
    (try simp only[List.append_eq,List.cons_append,List.nil_append])
    refine zAb (.take 0 (.pure 1 (.pure 2 (.pure 3 (.pure 4 (.take 5 (.only 6 (.only 7 .done)))))))) [7] (fun w'=>w'.cell? ⟨(w.heap.size+1),0,none⟩=some (.bool sS)∧w'.cell? ⟨(w.heap.size+1),1,none⟩=some (.slice sA sl sc)∧w'.cell? ⟨(w.heap.size+1),2,none⟩=some (.bool sS')∧w'.cell? ⟨(w.heap.size+1),3,none⟩=some (.slice sA' sl' sc')∧w'.cell? ⟨b,off+i*5+1,none⟩=some (.bool x.x.s)∧w'.cell? ⟨b,off+i*5+2,none⟩=some (.slice x.x.A x.x.l x.x.c)∧w'.cell? ⟨b,off+i*5+3,none⟩=some (.bool x.x.s')∧w'.cell? ⟨b,off+i*5+4,none⟩=some (.slice x.x.A' x.x.l' x.x.c')) (by kernel_rfl) (by kernel_rfl) ⟨p1_0,p1_1,p1_2,p1_3,p50_1,p50_2,p50_3,p50_4⟩ ?_
    refine zT rfl rfl (fun w' ⟨p1_0,p1_1,p1_2,p1_3,p50_1,p50_2,p50_3,p50_4⟩=>by go_simp<;>with_reducible rfl) ?_
    try simp only[uW,uX,uY,uZ]
    iterate 4 (refine zP rfl rfl (fun w'=>by go_simp<;>with_reducible rfl) ?_;try simp only[uW,uX,uY,uZ])
    refine zT rfl rfl (fun w' ⟨p1_0,p1_1,p1_2,p1_3,p50_1,p50_2,p50_3,p50_4⟩=>by go_simp<;>with_reducible rfl) ?_
    try simp only[uW,uX,uY,uZ]
    refine zC 26 rfl rfl (fun K hK=>?_)
    go_simp
    with_reducible refine(add_r4 (R.below hs.r (by go_grown)) (R.below hrx (by go_grown)) (by omega)).mono ?_
    rintro e w1 ⟨s1,A1,c1,l1,s1r,A1r,c1r,l1r,rfl,h1,b1⟩
    replace b1:=zAa (a:=wr) (by go_grown) b1
    replace Bz:=zAa Bz b1
    clear b1
    clear p1_0 p1_1 p1_2 p1_3 f1_0 f1_1 f1_2 f1_3 y1 p50_0 p50_1 p50_2 p50_3 p50_4
    obtain⟨p1_0,p1_1,p1_2,p1_3,-⟩:=(zxb HX1 Bz).cz
    have f1_0:=(zxb HX1 Bz).frozen 0
    have f1_1:=(zxb HX1 Bz).frozen 1
    have f1_2:=(zxb HX1 Bz).frozen 2
    have f1_3:=(zxb HX1 Bz).frozen 3
    have y1:=(zxb HX1 Bz).lt
    obtain⟨-,p50_1,p50_2,p50_3,p50_4,-⟩:=(hnd.below (zAa hB Bz)).ez
    refine hK.out _ _ ⟨p1_0,p1_1,p1_2,p1_3,p50_1,p50_2,p50_3,p50_4⟩ (fun _=>?_)
    try simp only[uW,uX,uY,uZ]
    clear hK K
    refine zAf (o:=⟨none,_,_,_,_,_⟩) rfl rfl (by decide) (fun K hK=>?_)
    go_simp
    refine hK.out _ _ ?_
    try simp only[Act.put,uX,uY,uZ]
    clear hK K
    refine zAc ?_
    obtain⟨V1,hW,x,kk,far,bel⟩:=store4 (.bool s1) (.slice A1 l1 c1) (.bool s1r) (.slice A1r l1r c1r) (zxb HX1 Bz) nofun nofun nofun nofun
    rw[←hW]
    clear hW
    replace h1:=h1.k kk
    replace hB:=bel w.heap.size w (by omega) (zAa hB Bz)
    replace HX0:=zh (far _ _ _ (by omega) (zxb HX0 Bz))
    replace HX1:=zh x
    clear x kk far bel Bz
    have Bz:=Below.refl V1.heap.size V1
    clear p1_0 p1_1 p1_2 p1_3 f1_0 f1_1 f1_2 f1_3 y1 p50_1 p50_2 p50_3 p50_4
    go_wp2_with fail
    go_roundg (n-(i+1))
    case measure=>have:=HGK.out;omega
    case rel=>exact⟨i+1,_,_,_,_,_,_,_,_,by omega,rfl,by go_num,by rw[←HSM.out];exact RN.below h1 (by go_grown),HX0.out.below (zAa Bz (by go_grown)),HX1.out.below (zAa Bz (by go_grown)),zAa (zAa hB Bz) (by go_grown)⟩
   ·have g1:(x.at_==at_)=false:=by simpa using hq
    have HSM:Hid (pget (prs (L.take i)) at_=pget (prs (L.take (i+1))) at_):=zh (by rw[hpt,if_neg hq,Rat.add_zero])
    clear hpt hq hws
    have Bz:=Below.refl wr.heap.size wr
    have p50_0:=(hnd.below (zAa hB Bz)).c0 (u:=.int .i64 x.at_) rfl
    go_wp2_with fail
    go_roundg (n-(i+1))
    case measure=>have:=HGK.out;omega
    case rel=>exact⟨i+1,_,_,_,_,_,_,_,_,by omega,rfl,by go_num,by rw[←HSM.out];exact RN.below hs (by go_grown),HX0.out.below (zAa Bz (by go_grown)),HX1.out.below (zAa Bz (by go_grown)),zAa (zAa hB Bz) (by go_grown)⟩
  ·obtain rfl:i=n:=by omega
   have i1:¬(i:Int)<(i:Int):=by omega
   have HEND:Hid (pget (prs (L.take i)) at_=pget (prs L) at_):=zh (by rw[List.take_of_length_le (by rw[HLN.out];exact Nat.le_refl _)])
   have Bz:=Below.refl wr.heap.size wr
   obtain⟨p0_0,p0_1,p0_2,p0_3,-⟩:=(zxb HX0 Bz).cz
   have f0_0:=(zxb HX0 Bz).frozen 0
   have f0_1:=(zxb HX0 Bz).frozen 1
   have f0_2:=(zxb HX0 Bz).frozen 2
   have f0_3:=(zxb HX0 Bz).frozen 3
   have y0:=(zxb HX0 Bz).lt
   obtain⟨p1_0,p1_1,p1_2,p1_3,-⟩:=(zxb HX1 Bz).cz
   go_wp2_with fail
   (try simp only[Exit.inBlock,Exit.then])
   refine bodyPost_ret (by simp[results,Tryz.results38,go_sem,p0_0,p0_1,p0_2,p0_3];try rfl) rfl ?_
   obtain⟨V1,hW,x,kk,far,bel⟩:=store4 (.bool sS) (.slice sA sl sc) (.bool sS') (.slice sA' sl' sc') (zxb HX0 Bz) nofun nofun nofun nofun
   rw[←hW]
   clear hW
   replace hs:=hs.k kk
   replace hB:=bel w.heap.size w (by omega) (zAa hB Bz)
   replace HX1:=zh (far _ _ _ (by omega) (zxb HX1 Bz))
   replace HX0:=zh x
   clear x kk far bel Bz
   have Bz:=Below.refl V1.heap.size V1
   have hF:=zAa (c:=V1) hB Bz
   exact⟨_,_,_,_,_,_,_,_,rfl,by rw[←HEND.out];exact RN.below hs (by go_grown),zAa hF (by go_grown)⟩
def plcs (VL:List Vc):List Int:=VL.flatMap fun v=>v.L.map fun t=>t.at_
theorem plcs_snoc {VL:List Vc} {k:Nat} {v:Vc} (h:VL[k]?=some v):plcs (VL.take (k+1))=plcs (VL.take k)++v.L.map fun t=>t.at_:=by
 unfold plcs
 rw[take_snoc h,List.flatMap_append]
 congr 1
 exact List.append_nil _
theorem plcs_len {VL:List Vc} {k:Nat}:(plcs (VL.take k)).length≤(plcs VL).length:=by
 have h:plcs VL=plcs (VL.take k)++plcs (VL.drop k):=by
  unfold plcs
  rw[←List.flatMap_append,List.take_append_drop]
 rw[h,List.length_append]
 omega
def PP1 (w:World) (VL:List Vc) (n gk:Nat) (s3 s4:Value) (wr:World):Prop :=
 ∃(k:Nat) (H:Option Addr) (hc m:Nat) (L:List Int),s3=.slice H m hc∧s4=.int .i64 (k:Int)∧k≤n∧n-k=gk∧OwnR wr w.heap.size 3 1 (.slice H m hc) m (flat ics L)∧PlS L (plcs (VL.take k))∧Below w.heap.size w wr
def PP2 (w:World) (S0:List Int) (v:Vc) (gk:Nat) (s3 s5:Value) (wr:World):Prop :=
 ∃(i:Nat) (H:Option Addr) (hc m:Nat) (L:List Int),s3=.slice H m hc∧s5=.int .i64 (i:Int)∧i≤v.n∧v.n-i=gk∧OwnR wr w.heap.size 3 1 (.slice H m hc) m (flat ics L)∧PlS L (S0++(v.L.take i).map fun t=>t.at_)∧Below w.heap.size w wr
def PP3 (w:World) (H:Option Addr) (hc m:Nat) (L:List Int) (a:Int) (gk:Nat) (s:Value) (wr:World):Prop :=
 ∃j:Nat,j≤m∧m-j≤gk∧s=.int .i64 (j:Int)∧OwnR wr w.heap.size 3 1 (.slice H m hc) m (flat ics L)∧(∀(i:Nat) (u:Int),i<j→L[i]?=some u→u<a)∧Below w.heap.size w wr
def PP4 (w:World) (g m c:Nat) (L:List Int) (j gk:Nat) (s:Value) (wr:World):Prop :=
 ∃(q:Nat) (y:Int),j≤q∧q≤m∧q-j≤gk∧s=.int .i64 (q:Int)∧OwnR wr w.heap.size 3 1 (.slice (some ⟨g,0,none⟩) (m+1) c) (m+1) (flat ics (shL L q y))∧Below w.heap.size w wr
theorem Sl.off {α:Type} {f:α→List Value} {k:Nat} {w V:World} {b n c:Nat} {A:Option Addr} {L:List α} (h:Sl f k w A n c L) (ho:∀(k j:Nat),k≠b→V.cell? ⟨k,j,none⟩=w.cell? ⟨k,j,none⟩) (hA:∀a,A=some a→a.block≠b):Sl f k V A n c L:=by
 obtain⟨h1,h2,A',c',e,h3,h4⟩:=h
 cases e
 refine⟨h1,h2,A,c,rfl,h3,fun a ha j u hu=>?_⟩
 have h5:=h4 a ha j u hu
 have h6:=World.cell?_spot h5
 have h7:(a.add j).block=a.block:=by unfold Addr.add;split<;>rfl
 rw[←h5]
 have h8:a.add j=⟨a.block,(a.add j).off,none⟩:=by
  rw[←h7,←h6]
 rw[h8]
 exact ho _ _ (hA a ha)
def TellsPl (w:World) (S:List Int) (e:Ending) (w':World):Prop:=∃H k hc L,e=.returned (.slice H k hc)∧Sl ics 1 w' H k hc L∧PlS L S∧k≤S.length∧(∀a,H=some a→w.heap.size≤a.block)∧Below w.heap.size w w'
theorem places_q {w:World} {A:Option Addr} {n c:Nat} {VL:List Vc} (h:Sl Vc.cs 1 w A n c VL) (hv:Hid (∀v∈VL,Sl Tm.cs 5 w v.A v.n v.c v.L)) (hn:n≤1000000) (hs:Hid ((plcs VL).length≤1000000)) :
  Calls Tryz.prog 95 #[.slice A n c] w (TellsPl w (plcs VL)):=by
 have HS:=zh h
 have HLN:=zh h.1
 clear h
 go_enter Tryz.func95,Tryz.ntmps95
 go_wp2_with fail
 go_loopg [3,4] n (fun gk s3 s4 wr=>PP1 w VL n gk s3 s4 wr)
 case atStart=>exact⟨0,none,0,0,[],rfl,rfl,Nat.zero_le _,rfl,OwnR.nil _ _ _ _,PlS.nil,Below.refl _ _⟩
 case round =>
  obtain⟨k,H,hc,m,L,rfl,rfl,hk,hgk,ho,hpl,hB⟩:=hrel
  have HGK:=zh hgk
  have HPL:=zh hpl
  clear hgk hpl
  by_cases hlt:k<n
  ·obtain⟨bv,ov,rfl,hel⟩:=HS.out.at Vc.cs_len (by omega) (by omega)
   obtain⟨v,hvk⟩:∃v,VL[k]?=some v:=⟨VL[k]'(by rw[HLN.out];exact hlt),List.getElem?_eq_getElem _⟩
   have hev:ElA w bv (ov+k) (Vc.cs v):=by have:=hel k v hvk;rwa [Nat.mul_one] at this
   have HVS:=zh (hv.out v (List.mem_of_getElem? hvk))
   have HVN:=zh (hv.out v (List.mem_of_getElem? hvk)).1
   have HSN:=zh (plcs_snoc hvk)
   have hvn:v.n≤1000000:=by
    have h1:=plcs_len (VL:=VL) (k:=k+1)
    rw[HSN.out,List.length_append,List.length_map,HVN.out] at h1
    have:=hs.out
    omega
   have i1:(k:Int)<(n:Int):=by omega
   have i2:(0:Int)≤(k:Int):=by omega
   have HSL:Hid ((plcs (VL.take k)).length+v.n≤1000000):=zh (by
    have h1:=plcs_len (VL:=VL) (k:=k+1)
    rw[HSN.out,List.length_append,List.length_map,HVN.out] at h1
    have:=hs.out
    omega)
   clear hel hvk
   have Bz:=Below.refl wr.heap.size wr
   go_wp2_with fail
   have HO1:=zh ho
   have HB2:=zh (zAa hB Bz)
   clear ho hB Bz
   go_loopg [3,5] v.n (fun gk s3 s5 wr=>PP2 w (plcs (VL.take k)) v gk s3 s5 wr)
   case atStart=>exact⟨0,H,hc,m,L,rfl,by go_num,Nat.zero_le _,rfl,HO1.out.below (by go_grown),by rw[List.take_zero,List.map_nil,List.append_nil];exact HPL.out,zAa HB2.out (by go_grown)⟩
   case round =>
    clear HO1 HB2 HPL
    obtain⟨i,H,hc,m,L,rfl,rfl,hi,hgi,ho,hpl,hB⟩:=hrel
    have HGI:=zh hgi
    have HPL:=zh hpl
    have HLL:=zh (ho.eltn elt_ics (by omega))
    have hm0:m≤1000000:=by
     have h1:=hpl.len
     rw[List.length_append,List.length_map,List.length_take,HVN.out,HLL.out] at h1
     have:=HSL.out
     omega
    clear hgi hpl
    by_cases hlt2:i<v.n
    ·obtain⟨vA,vn,vc,vL⟩:=v
     obtain⟨b,off,rfl,hel2⟩:=HVS.out.at Tm.cs_len (by show 0<5;omega) (by omega)
     obtain⟨x,hx⟩:∃x,vL[i]?=some x:=⟨vL[i]'(by have:=HVN.out;simp only at this hlt2;omega),List.getElem?_eq_getElem _⟩
     have hnd:=hel2 i x hx
     have HSI:Hid (((vL.take (i+1)).map fun t=>t.at_)=((vL.take i).map fun t=>t.at_)++[x.at_]):=zh (by rw[take_snoc hx,List.map_append];rfl)
     simp only at hlt2 hi hvn hev HSL HVN
     have k1:(i:Int)<(vn:Int):=by omega
     have k2:(0:Int)≤(i:Int):=by omega
     have i3:(0:Int)≤(vn:Int):=by omega
     clear hel2 hx
     have Bz:=Below.refl wr.heap.size wr
     have p50_0:=(hev.below (zAa hB Bz)).c0 (u:=.slice (some ⟨b,off,none⟩) vn vc) rfl
     have p51_0:=(hnd.below (zAa hB Bz)).c0 (u:=.int .i64 x.at_) rfl
     go_wp2_with fail
     obtain⟨a,ha⟩:∃a,a=x.at_:=⟨_,rfl⟩
     rw[←ha]
     have HA:=zh ha
     have HO1:=zh ho
     have HB2:=zh (zAa hB Bz)
     clear ho hB Bz ha hnd
     go_loopg [7] m (fun gk s wr=>PP3 w H hc m L a gk s wr)
     case atStart=>exact⟨0,Nat.zero_le _,by omega,by go_num,HO1.out.below (by go_grown),(fun i u hi=>by omega),zAa HB2.out (by go_grown)⟩
     case round =>
      clear HO1 HB2
      obtain⟨j,hj,hgj,rfl,ho,hlo,hB⟩:=hrel
      have HLO:=zh hlo
      clear hlo
      by_cases hjm:j<m
      ·obtain⟨g,rfl⟩:=ho.some (by omega)
       obtain⟨u,hu⟩:∃u,L[j]?=some u:=⟨L[j]'(by rw[HLL.out];exact hjm),List.getElem?_eq_getElem _⟩
       have HU:=zh hu
       have j1:(j:Int)<(m:Int):=by omega
       have j2:(0:Int)≤(j:Int):=by omega
       by_cases hua:u<a
       ·have HLO2:Hid (∀(i:Nat) (u:Int),i<j+1→L[i]?=some u→u<a):=zh (fun i z hi hz=>by
         rcases Nat.lt_or_ge i j with h1 | h1
         ·exact HLO.out i z h1 hz
         ·obtain rfl:i=j:=by omega
          rw[hu,Option.some.injEq] at hz
          rw[←hz]
          exact hua)
        clear hu
        have Bz:=Below.refl wr.heap.size wr
        have p52_0:=int_cell ho HU.out
        go_wp2_with fail
        go_roundg (m-(j+1))
        case measure=>omega
        case rel=>exact⟨j+1,by omega,by omega,by go_num,OwnR.below ho (by go_grown),HLO2.out,zAa (zAa hB Bz) (by go_grown)⟩
       ·by_cases hea:u=a
        ·have e1:(u==a)=true:=by simpa using hea
         have HSU:Hid (L[j]?=some x.at_):=zh (by rw[hu,hea,HA.out])
         clear hu hea
         have Bz:=Below.refl wr.heap.size wr
         have p52_0:=int_cell ho HU.out
         go_wp2_with fail
         go_roundg (vn-(i+1))
         case measure=>have:=HGI.out;omega
         case rel=>exact⟨i+1,_,hc,m,L,rfl,by go_num,(by show i+1≤vn;omega),rfl,OwnR.below ho (by go_grown),by rw[HSI.out,←List.append_assoc];exact HPL.out.same HSU.out,zAa (zAa hB Bz) (by go_grown)⟩
        ·have e1:(u==a)=false:=by simpa using hea
         have HPN:Hid (PlS (shL L j a) (plcs (VL.take k)++(vL.take i).map (fun t=>t.at_)++[x.at_])):=zh (by rw[←HA.out];exact HPL.out.new (by rw[HLL.out];exact hj) HLO.out (fun z hz=>by rw[hu,Option.some.injEq] at hz;omega))
         clear hu hea
         have Bz:=Below.refl wr.heap.size wr
         have p52_0:=int_cell ho HU.out
         go_wp2_with (at_builtin;refine And.left (b:=True) ?_)
         refine⟨?_,trivial⟩
         obtain⟨V41,hW,x0,hN⟩:=zAe wr #[.int .i64 0] 3
         rw[←hW]
         clear hW
         obtain⟨v0,hb0⟩:∃b,b=wr.heap.size:=⟨_,rfl⟩
         rw[←hb0] at x0 ⊢
         have ow_0:w.heap.size≤v0:=by have:=zw hB Bz;omega
         have nv0_own:=OwnR.off' (b:=v0) ho (by omega)
         replace ho:=ho.below hN
         replace hB:=zAa (zAa hB Bz) hN
         have HX0:=zh x0
         clear x0 hN Bz hb0
         have Bz:=Below.refl V41.heap.size V41
         clear p52_0
         have hdr:V41.drew.heap.size=V41.heap.size:=rfl
         have hdr2:V41.drew.drew.heap.size=V41.heap.size:=rfl
         refine Elt.app elt_ics rfl _ _ rfl (w.heap.size) (.slice (some ⟨g,0,none⟩) m hc) (m) (L) rfl ho (.slice (some ⟨v0,0,none⟩) 1 1) (1) ([(0:Int)]) rfl (From.one (HX0.out.below (zAa Bz (by go_grown))) ((0:Int)) rfl (elt_ics.len _)) (by omega) (by have:=zw hB Bz;omega) ?_
         intro H41 c41 w41 ho41 hg41
         replace hB:=(zAa (zAa hB Bz) (by go_grown)).trans (hg41.below (by have:=zw hB Bz;omega) (fun g hg=>by have:=ho.base g hg;omega))
         clear HX0
         clear hdr hdr2
         clear hg41 Bz
         have Bz:=Below.refl w41.heap.size w41
         go_wp2_with fail
         obtain⟨g2,rfl⟩:=ho41.some (by omega)
         obtain⟨cc,hcc⟩:∃cc,cc=c41:=⟨_,rfl⟩
         rw[←hcc] at ho41 ⊢
         have HO1:=zh ho41
         have HB2:=zh (zAa hB Bz)
         clear ho41 hB Bz hcc
         go_loopg [8] (m-j) (fun gk s wr=>PP4 w g2 m cc L j gk s wr)
         case atStart=>exact⟨m,0,by omega,Nat.le_refl _,Nat.le_refl _,by go_num,by have h9:=shL_start L 0;rw[HLL.out] at h9;rw[h9];exact HO1.out,HB2.out⟩
         case round =>
          clear HO1 HB2
          obtain⟨q,y,hjq,hqm,hgq,rfl,ho,hB⟩:=hrel
          by_cases hqj:j<q
          ·obtain⟨q,rfl⟩:∃q',q=q'+1:=⟨q-1,by omega⟩
           obtain⟨u,hu⟩:∃u,L[q]?=some u:=⟨L[q]'(by rw[HLL.out];omega),List.getElem?_eq_getElem _⟩
           have HU:=zh (shL_get hu y)
           have HST:=zh (shL_step hu y)
           obtain⟨v0,hv0⟩:∃v,(shL L (q+1) y)[q+1]?=some v:=⟨(shL L (q+1) y)[q+1]'(by rw[shL_len,HLL.out];omega),List.getElem?_eq_getElem _⟩
           have HV0:=zh hv0
           have e1:((q+1:Nat):Int)=(q:Int)+1:=by omega
           rw[e1]
           have w6:IntKind.i64.wrap ((q:Int)+1-1)=(q:Int):=by rw[IntWalk.i64_in _ (by omega)];omega
           have j1:(j:Int)<(q:Int)+1:=by omega
           have j2:(0:Int)≤(q:Int):=by omega
           have j3:(q:Int)<(m:Int)+1:=by omega
           have j4:(q:Int)+1<(m:Int)+1:=by omega
           have j5:(0:Int)≤(q:Int)+1:=by omega
           have j6:((q:Int)+1).toNat=q+1:=by omega
           clear hu hv0 e1
           have Bz:=Below.refl wr.heap.size wr
           have p53_0:=int_cell ho HU.out
           have p54_0:=int_cell ho HV0.out
           have f54_0:=ho.frozen (q+1)
           have y54:=ho.blk.1
           go_upto_region 16 with(fail)
           obtain⟨V61,hV,ho2,hg2⟩:=int_store ho HV0.out (u)
           rw[←hV]
           clear hV
           replace hB:=(zAa hB Bz).trans (hg2.below (by have:=zw hB Bz;omega) (fun g' hg'=>by have:=ho.base g' hg';omega))
           clear ho
           have ho:=ho2
           clear ho2 hg2 Bz
           have Bz:=Below.refl V61.heap.size V61
           clear p53_0 p54_0 f54_0 y54
           go_wp2_with fail
           go_roundg (q-j)
           case measure=>omega
           case rel=>exact⟨q,u,by omega,by omega,by omega,by go_num,by rw[←HST.out];exact OwnR.below ho (by go_grown),zAa (zAa hB Bz) (by go_grown)⟩
          ·obtain rfl:q=j:=by omega
           obtain⟨v0,hv0⟩:∃v,(shL L q y)[q]?=some v:=⟨(shL L q y)[q]'(by rw[shL_len,HLL.out];omega),List.getElem?_eq_getElem _⟩
           have HV0:=zh hv0
           have HST:=zh (shL_set (L:=L) (k:=q) (by rw[HLL.out];omega) y a)
           have j1:¬(q:Int)<(q:Int):=by omega
           have j2:(0:Int)≤(q:Int):=by omega
           have j3:(q:Int)<(m:Int)+1:=by omega
           clear hv0
           have Bz:=Below.refl wr.heap.size wr
           have p54_0:=int_cell ho HV0.out
           have f54_0:=ho.frozen q
           have y54:=ho.blk.1
           go_wp2_with fail
           obtain⟨V61,hV,ho2,hg2⟩:=int_store ho HV0.out (a)
           rw[←hV]
           clear hV
           replace hB:=(zAa hB Bz).trans (hg2.below (by have:=zw hB Bz;omega) (fun g' hg'=>by have:=ho.base g' hg';omega))
           clear ho
           have ho:=ho2
           clear ho2 hg2 Bz
           have Bz:=Below.refl V61.heap.size V61
           clear p54_0 f54_0 y54
           go_wp2_with fail
           go_roundg (vn-(i+1))
           case measure=>have:=HGI.out;omega
           case rel=>exact⟨i+1,_,cc,m+1,shL L q a,rfl,by go_num,(by show i+1≤vn;omega),rfl,by rw[←HST.out];exact OwnR.below ho (by go_grown),by rw[HSI.out,←List.append_assoc];exact HPN.out,zAa (zAa hB Bz) (by go_grown)⟩
      ·have j1:¬(j:Int)<(m:Int):=by omega
       have HPN:Hid (PlS (shL L j a) (plcs (VL.take k)++(vL.take i).map (fun t=>t.at_)++[x.at_])):=zh (by rw[←HA.out];exact HPL.out.new (by rw[HLL.out];exact hj) HLO.out (fun z hz=>by rw[List.getElem?_eq_none (by rw[HLL.out];omega)] at hz;cases hz))
       have Bz:=Below.refl wr.heap.size wr
       go_wp2_with (at_builtin;refine And.left (b:=True) ?_)
       refine⟨?_,trivial⟩
       obtain⟨V41,hW,x0,hN⟩:=zAe wr #[.int .i64 0] 3
       rw[←hW]
       clear hW
       obtain⟨v0,hb0⟩:∃b,b=wr.heap.size:=⟨_,rfl⟩
       rw[←hb0] at x0 ⊢
       have ow_0:w.heap.size≤v0:=by have:=zw hB Bz;omega
       have nv0_own:=OwnR.off' (b:=v0) ho (by omega)
       replace ho:=ho.below hN
       replace hB:=zAa (zAa hB Bz) hN
       have HX0:=zh x0
       clear x0 hN Bz hb0
       have Bz:=Below.refl V41.heap.size V41
       have hdr:V41.drew.heap.size=V41.heap.size:=rfl
       have hdr2:V41.drew.drew.heap.size=V41.heap.size:=rfl
       refine Elt.app elt_ics rfl _ _ rfl (w.heap.size) (.slice H m hc) (m) (L) rfl ho (.slice (some ⟨v0,0,none⟩) 1 1) (1) ([(0:Int)]) rfl (From.one (HX0.out.below (zAa Bz (by go_grown))) ((0:Int)) rfl (elt_ics.len _)) (by omega) (by have:=zw hB Bz;omega) ?_
       intro H41 c41 w41 ho41 hg41
       replace hB:=(zAa (zAa hB Bz) (by go_grown)).trans (hg41.below (by have:=zw hB Bz;omega) (fun g hg=>by have:=ho.base g hg;omega))
       clear HX0
       clear hdr hdr2
       clear hg41 Bz
       have Bz:=Below.refl w41.heap.size w41
       go_wp2_with fail
       obtain⟨g2,rfl⟩:=ho41.some (by omega)
       obtain⟨cc,hcc⟩:∃cc,cc=c41:=⟨_,rfl⟩
       rw[←hcc] at ho41 ⊢
       have HO1:=zh ho41
       have HB2:=zh (zAa hB Bz)
       clear ho41 hB Bz hcc
       go_loopg [8] (m-j) (fun gk s wr=>PP4 w g2 m cc L j gk s wr)
       case atStart=>exact⟨m,0,by omega,Nat.le_refl _,Nat.le_refl _,by go_num,by have h9:=shL_start L 0;rw[HLL.out] at h9;rw[h9];exact HO1.out,HB2.out⟩
       case round =>
        clear HO1 HB2
        obtain⟨q,y,hjq,hqm,hgq,rfl,ho,hB⟩:=hrel
        by_cases hqj:j<q
        ·exact absurd hqj (by omega)
        ·obtain rfl:q=j:=by omega
         obtain⟨v0,hv0⟩:∃v,(shL L q y)[q]?=some v:=⟨(shL L q y)[q]'(by rw[shL_len,HLL.out];omega),List.getElem?_eq_getElem _⟩
         have HV0:=zh hv0
         have HST:=zh (shL_set (L:=L) (k:=q) (by rw[HLL.out];omega) y a)
         have j1:¬(q:Int)<(q:Int):=by omega
         have j2:(0:Int)≤(q:Int):=by omega
         have j3:(q:Int)<(m:Int)+1:=by omega
         clear hv0
         have Bz:=Below.refl wr.heap.size wr
         have p54_0:=int_cell ho HV0.out
         have f54_0:=ho.frozen q
         have y54:=ho.blk.1
         go_wp2_with fail
         obtain⟨V61,hV,ho2,hg2⟩:=int_store ho HV0.out (a)
         rw[←hV]
         clear hV
         replace hB:=(zAa hB Bz).trans (hg2.below (by have:=zw hB Bz;omega) (fun g' hg'=>by have:=ho.base g' hg';omega))
         clear ho
         have ho:=ho2
         clear ho2 hg2 Bz
         have Bz:=Below.refl V61.heap.size V61
         clear p54_0 f54_0 y54
         go_wp2_with fail
         go_roundg (vn-(i+1))
         case measure=>have:=HGI.out;omega
         case rel=>exact⟨i+1,_,cc,m+1,shL L q a,rfl,by go_num,(by show i+1≤vn;omega),rfl,by rw[←HST.out];exact OwnR.below ho (by go_grown),by rw[HSI.out,←List.append_assoc];exact HPN.out,zAa (zAa hB Bz) (by go_grown)⟩
    ·obtain rfl:i=v.n:=by omega
     have k1:¬(v.n:Int)<(v.n:Int):=by omega
     have HPL:Hid (PlS L (plcs (VL.take (k+1)))):=zh (by rw[HSN.out];have h9:=HPL.out;rwa [List.take_of_length_le (l:=v.L) (by rw[HVN.out];exact Nat.le_refl _)] at h9)
     have Bz:=Below.refl wr.heap.size wr
     have p50_0:=(hev.below (zAa hB Bz)).c0 (u:=.slice v.A v.n v.c) rfl
     go_wp2_with fail
     go_roundg (n-(k+1))
     case measure=>have:=HGK.out;omega
     case rel=>exact⟨k+1,H,hc,m,L,rfl,by go_num,by omega,rfl,OwnR.below ho (by go_grown),HPL.out,zAa (zAa hB Bz) (by go_grown)⟩
  ·obtain rfl:k=n:=by omega
   have i1:¬(k:Int)<(k:Int):=by omega
   have HLL:=zh (ho.eltn elt_ics (by omega))
   have HSL:=zh (ho.sl' elt_ics HLL.out)
   have hpl2:PlS L (plcs VL):=by have h9:=HPL.out;rwa [List.take_of_length_le (by rw[HLN.out];exact Nat.le_refl _)] at h9
   have HP2:=zh hpl2
   have HBA:Hid (∀a,H=some a→w.heap.size≤a.block):=zh (fun a ha=>by subst ha;exact ho.base a.block rfl)
   clear ho hpl2
   go_wp2_with fail
   go_ret
   exact⟨H,m,hc,L,rfl,HSL.out,HP2.out,by have h9:=HP2.out.len;rw[HLL.out] at h9;exact h9,HBA.out,hB⟩
open Go.RowKit Tw
theorem Grew.stay {w w':World} (v:Value) (hb:Below w.heap.size w w'):Grew w w' v v:=⟨⟨hb.os,hb.tape,hb.output,hb.size,fun i hi _=>hb.block i hi⟩,K64.below hb,.inl rfl⟩
theorem Grew.after {w w1 w':World} {v v':Value} (hg:Grew w1 w' v v') (hb:Below w.heap.size w w1) (_hlt:∀g,v.ownBlock=some g→g<w.heap.size):Grew w w' v v' :=
 ⟨⟨hg.by_.os.trans hb.os,hg.by_.tape.trans hb.tape,hg.by_.output.trans hb.output,Nat.le_trans hb.size hg.by_.size,fun i hi hn=>(hg.by_.block i (Nat.lt_of_lt_of_le hi hb.size) hn).trans (hb.block i hi)⟩,K64.trans (K64.below hb) hg.k,by
  rcases hg.new with h | ⟨g,h,h2⟩
  ·exact .inl h
  ·exact .inr ⟨g,h,Nat.le_trans hb.size h2⟩⟩
theorem sign_z0 {q:Rat} (h:q=0):q.num.sign=0:=by subst h;rfl
theorem sign_nz {q:Rat} (h:q≠0):q.num.sign≠0:=fun e=>h (by
 have h1:=Int.sign_eq_zero_iff_zero.1 e
 exact Rat.num_eq_zero.1 h1)
def TellsPut (w:World) (B:Nat) (v:Value) (O:List Tm) (at_:Int) (q:Rat) (M:Nat) (e:Ending) (w':World):Prop :=
 ∃H' k' hc' O',e=.returned (.slice H' k' hc')∧OwnR w' B 114 5 (.slice H' k' hc') k' (flat Tm.cs O')∧prs O'=prs O++(if q=0 then [] else [(at_,q)])∧OnT w' O' (fun _=>M)∧Grew w w' v (.slice H' k' hc')
theorem put_q {w:World} {B k hc m M:Nat} {H:Option Addr} {O:List Tm} {s s':Bool} {A A':Option Addr} {l c l' c':Nat} {q:Rat} (at_:Int) (ho:OwnR w B 114 5 (.slice H k hc) k (flat Tm.cs O)) (hBw:B≤w.heap.size) (hon:OnT w O (fun _=>M)) (ha:R w s A c l s' A' c' l' q m) (hm:m≤1900) (hM:sz q+1≤M) (hk:k≤1000000000) (_hT:Hid (Tab w)) :
  Calls Tryz.prog 96 #[.slice H k hc,.int .i64 at_,.agg #[.bool s,.slice A l c,.bool s',.slice A' l' c']] w (TellsPut w B (.slice H k hc) O at_ q M):=by
 have HLT:=zh ho.lt
 have HM:=zh hM
 clear hM
 by_cases hq:q=0
 ·have HQ0:=zh hq
  have HZ:=zh (sign_z0 hq)
  clear hq
  obtain⟨W,hW,x0,hB⟩:=zAe w #[.bool s,.slice A l c,.bool s',.slice A' l' c'] 50
  replace hon:=hon.below hB
  replace ho:=ho.below hB
  replace ha:=ha.below hB
  have HX0:=zh x0
  clear x0
  have Bz:=Below.refl W.heap.size W
  obtain⟨p0_0,p0_1,p0_2,p0_3,-⟩:=(zxb HX0 Bz).cz
  go_enter Tryz.func96,Tryz.ntmps96
  go_wp2_with fail
  rw[←hW]
  clear hW
  go_wp2_with fail
  with_reducible refine(sign_r4 (R.below ha (by go_grown)) (by omega) 0 HZ).mono ?_
  rintro e w1 ⟨rfl,b1⟩
  replace b1:=zAa (a:=W) (by go_grown) b1
  replace hon:=hon.below b1
  replace ho:=ho.below b1
  replace Bz:=zAa Bz b1
  clear b1
  clear p0_0 p0_1 p0_2 p0_3
  go_wp2_with fail
  go_ret
  have hF:=zAa (c:=w1) hB Bz
  exact⟨H,k,hc,O,rfl,OwnR.below ho (by go_grown),by rw[if_pos HQ0.out,List.append_nil],OnT.below hon (by go_grown),Grew.stay _ (zAa hF (by go_grown))⟩
 ·have HQ0:=zh hq
  obtain⟨z,hz⟩:∃z,q.num.sign=z:=⟨_,rfl⟩
  have hz0:z≠0:=by rw[←hz];exact sign_nz hq
  have g1:(z==0)=false:=by simpa using hz0
  have HZ:=zh hz
  clear hq hz
  obtain⟨W,hW,x0,hB⟩:=zAe w #[.bool s,.slice A l c,.bool s',.slice A' l' c'] 50
  replace hon:=hon.below hB
  replace ho:=ho.below hB
  replace ha:=ha.below hB
  have HX0:=zh x0
  clear x0
  have Bz:=Below.refl W.heap.size W
  obtain⟨p0_0,p0_1,p0_2,p0_3,-⟩:=(zxb HX0 Bz).cz
  go_enter Tryz.func96,Tryz.ntmps96
  go_wp2_with fail
  rw[←hW]
  clear hW
  go_wp2_with fail
  with_reducible refine(sign_r4 (R.below ha (by go_grown)) (by omega) z HZ).mono ?_
  rintro e w1 ⟨rfl,b1⟩
  replace b1:=zAa (a:=W) (by go_grown) b1
  replace hon:=hon.below b1
  replace ho:=ho.below b1
  replace ha:=ha.below b1
  replace Bz:=zAa Bz b1
  clear b1
  clear p0_0 p0_1 p0_2 p0_3
  obtain⟨p0_0,p0_1,p0_2,p0_3,-⟩:=(zxb HX0 Bz).cz
  go_wp2_with fail
  with_reducible refine(norm_r4 (R.below ha (by go_grown)) (by omega)).mono ?_
  rintro e w2 ⟨s2,A2,c2,l2,s2r,A2r,c2r,l2r,rfl,h2,b2⟩
  replace b2:=zAa (a:=w1) (by go_grown) b2
  replace hon:=hon.below b2
  replace ho:=ho.below b2
  replace Bz:=zAa Bz b2
  clear b2
  clear p0_0 p0_1 p0_2 p0_3
  go_wp2_with (at_builtin;refine And.left (b:=True) ?_)
  refine⟨?_,trivial⟩
  obtain⟨V1,hW,x1,hN⟩:=zAe w2 #[.int .i64 at_,.bool s2,.slice A2 l2 c2,.bool s2r,.slice A2r l2r c2r] 114
  rw[←hW]
  clear hW
  obtain⟨v1,hb1⟩:∃b,b=w2.heap.size:=⟨_,rfl⟩
  rw[←hb1] at x1 ⊢
  have o0_1:w.heap.size<v1:=by have:=(zxb HX0 Bz).lt;omega
  have ow_1:w.heap.size≤v1:=by have:=zw hB Bz;omega
  have nv1_own:=OwnR.off' (b:=v1) ho (by omega)
  replace h2:=h2.below hN
  replace hon:=hon.below hN
  replace ho:=ho.below hN
  replace hB:=zAa (zAa hB Bz) hN
  replace HX0:=zh ((zxb HX0 Bz).below hN)
  have HX1:=zh x1
  clear x1 hN Bz hb1
  have Bz:=Below.refl V1.heap.size V1
  have hdr:V1.drew.heap.size=V1.heap.size:=rfl
  have hdr2:V1.drew.drew.heap.size=V1.heap.size:=rfl
  refine Elt.app elt_vec rfl _ _ rfl (B) (.slice H k hc) (k) (O) rfl ho (.slice (some ⟨v1,0,none⟩) 1 1) (1) ([⟨at_,⟨s2,A2,c2,l2,s2r,A2r,c2r,l2r,q,true⟩⟩]) rfl (From.one (HX1.out.below (zAa Bz (by go_grown))) (⟨at_,⟨s2,A2,c2,l2,s2r,A2r,c2r,l2r,q,true⟩⟩) rfl (elt_vec.len _)) (by omega) (by have:=hB.size;have:=Bz.size;have:=hBw;omega) ?_
  intro H3 c3 w3 ho3 hg3
  have hG:=hg3.after (zAa (zAa hB Bz) (by go_grown)) HLT.out
  have hon3:=(OnT.below hon (by go_grown)).k hg3.k
  have hr3:=(RN.below h2 (by go_grown)).k hg3.k
  clear hB Bz HX0 HX1 hdr hdr2
  go_wp2_with fail
  go_ret
  exact⟨H3,k+1,c3,_,rfl,ho3,by rw[prs_append,if_neg HQ0.out];rfl,hon3.snoc hr3 rfl HM.out,hG⟩
theorem filt_snoc {P:List (Int×Rat)} {i:Nat} {x:Int×Rat} (h:P[i]?=some x):(P.take (i+1)).filter (fun x=>decide (x.2≠0))=(P.take i).filter (fun x=>decide (x.2≠0))++(if x.2=0 then [] else [x]):=by
 rw[show P.take (i+1)=P.take i++[x] by rw[List.take_add_one,h];rfl,List.filter_append,List.filter_cons,List.filter_nil]
 by_cases e:x.2=0
 ·rw[if_pos e,if_neg (by simp[e])]
 ·rw[if_neg e,if_pos (by simp[e])]
end Go.Proofs.YtljjgfmeaejnfaaGreatDoor
