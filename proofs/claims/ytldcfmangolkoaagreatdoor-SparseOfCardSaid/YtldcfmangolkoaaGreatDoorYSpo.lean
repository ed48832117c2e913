/-
  SparseOf: for any numbers that came in Of is as the document defines, and Dense undoes it; the law answers true. No condition. Written by wip/gen/spo.py.
-/
import Derived.Test.YtldcfmangolkoaaGreatDoorYLf1
import Derived.Test.YtldcfmangolkoaaGreatDoorYPu
import Derived.Test.YtldcfmangolkoaaGreatDoorYVm
import Derived.Test.YtldcfmangolkoaaGreatDoorYRow
import Derived.Test.YtldcfmangolkoaaGreatDoorYRdT
import Derived.Test.YtldcfmangolkoaaGreatDoorYZTab
namespace Go.Proofs.YtldcfmangolkoaaGreatDoor
open Go.RowKit Tw
theorem idxP_len (l:List Rat):(idxP l).length=l.length:=List.length_mapIdx
theorem dense_idx (l:List Rat):denseF (nrm (idxP l)) l.length=l:=by
 rw[denseF_nrm]
 apply List.ext_getElem?
 intro i
 unfold denseF
 rw[List.getElem?_map]
 by_cases hi:i<l.length
 ·rw[List.getElem?_range hi,List.getElem?_eq_getElem hi,Option.map_some,(idxP_rise l).get (List.mem_of_getElem? (idxP_at (List.getElem?_eq_getElem hi)))]
 ·rw[List.getElem?_eq_none (by rw[List.length_range];omega),List.getElem?_eq_none (by omega)]
  rfl
theorem denseG {w:World} {X:Option Addr} {nx cx m M:Nat} {P:List (Int×Rat)} (h:GV w X nx cx P M) (hM:M≤18000) (hM2:2≤M) (hnx:nx≤1000000) (hm:m≤65536) (hT:Hid (Tab w)) :
  Calls Tryz.prog 24 #[.slice X nx cx,.int .i64 (m:Int)] w fun e w'=>∃A c L,e=.returned (.slice A m c)∧Sl Fr.cs 4 w' A m c L∧AllRn w' M L∧L.map (fun x=>x.q)=denseF P m∧Below w.heap.size w w':=by
 by_cases hm1:m<1
 ·obtain rfl:m=0:=by omega
  exact(dense_no ((0:Nat):Int) (by omega)).mono fun e w' k=>⟨none,0,[],k.1,Sl.nil _,(fun x hx=>by cases hx),rfl,k.2⟩
 ·refine(denseV_q h hM hM2 hnx (by omega) hm hT).mono fun e w' k=>?_
  obtain⟨A,n,c,L,rfl,k1,k2,k3,k4⟩:=k
  have h1:=k1.1
  have h2:=congrArg List.length k3
  unfold denseF at h2
  rw[List.length_map,List.length_map,List.length_range] at h2
  obtain rfl:n=m:=by omega
  exact⟨A,c,L,rfl,k1,k2,k3,k4⟩
theorem rightN {w:World} {A:Option Addr} {n c M:Nat} {P:List (Int×Rat)} {k:Int} (h:NV w A n c P M) (hM:M≤20000) (hn:n≤1000000000) (hP:Nrm P∧∀x∈P,0≤x.1∧x.1<k) (hT:Hid (Tab w)) :
  Calls Tryz.prog 27 #[.slice A n c,.int .i64 k] w fun e w'=>e=.returned (.bool true)∧Below w.heap.size w w':=by
 obtain⟨L,h1,h2,rfl,_⟩:=h
 refine right_q (m:=M) h1 (h2.fr fun _=>Nat.le_refl _) hM hn true (Lib.hid (rightB_of hP.1 fun t ht=>?_)) hT
 have h3:=hP.2 (t.at_,t.x.q) (List.mem_map_of_mem (f:=fun t:Tm=>(t.at_,t.x.q)) ht)
 exact⟨h3.1,h3.2,(h2 t ht).2.1⟩
theorem of_right {L:List Fr} {n:Nat} (h:L.length=n):Nrm (nrm (idxP (L.map fun x=>x.q)))∧∀x∈nrm (idxP (L.map fun x=>x.q)),0≤x.1∧x.1<(n:Int):=by
 refine⟨nrm_nrm _,fun x hx=>?_⟩
 rw[←idxP_nrm] at hx
 have h1:=(List.mem_filter.1 hx).1
 obtain⟨i,hi⟩:=List.getElem?_of_mem h1
 unfold idxP at hi
 rw[List.getElem?_mapIdx] at hi
 cases e:(L.map fun x=>x.q)[i]? with
 | none=>rw[e] at hi;cases hi
 | some q =>
  rw[e,Option.map_some,Option.some.injEq] at hi
  have h2:=(List.getElem?_eq_some_iff.1 e).1
  rw[List.length_map] at h2
  subst hi
  simp only
  omega
def SO1 (w W:World) (n gk:Nat) (s:Value) (wr:World):Prop:=∃i:Nat,i≤n∧n-i=gk∧s=.int .i64 (i:Int)∧Below w.heap.size w wr∧Below W.heap.size W wr
set_option maxRecDepth 100000 in
set_option maxHeartbeats 4000000 in
theorem of_no {w:World} {A:Option Addr} {n c:Nat} {L:List Fr} (h:Sl Fr.cs 4 w A n c L) (hi:Hid (∀x∈L,FrIn w x)) (hln:n≤9223372036854775807) (S0:Hid (shortFrs 30 4 n L=false)) (hT:Hid (Tab w)) :
  Calls Tryz.prog 4 #[.slice A n c] w (Yes w):=by
 have hB:=Below.refl w.heap.size w
 have Bz:=Below.refl w.heap.size w
 go_enter Tryz.func4,Tryz.ntmps4
 go_wp2_with fail
 with_reducible refine(shortRats_q (h.below (zAa hB (zAa (b:=w) Bz (by go_grown)))) (Lib.hid fun x hx=>fr_lens (hi.out x hx)) hln 30 4 false S0).mono ?_
 rintro e w1 ⟨rfl,b1⟩
 replace b1:=zAa (a:=w) (by go_grown) b1
 replace Bz:=zAa Bz b1
 clear b1
 go_wp2_with fail
 with_reducible refine(awake5_q (Lib.hid (Tab.below hT.out (zAa hB (zAa (b:=w1) Bz (by go_grown)))))).mono ?_
 rintro e w2 ⟨rfl,b2⟩
 replace b2:=zAa (a:=w1) (by go_grown) b2
 replace Bz:=zAa Bz b2
 clear b2
 go_wp2_with fail
 go_ret
 have hF:=zAa (c:=w2) hB Bz
 exact⟨rfl,zAa hF (by go_grown)⟩
set_option maxRecDepth 100000 in
set_option maxHeartbeats 8000000 in
theorem of_yes {w:World} {A:Option Addr} {n c:Nat} {L:List Fr} (h:Sl Fr.cs 4 w A n c L) (hi:Hid (∀x∈L,FrIn w x)) (hln:n≤9223372036854775807) (S0:Hid (shortFrs 30 4 n L=true)) (hT:Hid (Tab w)) :
  Calls Tryz.prog 4 #[.slice A n c] w (Yes w):=by
 have hs:=S0.out
 unfold shortFrs at hs
 simp only[Bool.and_eq_true,decide_eq_true_eq,List.all_eq_true] at hs
 have hn30:n≤30:=by omega
 have HLN:=Lib.hid h.1
 have HFR:Hid (∀x∈L,FrOk w 4 x):=Lib.hid (fun x hx=>by
  have h2:=hs.2 x hx
  unfold shortFr at h2
  simp only[Bool.and_eq_true,decide_eq_true_eq] at h2
  exact(hi.out x hx).2.2 4 (by omega) (by omega))
 clear hs
 have hB:=Below.refl w.heap.size w
 have Bz:=Below.refl w.heap.size w
 go_enter Tryz.func4,Tryz.ntmps4
 go_wp2_with fail
 with_reducible refine(shortRats_q (h.below (zAa hB (zAa (b:=w) Bz (by go_grown)))) (Lib.hid fun x hx=>fr_lens (hi.out x hx)) hln 30 4 true S0).mono ?_
 rintro e w1 ⟨rfl,b1⟩
 replace b1:=zAa (a:=w) (by go_grown) b1
 replace Bz:=zAa Bz b1
 clear b1
 go_wp2_with fail
 with_reducible refine(ofV_q (m:=4) (h.below (zAa hB (zAa (b:=w1) Bz (by go_grown)))) (Lib.hid fun x hx=>(HFR.out x hx).below (zAa hB (zAa (b:=w1) Bz (by go_grown)))) (by decide) (by omega) (Lib.hid (Tab.below hT.out (zAa hB (zAa (b:=w1) Bz (by go_grown)))))).mono ?_
 rintro e w2 ⟨A2,n2,c2,rfl,h2,b2⟩
 replace b2:=zAa (a:=w1) (by go_grown) b2
 replace Bz:=zAa Bz b2
 clear b2
 have hv1:n2≤n:=by have h9:=h2.len;have h8:=nrm_len (idxP (L.map fun x=>x.q));rw[idxP_len,List.length_map,HLN.out] at h8;omega
 go_wp2_with fail
 with_reducible refine(denseG (m:=n) ((NV.below h2 (by go_grown)).gv (nrm_nrm _).rise) (by decide) (by decide) (by omega) (by omega) (Lib.hid (Tab.below hT.out (zAa hB (zAa (b:=w2) Bz (by go_grown)))))).mono ?_
 rintro e w3 ⟨dA,dc,D,rfl,hds3,hdr3,hdq3,b3⟩
 replace b3:=zAa (a:=w2) (by go_grown) b3
 replace h2:=h2.below b3
 replace Bz:=zAa Bz b3
 clear b3
 have HDQ:=Lib.hid hdq3
 clear hdq3
 go_wp2_with fail
 with_reducible refine(ofR_q (m:=4) (h.below (zAa hB (zAa (b:=w3) Bz (by go_grown)))) (Lib.hid fun x hx=>(HFR.out x hx).below (zAa hB (zAa (b:=w3) Bz (by go_grown)))) (by decide) (by omega) (Lib.hid (Tab.below hT.out (zAa hB (zAa (b:=w3) Bz (by go_grown)))))).mono ?_
 rintro e w4 ⟨A4,n4,c4,rfl,h4,b4⟩
 replace b4:=zAa (a:=w3) (by go_grown) b4
 replace hdr3:=hdr3.below b4
 replace hds3:=hds3.below b4
 replace h2:=h2.below b4
 replace Bz:=zAa Bz b4
 clear b4
 have hu1:n4≤n:=by have h9:=h4.len;have h8:=nrm_len (idxP (L.map fun x=>x.q));rw[idxP_len,List.length_map,HLN.out] at h8;omega
 go_wp2_with fail
 with_reducible refine(sameVec_q h2 h4 (by decide) (by decide) (by omega) (by omega) true (Lib.hid (decide_eq_true rfl))).mono ?_
 rintro e w5 ⟨rfl,b5⟩
 replace b5:=zAa (a:=w4) (by go_grown) b5
 replace hdr3:=hdr3.below b5
 replace hds3:=hds3.below b5
 replace h2:=h2.below b5
 replace Bz:=zAa Bz b5
 clear b5
 go_wp2_with fail
 with_reducible refine(rightN h2 (by decide) (by omega) (of_right HLN.out) (Lib.hid (Tab.below hT.out (zAa hB (zAa (b:=w5) Bz (by go_grown)))))).mono ?_
 rintro e w6 ⟨rfl,b6⟩
 replace b6:=zAa (a:=w5) (by go_grown) b6
 replace hdr3:=hdr3.below b6
 replace hds3:=hds3.below b6
 replace Bz:=zAa Bz b6
 clear b6
 go_wp2_with fail
 have HB1:=Lib.hid (zAa hB Bz)
 have HDS:=Lib.hid (Sl.below hds3 (Below.refl _ _))
 have HDR:=Lib.hid (AllRn.below hdr3 (Below.refl _ _))
 have HDL:=Lib.hid (hds3).1
 have HDE:Hid (D.map (fun x=>x.q)=L.map fun x=>x.q):=Lib.hid (by rw[HDQ.out];have h9:=dense_idx (L.map fun x=>x.q);rwa [List.length_map,HLN.out] at h9)
 clear hB Bz HDQ hds3 hdr3
 go_loopg [5] n (fun gk s wr=>SO1 w w6 n gk s wr)
 case atStart=>exact⟨0,Nat.zero_le _,rfl,rfl,HB1.out,Below.refl _ _⟩
 case round =>
  clear HB1
  obtain⟨i,hi',hgk,rfl,hB,hBW⟩:=hrel
  have HGK:=Lib.hid hgk
  clear hgk
  by_cases hlt:i<n
  ·obtain⟨b,off,rfl,hel⟩:=h.at Fr.cs_len (by omega) (by omega)
   obtain⟨d,offd,rfl,held⟩:=HDS.out.at Fr.cs_len (by omega) (by omega)
   obtain⟨x,hx⟩:∃x,L[i]?=some x:=⟨L[i]'(by rw[HLN.out];exact hlt),List.getElem?_eq_getElem _⟩
   obtain⟨y,hy⟩:∃y,D[i]?=some y:=⟨D[i]'(by rw[HDL.out];exact hlt),List.getElem?_eq_getElem _⟩
   have hnd:=hel i x hx
   have hnd':=held i y hy
   have hrx:=((HFR.out x (List.mem_of_getElem? hx)).below hB).r
   have hyr:=HDR.out y (List.mem_of_getElem? hy)
   have hry:=hyr.1.below hBW
   have hly:y.l≤800000∧y.l'≤800000:=by have h8:=hry.len;have h9:=hyr.2.2;omega
   have hsx:sz x.q≤5:=Nat.le_trans hrx.sz (by decide)
   have HQ:Hid (decide (y.q=x.q)=true):=Lib.hid (decide_eq_true (by
    have h9:=congrArg (fun l:List Rat=>l[i]?) HDE.out
    simp only[List.getElem?_map,hx,hy,Option.map_some,Option.some.injEq] at h9
    exact h9))
   have i1:(i:Int)<(n:Int):=by omega
   have i2:(0:Int)≤(i:Int):=by omega
   clear hel held hx hy hyr
   have Bz:=Below.refl wr.heap.size wr
   have p50_0:=(hnd.below (zAa hB Bz)).c0 (u:=.bool x.s) rfl
   have p50_1:=(hnd.below (zAa hB Bz)).at 1 (.slice x.A x.l x.c) rfl
   have p50_2:=(hnd.below (zAa hB Bz)).at 2 (.bool x.s') rfl
   have p50_3:=(hnd.below (zAa hB Bz)).at 3 (.slice x.A' x.l' x.c') rfl
   have p51_0:=(hnd'.below (zAa hBW Bz)).c0 (u:=.bool y.s) rfl
   have p51_1:=(hnd'.below (zAa hBW Bz)).at 1 (.slice y.A y.l y.c) rfl
   have p51_2:=(hnd'.below (zAa hBW Bz)).at 2 (.bool y.s') rfl
   have p51_3:=(hnd'.below (zAa hBW Bz)).at 3 (.slice y.A' y.l' y.c') rfl
   go_wp2_with fail
   (try simp only[List.append_eq,List.cons_append,List.nil_append])
   refine zAc (.take 0 (.take 1 (.take 2 (.take 3 (.take 4 (.take 5 (.take 6 (.take 7 (.only 8 (.only 9 (.take 10 .done))))))))))) [] (fun w'=>w'.cell? ⟨b,off+i*4,none⟩=some (.bool x.s)∧w'.cell? ⟨b,off+i*4+1,none⟩=some (.slice x.A x.l x.c)∧w'.cell? ⟨b,off+i*4+2,none⟩=some (.bool x.s')∧w'.cell? ⟨b,off+i*4+3,none⟩=some (.slice x.A' x.l' x.c')∧w'.cell? ⟨d,offd+i*4,none⟩=some (.bool y.s)∧w'.cell? ⟨d,offd+i*4+1,none⟩=some (.slice y.A y.l y.c)∧w'.cell? ⟨d,offd+i*4+2,none⟩=some (.bool y.s')∧w'.cell? ⟨d,offd+i*4+3,none⟩=some (.slice y.A' y.l' y.c')) (by kernel_rfl) (by kernel_rfl) ⟨p50_0,p50_1,p50_2,p50_3,p51_0,p51_1,p51_2,p51_3⟩ ?_
   iterate 8 (refine zAb (o:=⟨some _,_,_,_,_,_⟩) rfl rfl (fun w' ⟨p50_0,p50_1,p50_2,p50_3,p51_0,p51_1,p51_2,p51_3⟩=>by go_simp<;>with_reducible rfl) ?_;try simp only[pUt,pLt,pZt,pSt])
   refine zAd (o:=⟨some 49,_,_,_,_,_⟩) rfl rfl (fun K hK=>?_)
   go_simp
   with_reducible refine(norm_q (R.below hrx (by go_grown)) (by decide) (Lib.hid (Tab.below hT.out (zAa hB (zAa (b:=wr) Bz (by go_grown)))))).mono ?_
   rintro e w21 ⟨s21,A21,c21,l21,s21r,A21r,c21r,l21r,rfl,h21,b21⟩
   replace b21:=zAa (a:=wr) (by go_grown) b21
   replace hry:=hry.below b21
   replace Bz:=zAa Bz b21
   clear b21
   clear p50_0 p50_1 p50_2 p50_3 p51_0 p51_1 p51_2 p51_3
   have p50_0:=(hnd.below (zAa hB Bz)).c0 (u:=.bool x.s) rfl
   have p50_1:=(hnd.below (zAa hB Bz)).at 1 (.slice x.A x.l x.c) rfl
   have p50_2:=(hnd.below (zAa hB Bz)).at 2 (.bool x.s') rfl
   have p50_3:=(hnd.below (zAa hB Bz)).at 3 (.slice x.A' x.l' x.c') rfl
   have p51_0:=(hnd'.below (zAa hBW Bz)).c0 (u:=.bool y.s) rfl
   have p51_1:=(hnd'.below (zAa hBW Bz)).at 1 (.slice y.A y.l y.c) rfl
   have p51_2:=(hnd'.below (zAa hBW Bz)).at 2 (.bool y.s') rfl
   have p51_3:=(hnd'.below (zAa hBW Bz)).at 3 (.slice y.A' y.l' y.c') rfl
   refine hK.out _ _ ⟨p50_0,p50_1,p50_2,p50_3,p51_0,p51_1,p51_2,p51_3⟩ (fun _=>?_)
   try simp only[pUt,pLt,pZt,pSt]
   clear hK K
   refine zAd (o:=⟨some 50,_,_,_,_,_⟩) rfl rfl (fun K hK=>?_)
   go_simp
   with_reducible refine(sameRat_rn (RN.below hry (by go_grown)) (RN.below h21 (by go_grown)) hly (by have:=(h21).len;omega) true HQ).mono ?_
   rintro e w22 ⟨rfl,b22⟩
   replace b22:=zAa (a:=w21) (by go_grown) b22
   replace Bz:=zAa Bz b22
   clear b22
   clear p50_0 p50_1 p50_2 p50_3 p51_0 p51_1 p51_2 p51_3
   have p50_0:=(hnd.below (zAa hB Bz)).c0 (u:=.bool x.s) rfl
   have p50_1:=(hnd.below (zAa hB Bz)).at 1 (.slice x.A x.l x.c) rfl
   have p50_2:=(hnd.below (zAa hB Bz)).at 2 (.bool x.s') rfl
   have p50_3:=(hnd.below (zAa hB Bz)).at 3 (.slice x.A' x.l' x.c') rfl
   have p51_0:=(hnd'.below (zAa hBW Bz)).c0 (u:=.bool y.s) rfl
   have p51_1:=(hnd'.below (zAa hBW Bz)).at 1 (.slice y.A y.l y.c) rfl
   have p51_2:=(hnd'.below (zAa hBW Bz)).at 2 (.bool y.s') rfl
   have p51_3:=(hnd'.below (zAa hBW Bz)).at 3 (.slice y.A' y.l' y.c') rfl
   refine hK.out _ _ ⟨p50_0,p50_1,p50_2,p50_3,p51_0,p51_1,p51_2,p51_3⟩ (fun _=>?_)
   try simp only[pUt,pLt,pZt,pSt]
   clear hK K
   refine zAb (o:=⟨some _,_,_,_,_,_⟩) rfl rfl (fun w' ⟨p50_0,p50_1,p50_2,p50_3,p51_0,p51_1,p51_2,p51_3⟩=>by go_simp<;>with_reducible rfl) ?_
   try simp only[pUt,pLt,pZt,pSt]
   refine zAe ?_
   go_wp2_with fail
   go_roundg (n-(i+1))
   case measure=>have:=HGK.out;omega
   case rel=>exact⟨i+1,by omega,rfl,by go_num,zAa (zAa hB Bz) (by go_grown),zAa (zAa hBW Bz) (by go_grown)⟩
  ·obtain rfl:i=n:=by omega
   have i1:¬(i:Int)<(i:Int):=by omega
   have Bz:=Below.refl wr.heap.size wr
   go_wp2_with fail
   with_reducible refine(awake5_q (Lib.hid (Tab.below hT.out (zAa hB (zAa (b:=wr) Bz (by go_grown)))))).mono ?_
   rintro e w21 ⟨rfl,b21⟩
   replace b21:=zAa (a:=wr) (by go_grown) b21
   replace Bz:=zAa Bz b21
   clear b21
   go_wp2_with fail
   go_ret
   have hF:=zAa (c:=w21) hB Bz
   exact⟨rfl,zAa hF (by go_grown)⟩
theorem of_law_q {w:World} {A:Option Addr} {n c:Nat} {L:List Fr} (h:Sl Fr.cs 4 w A n c L) (hi:Hid (∀x∈L,FrIn w x)) (hln:n≤9223372036854775807) (hT:Hid (Tab w)) :
  Calls Tryz.prog 4 #[.slice A n c] w (Yes w):=by
 cases s0:shortFrs 30 4 n L
 ·exact of_no h hi hln (Lib.hid s0) hT
 ·exact of_yes h hi hln (Lib.hid s0) hT
def FsIn (W:World) (v:Value):Prop:=∃(A:Option Addr) (n c:Nat) (L:List Fr),v=.slice A n c∧Sl Fr.cs 4 W A n c L∧(∀x∈L,FrIn W x)∧n≤9223372036854775807
open Go.ChangeShapes Go.WideShapes Go.ChangeAt in
theorem fsv_of {H:Type} {enc:TypeId×Value→H} {W:World} {b:Nat} {sp:Nat→Bool} {hd:Bool} {v:Value} {d:DataW H} {p:List MemPlace}
  (h:DataW.Trod enc Tryz.prog W b sp hd 25 v d p) (hv:∃A n c,v=.slice A n c):FsIn W v:=by
 obtain⟨A,n,c,rfl⟩:=hv
 obtain⟨fuel,hf⟩:=h
 have hf2:DataW.trod enc Tryz.prog W b sp hd fuel 25 [.slice A n c]=some (d,p):=by simpa [Value.cells] using hf
 obtain⟨A',n',c',L,e,h1,h2,h3,h4⟩:=frs_of hf2
 simp only[List.cons.injEq,Value.slice.injEq,and_true] at e
 obtain⟨rfl,rfl,rfl⟩:=e
 exact⟨A,n,c,L,rfl,h3,h4,by unfold maxLen at h2;omega⟩
theorem of_any {w:World} {x:Value} (hx:FsIn w x) (hT:Tab w):Calls Tryz.prog 4 #[x] w (Yes w):=by
 obtain⟨A,n,c,L,rfl,x1,x2,x3⟩:=hx
 exact of_law_q x1 (Lib.hid x2) x3 (Lib.hid hT)
namespace sparseOf
open Go.ChangeShapes Go.WideShapes Go.ChangeAt Go.RowKit Tw
set_option maxRecDepth 100000 in
theorem contract (H:Type) (enc:TypeId×Value→H) (W:World) (base:Nat) (args:Array Value) (ds gs:List (DataW H)) (before:List MemPlace)
  (hval:∀(j:Nat) t v,Tryz.f4.params[j]?=some t→args[j]?=some v→Value.okWide Tryz.prog W .any base t v)
  (hW:DataW.Whole enc Tryz.prog Tryz.f4.params.toList Rows.sparseOfSpec.vars false W args.toList ds gs before) (hL:laidMetH Tryz.prog Rows.sparseOfRow.laid W) :
  Calls Tryz.prog 4 args W fun e W'=>∃v,e=.returned v∧Rows.sparseOfSpec.post enc Tryz.prog Tryz.f4 false true false false W args v W':=by
 have hW':=hW
 obtain⟨p,q,hA0,hV,rfl,hfz,hnd⟩:=hW
 have hA:DataW.TrodAll enc Tryz.prog W 0 (fun _=>true) true Tryz.f4.params.toList args.toList ds p:=hA0
 rw[Tryz.params4] at hA hval
 obtain⟨v0,vs0,d0,ds0,p0,q0,hargs,rfl,rfl,h0,r0⟩:=trodAll_cons hA
 obtain⟨rfl,rfl,rfl⟩:=trodAll_nil r0
 obtain rfl:args=#[v0]:=by cases args;simp_all
 obtain⟨rfl,rfl⟩:=trodVars_none hV
 have lt0:∀x∈p0,x.block<W.heap.size:=by obtain⟨m,hm⟩:=h0;exact DataW.trod_lt m _ _ _ hm
 obtain⟨A0,l0,c0,rfl⟩:=okWide_slice Tryz.underlying25 (hval 0 25 v0 rfl rfl)
 have n0:=fsv_of h0 ⟨_,_,_,rfl⟩
 refine(of_any n0 (tab_of hL)).mono fun e W' ⟨he,bel⟩=>?_
 subst he
 exact⟨_,rfl,_,_,_,[],_,[],hW',trodAll_mk1 (shut_bool Tryz.underlying4 _),(trodAll_cons_mk (Below.trod laidOut (by kernel_rfl) (of_decide_eq_true (by kernel_rfl)) h0 bel lt0) trodAll_mk0),rfl,bel.frame _,fun h=>by cases h⟩
theorem laid_met (os:Os):laidMet Tryz.prog Rows.sparseOfRow.laid ((laidWorld os).forCall (fun _ _=>0) ⟨#[],#[.slice none 0 0],[]⟩).memory :=
 laidMet_of_run' 8 (by kernel_rfl) (by kernel_rfl)
set_option maxRecDepth 100000 in
theorem reads (os:Os) {H:Type} (enc:TypeId×Value→H):∃places,DataW.whole enc Tryz.prog ((laidWorld os).forCall (fun _ _=>0) ⟨#[],#[.slice none 0 0],[]⟩).memory Tryz.f4.params.toList Rows.sparseOfSpec.vars false (#[.slice none 0 0]:Array Value).toList 8=some ([.nil],[],places) :=
 ⟨[],by kernel_rfl⟩
set_option maxRecDepth 100000 in
theorem lifted (os:Os) (started:os.Started) (H:Type) (enc:TypeId×Value→H) (F:Stop.Interp) :
  ReturnsInHanded {} Tryz.checked os 4 .any ((OpenSpec.ofChange Rows.sparseOfSpec).preRow enc Tryz.prog Tryz.f4 Rows.sparseOfRow.domain false Rows.sparseOfRow.laid) (((OpenSpec.ofChange Rows.sparseOfSpec).at F).post enc Tryz.prog Tryz.f4 false true false false):=by
 obtain⟨places,hx⟩:=reads os enc
 refine returnsInHanded_of_row (C:=Tryz.checked) (s:=OpenSpec.ofChange Rows.sparseOfSpec) own started (by kernel_rfl) Tryz.func4
  (witness_row_at (enc:=enc) (C:=Tryz.checked) false (laidWorld os) #[.slice none 0 0] rfl (by kernel_rfl) (by kernel_rfl) (by kernel_rfl)
   (OpenSpec.preRow_of_cond 8 hx (by kernel_rfl) (fun k hk=>by cases hk) (by kernel_rfl) (laid_met os))) ?_
 intro W base args ds gs before hval hW _ _ _ hL _ _
 exact contract H enc W base args ds gs before hval hW hL
theorem said:Rows.SparseOfSaid :=
 OpenClaim.holds_of_cond 4 Tryz.f4 rfl rfl rfl rfl rfl rfl rfl ⟨rfl,rfl,rfl,rfl,rfl⟩ rfl rfl rfl rfl rfl (by kernel_rfl) Tryz.func4 (by kernel_rfl)
  (of_decide_eq_true (by kernel_rfl)) (by unfold Func.isWrapper;first | (rw[if_pos (by decide +kernel)];kernel_rfl) | (rw[if_neg (by decide +kernel)];exact⟨rfl,rfl⟩))
  (fun os started H enc _ F=>by rw[OpenClaim.pre_eq_preRow];exact lifted os started H enc F)
theorem plain (f : FuncId) (fn : Func) (hf : Tryz.pinned.checked.prog.funcNamed "tripwire/tripwirelaw05.SparseOf" = some f) (hfn : Tryz.pinned.checked.prog.funcs[f]? = some fn) :
  false=Tryz.pinned.checked.prog.looks []∧∀(j:Nat) t,fn.params[j]?=some t→Tryz.pinned.checked.prog.wantsStandIn t=false:=by
 obtain rfl : f = 4 := Option.some.inj ((show Tryz.prog.funcNamed "tripwire/tripwirelaw05.SparseOf" = some 4 by kernel_rfl).symm.trans hf) |>.symm
 obtain rfl:fn=Tryz.f4:=(Option.some.inj (Tryz.func4.symm.trans hfn)).symm
 refine⟨by kernel_rfl,fun j t ht=>?_⟩
 rw[Tryz.params4] at ht
 obtain rfl:t=25:=by simpa using Array.mem_of_getElem? ht
 exact(show Tryz.prog.wantsStandIn 25=false by kernel_rfl)
theorem card:Rows.SparseOfCardSaid :=
 Claim7.holds_tied_plain_at .later [] _ _ _ _ said (fun _ h=>by cases h) (by kernel_rfl) (fun _ h=>by cases h) sparseOf_row_tie rfl ⟨rfl,rfl⟩ (by kernel_rfl) rfl plain (by kernel_rfl)
end sparseOf
end Go.Proofs.YtldcfmangolkoaaGreatDoor
