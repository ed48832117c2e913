/-
  matrix.Left. Written by wip/gen/lf1.py.
-/
import Derived.Test.YtldcfmangolkoaaGreatDoorYMx2
import Derived.Test.YtldcfmangolkoaaGreatDoorYSo8
import Derived.Test.YtldcfmangolkoaaGreatDoorYRow
namespace Go.Proofs.YtldcfmangolkoaaGreatDoor
open Go.RowKit Tw
theorem elt_frs:Elt Fr.cs 4 25 57:=Elt.of (.agg #[.bool false,.slice none 0 0,.bool false,.slice none 0 0]) 64 Tryz.underlying25 (by kernel_rfl) (by omega) (by kernel_rfl) (nou_list (by kernel_rfl)) Fr.cs_len
 (fun x u hu=>by simp[Fr.cs] at hu;rcases hu with rfl | rfl | rfl | rfl<;>rfl) (fun x u hu n=>by simp[Fr.cs] at hu;rcases hu with rfl | rfl | rfl | rfl<;>simp)
theorem fr_zero {i:TypeInfo} {z:Value} (h:Tryz.prog.info? 57=some i) (hz:i.zero=some z):z.cells.toList=Fr.cs zFr:=by
 have h1:(Tryz.prog.info? 57).map (fun i=>i.zero)=some (some (.agg #[.bool false,.slice none 0 0,.bool false,.slice none 0 0])):=by kernel_rfl
 rw[h,Option.map_some,hz] at h1
 obtain rfl:z=.agg #[.bool false,.slice none 0 0,.bool false,.slice none 0 0]:=by simpa using h1
 rfl
theorem fr_store {w:World} {B g n cap i:Nat} {L:List Fr} (h:OwnR w B 57 4 (.slice (some ⟨g,0,none⟩) n cap) n (flat Fr.cs L)) {y:Fr} (hy:L[i]?=some y) (x:Fr) :
  ∃V,V=(((w.setCell ⟨g,i*4,none⟩ (.bool x.s)).setCell ⟨g,i*4+1,none⟩ (.slice x.A x.l x.c)).setCell ⟨g,i*4+2,none⟩ (.bool x.s')).setCell ⟨g,i*4+3,none⟩ (.slice x.A' x.l' x.c')∧
   OwnR V B 57 4 (.slice (some ⟨g,0,none⟩) n cap) n (flat Fr.cs (L.set i x))∧Grew w V (.slice (some ⟨g,0,none⟩) n cap) (.slice (some ⟨g,0,none⟩) n cap):=by
 have:=elt_frs.sets h hy (y:=x) [(0,.bool x.s),(1,.slice x.A x.l x.c),(2,.bool x.s'),(3,.slice x.A' x.l' x.c')] (fun p hp=>by simp at hp;rcases hp with rfl | rfl | rfl | rfl<;>exact⟨by simp,by simp⟩) rfl
 exact⟨_,rfl,this⟩
theorem fr_0 {w:World} {B g n cap i:Nat} {L:List Fr} (h:OwnR w B 57 4 (.slice (some ⟨g,0,none⟩) n cap) n (flat Fr.cs L)) {y:Fr} (hy:L[i]?=some y):w.cell? ⟨g,i*4,none⟩=some (.bool y.s) :=
 elt_frs.cell h hy (j:=0) (u:=.bool y.s) (by omega) rfl
def AllFr (w:World) (K:Nat) (L:List Fr):Prop:=∀x∈L,FrOk w K x
theorem AllFr.below {w w':World} {K:Nat} {L:List Fr} (h:AllFr w K L) (hb:Below w.heap.size w w'):AllFr w' K L:=fun x hx=>(h x hx).below hb
theorem AllFr.k {w w':World} {K:Nat} {L:List Fr} (h:AllFr w K L) (hb:K64 w w'):AllFr w' K L:=fun x hx=>(h x hx).k hb
theorem AllFr.set {w:World} {K:Nat} {L:List Fr} (h:AllFr w K L) (i:Nat) {x:Fr} (hx:FrOk w K x):AllFr w K (L.set i x):=fun y hy=>by
 rcases List.mem_or_eq_of_mem_set hy with hy | rfl
 ·exact h y hy
 ·exact hx
open Go.RowKit Tw
def AllRn (w:World) (K:Nat) (L:List Fr):Prop:=∀x∈L,RN w x.s x.A x.c x.l x.s' x.A' x.c' x.l' x.q∧x.ex=true∧sz x.q+1≤K
theorem AllRn.below {w w':World} {K:Nat} {L:List Fr} (h:AllRn w K L) (hb:Below w.heap.size w w'):AllRn w' K L:=fun x hx=>⟨(h x hx).1.below hb,(h x hx).2⟩
theorem AllRn.k {w w':World} {K:Nat} {L:List Fr} (h:AllRn w K L) (hb:K64 w w'):AllRn w' K L:=fun x hx=>⟨(h x hx).1.k hb,(h x hx).2⟩
theorem AllRn.set {w:World} {K:Nat} {L:List Fr} (h:AllRn w K L) (i:Nat) {x:Fr} (hx:RN w x.s x.A x.c x.l x.s' x.A' x.c' x.l' x.q∧x.ex=true∧sz x.q+1≤K):AllRn w K (L.set i x):=fun y hy=>by
 rcases List.mem_or_eq_of_mem_set hy with hy | rfl
 ·exact h y hy
 ·exact hx
theorem AllRn.put {w:World} {K:Nat} {s s':Bool} {A A':Option Addr} {c l c' l':Nat} {q:Rat} (h:RN w s A c l s' A' c' l' q) (hs:sz q+1≤K):RN w s A c l s' A' c' l' q∧true=true∧sz q+1≤K:=⟨h,rfl,hs⟩
theorem AllRn.zeros (w:World) (m:Nat) {K:Nat} (hK:2≤K):AllRn w K (List.replicate m zFr):=fun x hx=>by
 rw[List.eq_of_mem_replicate hx]
 refine⟨(zFr_ok w (m:=1) (by omega)).rn.1 rfl,rfl,?_⟩
 have:=sz_zero
 show sz 0+1≤K
 omega
def denseF (P:List (Int×Rat)) (m:Nat):List Rat:=(List.range m).map fun(i:Nat)=>pget P (i:Int)
def DnsE (D:List Fr) (T:List Tm):Prop:=∀(i:Nat) y,D[i]?=some y→y.q=pget (prs T) (i:Int)
theorem DnsE.start (m:Nat):DnsE (List.replicate m zFr) []:=fun i y hy=>by rw[List.eq_of_mem_replicate (List.mem_of_getElem? hy)];rfl
theorem dns_get {T:List Tm} {j:Nat} {x:Tm} (hx:T[j]?=some x) (a:Int):pget (prs (T.take (j+1))) a=pget (prs (T.take j)) a+if x.at_=a then x.x.q else 0:=by
 rw[take_snoc hx,prs_append,pget_append]
 congr 1
 exact pget_one (x.at_,x.x.q) a
theorem DnsE.skip {D:List Fr} {T:List Tm} {j:Nat} {x:Tm} (h:DnsE D (T.take j)) (hx:T[j]?=some x) (ho:x.at_<0∨(D.length:Int)≤x.at_):DnsE D (T.take (j+1)):=fun i y hy=>by
 have hi:=(List.getElem?_eq_some_iff.1 hy).1
 rw[dns_get hx,if_neg (by omega),Rat.add_zero]
 exact h i y hy
theorem DnsE.step {D:List Fr} {T:List Tm} {j a:Nat} {x:Tm} {y:Fr} (h:DnsE D (T.take j)) (hr:Rise (prs T)) (hx:T[j]?=some x) (ha:x.at_=(a:Int)) (hy:D[a]?=some y) (r:Fr) (hq:r.q=x.x.q):DnsE (D.set a r) (T.take (j+1)):=fun i z hz=>by
 have hal:=(List.getElem?_eq_some_iff.1 hy).1
 by_cases e:i=a
 ·subst e
  rw[List.getElem?_set_self hal,Option.some.injEq] at hz
  subst hz
  have h2:Rise (prs (T.take (j+1))):=by rw[←prs_take];exact List.Pairwise.sublist (List.take_sublist _ _) hr
  have h3:(x.at_,x.x.q)∈prs (T.take (j+1)):=by rw[take_snoc hx,prs_append];exact List.mem_append_right _ (List.mem_singleton.2 rfl)
  rw[←ha,h2.get h3,hq]
 ·rw[List.getElem?_set_ne (fun e2=>e e2.symm)] at hz
  rw[dns_get hx,if_neg (by omega),Rat.add_zero]
  exact h i z hz
theorem DnsE.done {D:List Fr} {T:List Tm} {m:Nat} (h:DnsE D T) (hl:D.length=m):D.map (fun x=>x.q)=denseF (prs T) m:=by
 apply List.ext_getElem?
 intro i
 unfold denseF
 rw[List.getElem?_map,List.getElem?_map]
 by_cases hi:i<m
 ·rw[List.getElem?_range hi,List.getElem?_eq_getElem (by omega)]
  simp only[Option.map_some]
  rw[h i _ (List.getElem?_eq_getElem (by omega))]
 ·rw[List.getElem?_eq_none (by omega),List.getElem?_eq_none (by rw[List.length_range];omega)]
  rfl
theorem denseF_nrm (P:List (Int×Rat)) (m:Nat):denseF (nrm P) m=denseF P m:=by
 unfold denseF
 exact List.map_congr_left fun i _=>nrm_get P i
def TellsFs (w:World) (l:List Rat) (K:Nat) (e:Ending) (w':World):Prop:=∃A n c L,e=.returned (.slice A n c)∧Sl Fr.cs 4 w' A n c L∧AllRn w' K L∧L.map (fun x=>x.q)=l∧Below w.heap.size w w'
def DS1 (w:World) (g m M nm:Nat) (X:Value) (T:List Tm) (gk:Nat) (s:Value) (wr:World):Prop :=
 ∃(j:Nat) (D:List Fr),j≤nm∧nm-j=gk∧s=.int .i64 (j:Int)∧OwnR wr w.heap.size 57 4 (.slice (some ⟨g,0,none⟩) m m) m (flat Fr.cs D)∧OwnR wr w.heap.size 118 5 X nm (flat Tm.cs T)∧AllRn wr M D∧DnsE D (T.take j)∧OnT wr T (fun _=>M)∧Below w.heap.size w wr
set_option maxRecDepth 100000 in
set_option maxHeartbeats 4000000 in
theorem dense_no {w:World} {X:Option Addr} {nx cx:Nat} (k:Int) (g1:k<1):Calls Tryz.prog 24 #[.slice X nx cx,.int .i64 k] w fun e w'=>e=.returned (.slice none 0 0)∧Below w.heap.size w w':=by
 go_enter Tryz.func24,Tryz.ntmps24
 go_wp2_with fail
 go_ret
 exact⟨rfl,Below.refl _ _⟩
set_option maxRecDepth 100000 in
set_option maxHeartbeats 8000000 in
theorem denseV_q {w:World} {X:Option Addr} {nx cx m M:Nat} {P:List (Int×Rat)} (h:GV w X nx cx P M) (hM:M≤18000) (hM2:2≤M) (hnx:nx≤1000000) (hm1:1≤m) (hm:m≤65536) (hT:Hid (Tab w)) :
  Calls Tryz.prog 24 #[.slice X nx cx,.int .i64 (m:Int)] w (TellsFs w (denseF P m) M):=by
 have HX:=Lib.hid h
 have HPL:=Lib.hid h.len
 have g1:¬(m:Int)<1:=by omega
 have g2:(m:Int)≤65536:=by omega
 clear h
 go_enter Tryz.func24,Tryz.ntmps24
 go_wp2_with (at_make;refine And.left (b:=True) ?_)
 refine⟨?_,trivial⟩
 refine Elt.makeN elt_frs zFr (fun i z h1 h2=>fr_zero h1 h2) rfl _ _ rfl .i64 .i64 m (by rw[show min (m:Int) 65536=(m:Int) by omega];rfl) (by rw[show min (m:Int) 65536=(m:Int) by omega];rfl) (by omega) w.heap.size (Nat.le_refl _) ?_
 intro g w1 ho1 b1
 have HO1:=Lib.hid ho1
 have hnq:=normO_q (HX.out.below b1) (by omega) hnx (Lib.hid (hT.out.below b1))
 have HB1:=Lib.hid b1
 clear ho1 b1
 go_wp2_with fail
 with_reducible refine hnq.mono ?_
 rintro e w2 ⟨Am,nm,cm,T,rfl,ho2,on2,ep,b2⟩
 have HAP:Ap (.slice Am nm cm) (.slice (some ⟨g,0,none⟩) m m):=by
  cases e:(Value.slice Am nm cm).ownBlock with
  | none=>exact .inl e
  | some b =>
   refine .inr fun e2=>?_
   rw[e] at e2
   have h1:=ho2.base b e
   have h2:=HO1.out.lt b e2.symm
   omega
 have HO2:=Lib.hid (ho2.rebase HB1.out.size)
 have HO3:=Lib.hid (HO1.out.below b2)
 have HN2:=Lib.hid on2
 have HEP:=Lib.hid ep
 have HRI:Hid (Rise (prs T)):=Lib.hid (by rw[ep];exact(nrm_nrm P).rise)
 have HTL:=Lib.hid (ho2.eltn elt_vec (by omega))
 have HB2:=Lib.hid (zAa HB1.out b2)
 have hnm:nm≤1000000:=by
  have h1:=nrm_len P
  rw[←ep,prs_len,ho2.eltn elt_vec (by omega)] at h1
  have:=HPL.out
  omega
 clear hnq ho2 on2 ep b2 HO1 HB1
 go_wp2_with fail
 go_loopg [16] nm (fun gk s wr=>DS1 w g m M nm (.slice Am nm cm) T gk s wr)
 case atStart=>exact⟨0,_,Nat.zero_le _,rfl,rfl,HO3.out,HO2.out,AllRn.zeros _ _ hM2,by rw[List.take_zero];exact DnsE.start m,HN2.out,HB2.out⟩
 case round =>
  clear HO2 HO3 HN2 HB2
  obtain⟨j,D0,hj,hgj,rfl,ho,ht,hfr,hd,hon,hB⟩:=hrel
  have HGJ:=Lib.hid hgj
  have HD:=Lib.hid hd
  have HDL:=Lib.hid (ho.eltn elt_frs (by omega))
  clear hgj hd
  by_cases hlj:j<nm
  ·obtain⟨eb,offe,rfl,hel⟩:=(ht.sl' elt_vec HTL.out).at Tm.cs_len (by omega) (by omega)
   obtain⟨x,hx⟩:∃x,T[j]?=some x:=⟨T[j]'(by rw[HTL.out];exact hlj),List.getElem?_eq_getElem _⟩
   have hnd:=hel j x hx
   have HXI:=Lib.hid hx
   have HXN:=Lib.hid (hon x (List.mem_of_getElem? hx))
   have apT:=HAP
   have j1:(j:Int)<(nm:Int):=by omega
   have j2:(0:Int)≤(j:Int):=by omega
   clear hel hx
   by_cases k1:x.at_<0
   ·have HD2:=Lib.hid (HD.out.skip HXI.out (.inl k1))
    have g3:¬0≤x.at_:=by omega
    have Bz:=Below.refl wr.heap.size wr
    have p50_0:=(hnd.below Bz).c0 (u:=.int .i64 x.at_) rfl
    have p50_1:=(hnd.below Bz).at 1 (.bool x.x.s) rfl
    have p50_2:=(hnd.below Bz).at 2 (.slice x.x.A x.x.l x.x.c) rfl
    have p50_3:=(hnd.below Bz).at 3 (.bool x.x.s') rfl
    have p50_4:=(hnd.below Bz).at 4 (.slice x.x.A' x.x.l' x.x.c') rfl
    go_upto_region 7 with(fail)
    obtain⟨V11,hW,x0,hN⟩:=zAi wr #[.int .i64 x.at_,.bool x.x.s,.slice x.x.A x.x.l x.x.c,.bool x.x.s',.slice x.x.A' x.x.l' x.x.c'] 118
    rw[←hW]
    clear hW
    obtain⟨v0,hb0⟩:∃b,b=wr.heap.size:=⟨_,rfl⟩
    rw[←hb0] at x0 ⊢
    have ow_0:w.heap.size≤v0:=by have:=hB.size;have:=Bz.size;omega
    replace hfr:=hfr.below hN
    replace hon:=hon.below hN
    replace ho:=ho.below hN
    replace ht:=ht.below hN
    replace hB:=zAa (zAa hB Bz) hN
    have HX0:=Lib.hid x0
    clear x0 hN Bz hb0
    have Bz:=Below.refl V11.heap.size V11
    clear p50_0 p50_1 p50_2 p50_3 p50_4
    have p0_0:=(HX0.out.below Bz).cell 0 (.int .i64 x.at_) rfl
    go_wp2_with fail
    go_roundg (nm-(j+1))
    case measure=>have:=HGJ.out;omega
    case rel=>exact⟨j+1,_,by omega,rfl,by go_num,OwnR.below ho (by go_grown),OwnR.below ht (by go_grown),AllRn.below hfr (by go_grown),HD2.out,OnT.below hon (by go_grown),zAa (zAa hB Bz) (by go_grown)⟩
   ·by_cases k2:(m:Int)≤x.at_
    ·have HD2:=Lib.hid (HD.out.skip HXI.out (.inr (by rw[HDL.out];exact k2)))
     have g3:0≤x.at_:=by omega
     have g4:¬x.at_<(m:Int):=by omega
     have Bz:=Below.refl wr.heap.size wr
     have p50_0:=(hnd.below Bz).c0 (u:=.int .i64 x.at_) rfl
     have p50_1:=(hnd.below Bz).at 1 (.bool x.x.s) rfl
     have p50_2:=(hnd.below Bz).at 2 (.slice x.x.A x.x.l x.x.c) rfl
     have p50_3:=(hnd.below Bz).at 3 (.bool x.x.s') rfl
     have p50_4:=(hnd.below Bz).at 4 (.slice x.x.A' x.x.l' x.x.c') rfl
     go_upto_region 7 with(fail)
     obtain⟨V11,hW,x0,hN⟩:=zAi wr #[.int .i64 x.at_,.bool x.x.s,.slice x.x.A x.x.l x.x.c,.bool x.x.s',.slice x.x.A' x.x.l' x.x.c'] 118
     rw[←hW]
     clear hW
     obtain⟨v0,hb0⟩:∃b,b=wr.heap.size:=⟨_,rfl⟩
     rw[←hb0] at x0 ⊢
     have ow_0:w.heap.size≤v0:=by have:=hB.size;have:=Bz.size;omega
     replace hfr:=hfr.below hN
     replace hon:=hon.below hN
     replace ho:=ho.below hN
     replace ht:=ht.below hN
     replace hB:=zAa (zAa hB Bz) hN
     have HX0:=Lib.hid x0
     clear x0 hN Bz hb0
     have Bz:=Below.refl V11.heap.size V11
     clear p50_0 p50_1 p50_2 p50_3 p50_4
     have p0_0:=(HX0.out.below Bz).cell 0 (.int .i64 x.at_) rfl
     go_wp2_with fail
     go_roundg (nm-(j+1))
     case measure=>have:=HGJ.out;omega
     case rel=>exact⟨j+1,_,by omega,rfl,by go_num,OwnR.below ho (by go_grown),OwnR.below ht (by go_grown),AllRn.below hfr (by go_grown),HD2.out,OnT.below hon (by go_grown),zAa (zAa hB Bz) (by go_grown)⟩
    ·have g3:0≤x.at_:=by omega
     have g4:x.at_<(m:Int):=by omega
     obtain⟨y,hy⟩:∃y,D0[x.at_.toNat]?=some y:=⟨D0[x.at_.toNat]'(by rw[HDL.out];omega),List.getElem?_eq_getElem _⟩
     have HY:=Lib.hid hy
     have HD2:Hid (∀r:Fr,r.q=x.x.q→DnsE (D0.set x.at_.toNat r) (T.take (j+1))):=Lib.hid (fun r hr=>HD.out.step HRI.out HXI.out (by omega) HY.out r hr)
     have hxr:=HXN.out.1
     clear hy
     have Bz:=Below.refl wr.heap.size wr
     have p50_0:=(hnd.below Bz).c0 (u:=.int .i64 x.at_) rfl
     have p50_1:=(hnd.below Bz).at 1 (.bool x.x.s) rfl
     have p50_2:=(hnd.below Bz).at 2 (.slice x.x.A x.x.l x.x.c) rfl
     have p50_3:=(hnd.below Bz).at 3 (.bool x.x.s') rfl
     have p50_4:=(hnd.below Bz).at 4 (.slice x.x.A' x.x.l' x.x.c') rfl
     go_upto_region 7 with(fail)
     obtain⟨V11,hW,x0,hN⟩:=zAi wr #[.int .i64 x.at_,.bool x.x.s,.slice x.x.A x.x.l x.x.c,.bool x.x.s',.slice x.x.A' x.x.l' x.x.c'] 118
     rw[←hW]
     clear hW
     obtain⟨v0,hb0⟩:∃b,b=wr.heap.size:=⟨_,rfl⟩
     rw[←hb0] at x0 ⊢
     have ow_0:w.heap.size≤v0:=by have:=hB.size;have:=Bz.size;omega
     replace hfr:=hfr.below hN
     replace hon:=hon.below hN
     replace ho:=ho.below hN
     replace ht:=ht.below hN
     replace hxr:=hxr.below hN
     replace hB:=zAa (zAa hB Bz) hN
     have HX0:=Lib.hid x0
     clear x0 hN Bz hb0
     have Bz:=Below.refl V11.heap.size V11
     clear p50_0 p50_1 p50_2 p50_3 p50_4
     have p0_0:=(HX0.out.below Bz).cell 0 (.int .i64 x.at_) rfl
     have p0_1:=(HX0.out.below Bz).cell 1 (.bool x.x.s) rfl
     have p0_2:=(HX0.out.below Bz).cell 2 (.slice x.x.A x.x.l x.x.c) rfl
     have p0_3:=(HX0.out.below Bz).cell 3 (.bool x.x.s') rfl
     have p0_4:=(HX0.out.below Bz).cell 4 (.slice x.x.A' x.x.l' x.x.c') rfl
     have p51_0:=fr_0 ho HY.out
     have p51_1:=elt_frs.cell ho HY.out (j:=1) (u:=.slice y.A y.l y.c) (by omega) rfl
     have p51_2:=elt_frs.cell ho HY.out (j:=2) (u:=.bool y.s') (by omega) rfl
     have p51_3:=elt_frs.cell ho HY.out (j:=3) (u:=.slice y.A' y.l' y.c') (by omega) rfl
     have f51_0:=ho.frozen (x.at_.toNat*4)
     have f51_1:=ho.frozen (x.at_.toNat*4+1)
     have f51_2:=ho.frozen (x.at_.toNat*4+2)
     have f51_3:=ho.frozen (x.at_.toNat*4+3)
     have y51:=ho.blk.1
     go_upto_region 9 with(fail)
     obtain⟨V12,hV,ho2,hg2⟩:=fr_store ho HY.out ⟨x.x.s,x.x.A,x.x.c,x.x.l,x.x.s',x.x.A',x.x.c',x.x.l',x.x.q,true⟩
     rw[←hV]
     clear hV
     replace hB:=(zAa hB Bz).trans (hg2.below (by have:=hB.size;have:=Bz.size;omega) (fun g' hg'=>by have:=ho.base g' hg';omega))
     have ht2:=ht.grown hg2 apT
     replace hfr:=AllRn.set hfr x.at_.toNat (x:=⟨x.x.s,x.x.A,x.x.c,x.x.l,x.x.s',x.x.A',x.x.c',x.x.l',x.x.q,true⟩) (AllRn.put (RN.below hxr (by go_grown)) HXN.out.2.2)
     clear HX0
     replace hfr:=hfr.k hg2.k
     replace hon:=hon.k hg2.k
     clear ho ht
     have ho:=ho2
     have ht:=ht2
     clear ho2 hg2 ht2 Bz
     have Bz:=Below.refl V12.heap.size V12
     clear p0_0 p0_1 p0_2 p0_3 p0_4 p51_0 p51_1 p51_2 p51_3 f51_0 f51_1 f51_2 f51_3 y51
     go_wp2_with fail
     go_roundg (nm-(j+1))
     case measure=>have:=HGJ.out;omega
     case rel=>exact⟨j+1,_,by omega,rfl,by go_num,OwnR.below ho (by go_grown),OwnR.below ht (by go_grown),AllRn.below hfr (by go_grown),HD2.out _ rfl,OnT.below hon (by go_grown),zAa (zAa hB Bz) (by go_grown)⟩
  ·obtain rfl:j=nm:=by omega
   have j1:¬(j:Int)<(j:Int):=by omega
   have HDN:Hid (D0.map (fun x=>x.q)=denseF P m):=Lib.hid (by
    have h9:=HD.out
    rw[List.take_of_length_le (by rw[HTL.out];exact Nat.le_refl _)] at h9
    rw[h9.done HDL.out,HEP.out,denseF_nrm])
   have HSL:=Lib.hid (ho.sl' elt_frs HDL.out)
   have HFR:=Lib.hid hfr
   clear ho ht hfr hon
   go_wp2_with fail
   go_ret
   exact⟨_,_,_,D0,rfl,HSL.out,HFR.out,HDN.out,hB⟩
end Go.Proofs.YtldcfmangolkoaaGreatDoor
