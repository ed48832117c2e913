/-
  sparse.ordered, sparse.join, sparse.Add. Written by wip/gen/so5.py.
-/
import Derived.Test.YtjkgjiofmgapfaaGreatDoorYSo1
import Derived.Test.YtjkgjiofmgapfaaGreatDoorYVj
set_option maxHeartbeats 8000000
set_option maxRecDepth 100000
namespace Go.Proofs.YtjkgjiofmgapfaaGreatDoor
open Go.RowKit Tw
def TellsO (w:World) (P:List (Int×Rat)) (M n:Nat) (e:Ending) (w':World):Prop :=
 ∃A' n' c' P',e=.returned (.slice A' n' c')∧GV w' A' n' c' P' (M+1)∧Rise P'∧(∀a,pget P' a=pget P a)∧n'≤n∧Below w.heap.size w w'
def OR1 (w:World) (L:List Tm) (n gk:Nat) (s:Value) (wr:World):Prop:=∃i:Nat,i≤n∧n-i=gk∧s=.int .i64 (i:Int)∧Below w.heap.size w wr∧Rise (prs (L.take i))
theorem rise_next {L:List Tm} {k:Nat} {x y:Tm} (h:Rise (prs (L.take (k+1)))) (hy:L[k]?=some y) (hx:L[k+1]?=some x) (hl:y.at_<x.at_):Rise (prs (L.take (k+1+1))):=by
 rw[take_snoc hx,prs_append]
 refine h.snoc fun z hz=>?_
 rw[take_snoc hy,prs_append] at h hz
 rcases List.mem_append.1 hz with hz | hz
 ·have:=(Rise.front (x:=(y.at_,y.x.q)) h).2 z hz
  simp only at this ⊢
  omega
 ·obtain rfl:=List.mem_singleton.1 hz;exact hl
theorem ordered_q {w:World} {A:Option Addr} {n c M:Nat} {P:List (Int×Rat)} (h:GV w A n c P M) (hM:M≤19000000000) (hn:n≤1000000) (hT:Hid (Tab w)) :
  Calls Tryz.prog 78 #[.slice A n c] w (TellsO w P M n):=by
 have hg:=zh h
 obtain⟨L,h1,h2,rfl,h4,h5⟩:=h
 have HS:=zh h1
 have HLN:=zh h1.1
 clear h1 h2 h4 h5
 go_enter Tryz.func78,Tryz.ntmps78
 go_wp2_with fail
 go_loopg [6] n (fun gk s wr=>OR1 w L n gk s wr)
 case atStart=>exact⟨0,Nat.zero_le _,rfl,rfl,Below.refl _ _,List.Pairwise.nil⟩
 case round =>
  obtain⟨i,hi,hgk,rfl,hB,hr⟩:=hrel
  have HGK:=zh hgk
  clear hgk
  by_cases hlt:i<n
  ·obtain⟨b,off,rfl,hel⟩:=HS.out.at Tm.cs_len (by omega) (by omega)
   obtain⟨x,hx⟩:∃x,L[i]?=some x:=⟨L[i]'(by rw[HLN.out];exact hlt),List.getElem?_eq_getElem _⟩
   have hnd:=hel i x hx
   cases i with
   | zero =>
    have HR2:Hid (Rise (prs (L.take (0+1)))):=zh (by rw[take_snoc hx];exact List.pairwise_singleton _ _)
    have i1:(0:Int)<(n:Int):=by omega
    clear hx hel hr
    have Bz:=Below.refl wr.heap.size wr
    go_wp2_with fail
    (try simp only[List.append_eq,List.cons_append,List.nil_append])
    refine wp_region_plan (.take 0 (.take 1 (.take 2 (.take 3 (.take 4 (.take 5 (.take 6 (.take 7 (.take 8 (.take 9 (.take 10 (.take 11 (.take 12 (.take 13 (.take 14 (.take 15 .done)))))))))))))))) [] (fun w'=>True) (by kernel_rfl) (by kernel_rfl) trivial ?_
    iterate 3 (refine zT rfl rfl (fun w' _=>by go_simp<;>with_reducible rfl) ?_;try simp only[uW,uX,uY,uZ])
    iterate 12 (refine zN rfl rfl ?_;try simp only[uW,uX,uY,uZ])
    refine zT rfl rfl (fun w' _=>by go_simp<;>with_reducible rfl) ?_
    try simp only[uW,uX,uY,uZ]
    refine wpPlan_done ?_
    go_wp2_with fail
    go_roundg (n-(0+1))
    case measure=>have:=HGK.out;omega
    case rel=>exact⟨0+1,by omega,rfl,by go_num,zAa (zAa hB Bz) (by go_grown),HR2.out⟩
   | succ k =>
    obtain⟨y,hy⟩:∃y,L[k]?=some y:=⟨L[k]'(by rw[HLN.out];omega),List.getElem?_eq_getElem _⟩
    have hnd':=hel k y hy
    have i1:(k:Int)+1<(n:Int):=by omega
    have i2:(0:Int)≤(k:Int)+1:=by omega
    have i3:(0:Int)≤(k:Int):=by omega
    have i4:(k:Int)<(n:Int):=by omega
    have i5:(0:Int)<(k:Int)+1:=by omega
    have w6:IntKind.i64.wrap ((k:Int)+1-1)=(k:Int):=by rw[IntWalk.i64_in _ (by omega)];omega
    have w7:IntKind.i64.wrap (k:Int)=(k:Int):=IntWalk.i64_in _ (by omega)
    by_cases hl:y.at_<x.at_
    ·have HR2:=zh (rise_next hr hy hx hl)
     have g1:¬x.at_≤y.at_:=by omega
     clear hx hy hel hr hl
     have Bz:=Below.refl wr.heap.size wr
     have p50_0:=(hnd.below (zAa hB Bz)).c0 (u:=.int .i64 x.at_) rfl
     have p51_0:=(hnd'.below (zAa hB Bz)).c0 (u:=.int .i64 y.at_) rfl
     go_wp2_with fail
     (try simp only[List.append_eq,List.cons_append,List.nil_append])
     refine wp_region_plan (.take 0 (.take 1 (.take 2 (.take 3 (.take 4 (.take 5 (.take 6 (.take 7 (.take 8 (.take 9 (.take 10 (.take 11 (.take 12 (.take 13 (.take 14 (.take 15 .done)))))))))))))))) [] (fun w'=>w'.cell? ⟨b,off+(k+1)*5,none⟩=some (.int .i64 x.at_)∧w'.cell? ⟨b,off+k*5,none⟩=some (.int .i64 y.at_)) (by kernel_rfl) (by kernel_rfl) ⟨p50_0,p51_0⟩ ?_
     iterate 16 (refine zT rfl rfl (fun w' ⟨p50_0,p51_0⟩=>by go_simp<;>with_reducible rfl) ?_;try simp only[uW,uX,uY,uZ])
     refine wpPlan_done ?_
     go_wp2_with fail
     go_roundg (n-(k+1+1))
     case measure=>have:=HGK.out;omega
     case rel=>exact⟨k+1+1,by omega,rfl,by go_num,zAa (zAa hB Bz) (by go_grown),HR2.out⟩
    ·have g1:x.at_≤y.at_:=by omega
     clear hx hy hel hr hl
     have Bz:=Below.refl wr.heap.size wr
     have p50_0:=(hnd.below (zAa hB Bz)).c0 (u:=.int .i64 x.at_) rfl
     have p51_0:=(hnd'.below (zAa hB Bz)).c0 (u:=.int .i64 y.at_) rfl
     go_wp2_with fail
     (try simp only[List.append_eq,List.cons_append,List.nil_append])
     refine wp_region_plan (.take 0 (.take 1 (.take 2 (.take 3 (.take 4 (.take 5 (.take 6 (.take 7 (.take 8 (.take 9 (.take 10 (.take 11 (.take 12 (.take 13 (.take 14 (.take 15 .done)))))))))))))))) [] (fun w'=>w'.cell? ⟨b,off+(k+1)*5,none⟩=some (.int .i64 x.at_)∧w'.cell? ⟨b,off+k*5,none⟩=some (.int .i64 y.at_)) (by kernel_rfl) (by kernel_rfl) ⟨p50_0,p51_0⟩ ?_
     iterate 16 (refine zT rfl rfl (fun w' ⟨p50_0,p51_0⟩=>by go_simp<;>with_reducible rfl) ?_;try simp only[uW,uX,uY,uZ])
     refine wpPlan_done ?_
     go_wp2_with fail
     with_reducible refine(normV_q (hg.out.below (zAa hB (zAa (b:=wr) Bz (by go_grown)))) hM hn (zh (Tab.below hT.out (zAa hB (zAa (b:=wr) Bz (by go_grown)))))).mono ?_
     rintro e w1 ⟨A1,n1,c1,rfl,h1,b1⟩
     replace b1:=zAa (a:=wr) (by go_grown) b1
     replace Bz:=zAa Bz b1
     clear b1
     clear p50_0 p51_0
     go_wp2_with fail
     go_ret
     have hF:=zAa (c:=w1) hB Bz
     have hF2:=h1.len
     exact⟨A1,n1,c1,nrm (prs L),rfl,(NV.below h1 (by go_grown)).gv (nrm_nrm _).rise,(nrm_nrm _).rise,nrm_get _,by have:=nrm_len (prs L);have:=HLN.out;rw[prs_len] at *;omega,zAa (zAa hB Bz) (by go_grown)⟩
  ·obtain rfl:i=n:=by omega
   have i1:¬(i:Int)<(i:Int):=by omega
   rw[List.take_of_length_le (by rw[HLN.out];exact Nat.le_refl _)] at hr
   have HR:=zh hr
   clear hr
   go_wp2_with fail
   go_ret
   exact⟨A,i,c,prs L,rfl,(hg.out.below hB).mono (Nat.le_succ _),HR.out,fun _=>rfl,Nat.le_refl _,hB⟩
open Go.RowKit Tw
def SC1 (w W:World) (cs:Array Value) (L:List Tm) (q:Rat) (n MM gk:Nat) (s5 s12:Value) (wr:World):Prop :=
 ∃(i k:Nat) (H:Option Addr) (hc:Nat) (O:List Tm),s5=.slice H k hc∧s12=.int .i64 (i:Int)∧i≤n∧n-i≤gk∧k≤i∧
  OwnR wr W.heap.size 71 5 (.slice H k hc) k (flat Tm.cs O)∧prs O=((prs (L.take i)).map fun x=>(x.1,q*x.2)).filter (fun x=>decide (x.2≠0))∧OnT wr O (fun _=>MM)∧Bx wr w.heap.size cs 33∧Below w.heap.size w wr∧Below W.heap.size W wr
theorem scale_snoc {L:List Tm} {i:Nat} {x:Tm} {q:Rat} (h:L[i]?=some x):((prs (L.take (i+1))).map fun x=>(x.1,q*x.2)).filter (fun x=>decide (x.2≠0))=((prs (L.take i)).map fun x=>(x.1,q*x.2)).filter (fun x=>decide (x.2≠0))++if q*x.x.q=0 then [] else [(x.at_,q*x.x.q)]:=by
 rw[take_snoc h,prs_append,List.map_append,List.filter_append]
 congr 1
 show([(x.at_,q*x.x.q)]:List (Int×Rat)).filter _=_
 by_cases e:q*x.x.q=0
 ·rw[if_pos e,List.filter_cons_of_neg (by simp[e])];rfl
 ·rw[if_neg e,List.filter_cons_of_pos (by simp[e])];rfl
theorem sign_zero {q:Rat} {z:Int} (h:q.num.sign=z):(z != 0)=decide (q≠0):=by
 have:=num_sign q
 rw[h] at this
 unfold bne
 rw[this]
 by_cases e:q=0<;>simp[e]
theorem scaleV_q {w:World} {s s':Bool} {A A':Option Addr} {l c l' c':Nat} {q:Rat} {mq:Nat} {X:Option Addr} {n cx M:Nat} {P:List (Int×Rat)} (ha:R w s A c l s' A' c' l' q mq) (h:GV w X n cx P M) (hM:M≤10000000000) (hmq:mq≤10000000000) (hn:n≤1000000) (hT:Hid (Tab w)) :
  Calls Tryz.prog 128 #[.agg #[.bool s,.slice A l c,.bool s',.slice A' l' c'],.slice X n cx] w (TellsV w (nrm (P.map fun x=>(x.1,q*x.2))) (mq+M+3)):=by
 have hx:=zh h
 have hM:M≤19000000000:=by omega
 clear h
 obtain⟨W,hW,x0,hB⟩:=zAc w #[.bool s,.slice A l c,.bool s',.slice A' l' c'] 33
 replace ha:=ha.below hB
 have HX0:=zh x0
 clear x0
 have Bz:=Below.refl W.heap.size W
 go_enter Tryz.func128,Tryz.ntmps128
 go_wp2_with fail
 rw[←hW]
 clear hW
 go_wp2_with fail
 with_reducible refine(ordered_q (hx.out.below (zAa hB (zAa (b:=W) Bz (by go_grown)))) hM hn (zh (Tab.below hT.out (zAa hB (zAa (b:=W) Bz (by go_grown)))))).mono ?_
 rintro e w1 ⟨A1,n1,c1,P1,rfl,h1,r1,e1,l1,b1⟩
 replace b1:=zAa (a:=W) (by go_grown) b1
 replace ha:=ha.below b1
 replace Bz:=zAa Bz b1
 clear b1
 go_wp2_with fail
 obtain⟨L,x1,x2,rfl,x4,x5⟩:=h1
 have HS:=zh x1
 have HLN:=zh x1.1
 have HOK:=zh x2
 have HWS:=zh x4
 have HRS:=zh r1
 have HGT:=zh e1
 have HB1:=zh (zAa hB Bz)
 have HA1:=zh ha
 have XX0:=zh (zx HX0 Bz)
 have HXB:=zh (zx HX0 Bz).lt
 clear x1 x2 x4 x5 r1 e1 hB Bz HX0 ha
 go_loopg [5,12] n1 (fun gk s5 s12 wr=>SC1 w w1 #[.bool s,.slice A l c,.bool s',.slice A' l' c'] L q n1 (mq+M+3) gk s5 s12 wr)
 case atStart=>exact⟨0,0,_,_,[],rfl,rfl,Nat.zero_le _,Nat.le_refl _,Nat.le_refl _,OwnR.nil _ _ _ _,rfl,OnT.nil _ _,XX0.out,HB1.out,Below.refl _ _⟩
 case round =>
  clear XX0
  have hWs:w.heap.size<w1.heap.size:=by have:=HXB.out;omega
  clear HB1
  obtain⟨i,k,H,hc,O,rfl,rfl,hi,hgk,hk,ho,hp,hon,hx0,hB,hBW⟩:=hrel
  have HP:=zh hp
  have HX0:=zh hx0
  clear hp hx0
  by_cases hlt:i<n1
  ·obtain⟨b,off,rfl,hel⟩:=HS.out.at Tm.cs_len (by omega) (by omega)
   obtain⟨x,hx'⟩:∃x,L[i]?=some x:=⟨L[i]'(by rw[HLN.out];exact hlt),List.getElem?_eq_getElem _⟩
   have hnd:=hel i x hx'
   have hfx:=HOK.out x (List.mem_of_getElem? hx')
   have hrx:R wr x.x.s x.x.A x.x.c x.x.l x.x.s' x.x.A' x.x.c' x.x.l' x.x.q (dgT x):=(hfx.below hBW).r
   have ha:=HA1.out.below hBW
   have hdx:dgT x+2≤M+1:=Nat.le_trans (wsum_mem (List.mem_of_getElem? hx')) (HWS.out _)
   have hsq:=ha.sz
   have hsx:=hfx.szd
   have hsz:sz (q*x.x.q)≤(mq+1)+(dgT x+1):=sz_mul (by omega) hsx
   obtain⟨z,HZ⟩:∃z,Hid ((q*x.x.q).num.sign=z):=⟨_,zh rfl⟩
   have hz0:=sign_zero HZ.out
   have i1:(i:Int)<(n1:Int):=by omega
   have i2:(0:Int)≤(i:Int):=by omega
   have hsn:=scale_snoc (q:=q) hx'
   clear hel hx' hfx
   by_cases hs0:q*x.x.q=0
   ·have g3:(z != 0)=false:=by rw[hz0,decide_eq_false (fun h=>h hs0)]
    have HP2:Hid (prs O=((prs (L.take (i+1))).map fun x=>(x.1,q*x.2)).filter (fun x=>decide (x.2≠0))):=zh (by rw[hsn,if_pos hs0,List.append_nil,HP.out])
    have HS1:Hid (0≤M):=zh (Nat.zero_le _)
    clear hz0 hsn hs0
    have Bz:=Below.refl wr.heap.size wr
    obtain⟨p50_0,p50_1,p50_2,p50_3,p50_4,-⟩:=(hnd.below (zAa hBW Bz)).ez
    go_upto_region 5 with(fail)
    obtain⟨V11,hW,x1,hN⟩:=zAc wr #[.int .i64 x.at_,.bool x.x.s,.slice x.x.A x.x.l x.x.c,.bool x.x.s',.slice x.x.A' x.x.l' x.x.c'] 71
    rw[←hW]
    clear hW
    obtain⟨v1,hb1⟩:∃b,b=wr.heap.size:=⟨_,rfl⟩
    rw[←hb1] at x1 ⊢
    have o0_1:w.heap.size<v1:=by have:=(zx HX0 Bz).lt;omega
    have ow_1:w.heap.size≤v1:=by have:=zw hB Bz;omega
    have nv1_own:=OwnR.off' (b:=v1) ho (by omega)
    replace ha:=ha.below hN
    replace hon:=hon.below hN
    replace ho:=ho.below hN
    replace hrx:=hrx.below hN
    replace hB:=zAa (zAa hB Bz) hN
    replace hBW:=zAa (zAa hBW Bz) hN
    replace HX0:=zh ((zx HX0 Bz).below hN)
    have HX1:=zh x1
    clear x1 hN Bz hb1
    have Bz:=Below.refl V11.heap.size V11
    clear p50_0 p50_1 p50_2 p50_3 p50_4
    obtain⟨p0_0,p0_1,p0_2,p0_3,-⟩:=(zx HX0 Bz).cz
    obtain⟨-,p1_1,p1_2,p1_3,p1_4,-⟩:=(zx HX1 Bz).cz
    go_wp2_with fail
    with_reducible refine(mul_q (R.below ha (by go_grown)) (R.below hrx (by go_grown)) (by omega) (zh (Tab.below hT.out (zAa hB (zAa (b:=V11) Bz (by go_grown)))))).mono ?_
    rintro e w11 ⟨s11,A11,c11,l11,s11r,A11r,c11r,l11r,rfl,h11,b11⟩
    replace b11:=zAa (a:=V11) (by go_grown) b11
    replace hon:=hon.below b11
    replace ho:=ho.below b11
    replace Bz:=zAa Bz b11
    clear b11
    clear p0_0 p0_1 p0_2 p0_3 p1_1 p1_2 p1_3 p1_4
    go_upto_region 6 with(fail)
    obtain⟨V12,hW,x2,hN⟩:=zAc w11 #[.bool s11,.slice A11 l11 c11,.bool s11r,.slice A11r l11r c11r] 33
    rw[←hW]
    clear hW
    obtain⟨v2,hb2⟩:∃b,b=w11.heap.size:=⟨_,rfl⟩
    rw[←hb2] at x2 ⊢
    have o0_2:w.heap.size<v2:=by have:=(zx HX0 Bz).lt;omega
    have o1_2:v1<v2:=by have:=(zx HX1 Bz).lt;omega
    have ow_2:w.heap.size≤v2:=by have:=zw hB Bz;omega
    have nv2_own:=OwnR.off' (b:=v2) ho (by omega)
    replace h11:=h11.below hN
    replace hon:=hon.below hN
    replace ho:=ho.below hN
    replace hB:=zAa (zAa hB Bz) hN
    replace hBW:=zAa (zAa hBW Bz) hN
    replace HX0:=zh ((zx HX0 Bz).below hN)
    replace HX1:=zh ((zx HX1 Bz).below hN)
    have HX2:=zh x2
    clear x2 hN Bz hb2
    have Bz:=Below.refl V12.heap.size V12
    obtain⟨p2_0,p2_1,p2_2,p2_3,-⟩:=(zx HX2 Bz).cz
    go_wp2_with fail
    with_reducible refine(sign_q (R.below h11.r (by go_grown)) (by omega) z HZ).mono ?_
    rintro e w12 ⟨rfl,b12⟩
    replace b12:=zAa (a:=V12) (by go_grown) b12
    replace hon:=hon.below b12
    replace ho:=ho.below b12
    replace Bz:=zAa Bz b12
    clear b12
    clear p2_0 p2_1 p2_2 p2_3
    go_wp2_with fail
    have hs1:=HS1.out
    go_roundg (n1-(i+1))
    case measure=>omega
    case rel=>exact⟨i+1,k,_,_,_,rfl,by go_num,by omega,Nat.le_refl _,by omega,OwnR.below ho (by go_grown),HP2.out,OnT.below hon (by go_grown),HX0.out.below (zAa Bz (by go_grown)),zAa (zAa hB Bz) (by go_grown),zAa (zAa hBW Bz) (by go_grown)⟩
   ·have g3:(z != 0)=true:=by rw[hz0,decide_eq_true hs0]
    have HP2:Hid (∀r:Fr,r.q=q*x.x.q→prs (O++[⟨x.at_,r⟩])=((prs (L.take (i+1))).map fun x=>(x.1,q*x.2)).filter (fun x=>decide (x.2≠0))):=zh (fun r hr=>by rw[hsn,if_neg hs0,prs_append,HP.out,show prs [(⟨x.at_,r⟩:Tm)]=[(x.at_,q*x.x.q)] from by rw[←hr];rfl])
    have HS1:Hid (sz (q*x.x.q)+1≤mq+M+3):=zh (by omega)
    clear hz0 hsn hs0
    have Bz:=Below.refl wr.heap.size wr
    obtain⟨p50_0,p50_1,p50_2,p50_3,p50_4,-⟩:=(hnd.below (zAa hBW Bz)).ez
    go_upto_region 5 with(fail)
    obtain⟨V11,hW,x1,hN⟩:=zAc wr #[.int .i64 x.at_,.bool x.x.s,.slice x.x.A x.x.l x.x.c,.bool x.x.s',.slice x.x.A' x.x.l' x.x.c'] 71
    rw[←hW]
    clear hW
    obtain⟨v1,hb1⟩:∃b,b=wr.heap.size:=⟨_,rfl⟩
    rw[←hb1] at x1 ⊢
    have o0_1:w.heap.size<v1:=by have:=(zx HX0 Bz).lt;omega
    have ow_1:w.heap.size≤v1:=by have:=zw hB Bz;omega
    have nv1_own:=OwnR.off' (b:=v1) ho (by omega)
    replace ha:=ha.below hN
    replace hon:=hon.below hN
    replace ho:=ho.below hN
    replace hrx:=hrx.below hN
    replace hB:=zAa (zAa hB Bz) hN
    replace hBW:=zAa (zAa hBW Bz) hN
    replace HX0:=zh ((zx HX0 Bz).below hN)
    have HX1:=zh x1
    clear x1 hN Bz hb1
    have Bz:=Below.refl V11.heap.size V11
    clear p50_0 p50_1 p50_2 p50_3 p50_4
    obtain⟨p0_0,p0_1,p0_2,p0_3,-⟩:=(zx HX0 Bz).cz
    obtain⟨-,p1_1,p1_2,p1_3,p1_4,-⟩:=(zx HX1 Bz).cz
    go_wp2_with fail
    with_reducible refine(mul_q (R.below ha (by go_grown)) (R.below hrx (by go_grown)) (by omega) (zh (Tab.below hT.out (zAa hB (zAa (b:=V11) Bz (by go_grown)))))).mono ?_
    rintro e w11 ⟨s11,A11,c11,l11,s11r,A11r,c11r,l11r,rfl,h11,b11⟩
    replace b11:=zAa (a:=V11) (by go_grown) b11
    replace hon:=hon.below b11
    replace ho:=ho.below b11
    replace Bz:=zAa Bz b11
    clear b11
    clear p0_0 p0_1 p0_2 p0_3 p1_1 p1_2 p1_3 p1_4
    go_upto_region 6 with(fail)
    obtain⟨V12,hW,x2,hN⟩:=zAc w11 #[.bool s11,.slice A11 l11 c11,.bool s11r,.slice A11r l11r c11r] 33
    rw[←hW]
    clear hW
    obtain⟨v2,hb2⟩:∃b,b=w11.heap.size:=⟨_,rfl⟩
    rw[←hb2] at x2 ⊢
    have o0_2:w.heap.size<v2:=by have:=(zx HX0 Bz).lt;omega
    have o1_2:v1<v2:=by have:=(zx HX1 Bz).lt;omega
    have ow_2:w.heap.size≤v2:=by have:=zw hB Bz;omega
    have nv2_own:=OwnR.off' (b:=v2) ho (by omega)
    replace h11:=h11.below hN
    replace hon:=hon.below hN
    replace ho:=ho.below hN
    replace hB:=zAa (zAa hB Bz) hN
    replace hBW:=zAa (zAa hBW Bz) hN
    replace HX0:=zh ((zx HX0 Bz).below hN)
    replace HX1:=zh ((zx HX1 Bz).below hN)
    have HX2:=zh x2
    clear x2 hN Bz hb2
    have Bz:=Below.refl V12.heap.size V12
    obtain⟨p2_0,p2_1,p2_2,p2_3,-⟩:=(zx HX2 Bz).cz
    go_wp2_with fail
    with_reducible refine(sign_q (R.below h11.r (by go_grown)) (by omega) z HZ).mono ?_
    rintro e w12 ⟨rfl,b12⟩
    replace b12:=zAa (a:=V12) (by go_grown) b12
    replace h11:=h11.below b12
    replace hon:=hon.below b12
    replace ho:=ho.below b12
    replace Bz:=zAa Bz b12
    clear b12
    clear p2_0 p2_1 p2_2 p2_3
    have p1_0:=(zx HX1 Bz).cell 0 (.int .i64 x.at_) rfl
    obtain⟨p2_0,p2_1,p2_2,p2_3,-⟩:=(zx HX2 Bz).cz
    go_wp2_with (at_builtin;refine And.left (b:=True) ?_)
    refine⟨?_,trivial⟩
    obtain⟨V13,hW,x3,hN⟩:=zAc w12 #[.int .i64 x.at_,.bool s11,.slice A11 l11 c11,.bool s11r,.slice A11r l11r c11r] 71
    rw[←hW]
    clear hW
    obtain⟨v3,hb3⟩:∃b,b=w12.heap.size:=⟨_,rfl⟩
    rw[←hb3] at x3 ⊢
    have o0_3:w.heap.size<v3:=by have:=(zx HX0 Bz).lt;omega
    have o1_3:v1<v3:=by have:=(zx HX1 Bz).lt;omega
    have o2_3:v2<v3:=by have:=(zx HX2 Bz).lt;omega
    have ow_3:w.heap.size≤v3:=by have:=zw hB Bz;omega
    have nv3_own:=OwnR.off' (b:=v3) ho (by omega)
    replace h11:=h11.below hN
    replace hon:=hon.below hN
    replace ho:=ho.below hN
    replace hB:=zAa (zAa hB Bz) hN
    replace hBW:=zAa (zAa hBW Bz) hN
    replace HX0:=zh ((zx HX0 Bz).below hN)
    replace HX1:=zh ((zx HX1 Bz).below hN)
    replace HX2:=zh ((zx HX2 Bz).below hN)
    have HX3:=zh x3
    clear x3 hN Bz hb3
    have Bz:=Below.refl V13.heap.size V13
    clear p1_0 p2_0 p2_1 p2_2 p2_3
    have hdr:V13.drew.heap.size=V13.heap.size:=rfl
    have hdr2:V13.drew.drew.heap.size=V13.heap.size:=rfl
    refine Elt.app elt_vec rfl _ _ rfl (w1.heap.size) (.slice H k hc) (k) (O) rfl ho (.slice (some ⟨v3,0,none⟩) 1 1) (1) ([⟨x.at_,⟨s11,A11,c11,l11,s11r,A11r,c11r,l11r,q*x.x.q,true⟩⟩]) rfl (From.one (HX3.out.below (zAa Bz (by go_grown))) (⟨x.at_,⟨s11,A11,c11,l11,s11r,A11r,c11r,l11r,q*x.x.q,true⟩⟩) rfl (elt_vec.len _)) (by omega) (by have:=hBW.size;have:=Bz.size;omega) ?_
    intro H13 c13 w13 ho13 hg13
    replace hB:=(zAa (zAa hB Bz) (by go_grown)).trans (hg13.below (by have:=zw hB Bz;omega) (fun g hg=>by have:=ho.base g hg;omega))
    replace hBW:=(zAa (zAa hBW Bz) (by go_grown)).trans (hg13.below (by have:=hBW.size;have:=Bz.size;omega) (fun g hg=>by have:=ho.base g hg;omega))
    replace HX0:=zh (hg13.bx (zx HX0 Bz) (ho.off (by omega)))
    clear HX1
    clear HX2
    clear HX3
    clear hdr hdr2
    replace h11:=h11.k hg13.k
    replace hon:=hon.k hg13.k
    clear hg13 Bz
    have Bz:=Below.refl w13.heap.size w13
    go_wp2_with fail
    have hs1:=HS1.out
    go_roundg (n1-(i+1))
    case measure=>omega
    case rel=>exact⟨i+1,k+1,_,_,_,rfl,by go_num,by omega,Nat.le_refl _,by omega,OwnR.below ho13 (by go_grown),HP2.out _ rfl,(OnT.below hon (by go_grown)).snoc (RN.below h11 (by go_grown)) rfl hs1,HX0.out.below (zAa Bz (by go_grown)),zAa (zAa hB Bz) (by go_grown),zAa (zAa hBW Bz) (by go_grown)⟩
  ·obtain rfl:i=n1:=by omega
   have i1:¬(i:Int)<(i:Int):=by omega
   have HOS:=zh (ho.sl' elt_vec (ho.eltn elt_vec (by omega)))
   have HCAP:=zh ho.slice
   have HON:=zh hon
   clear ho hon
   go_wp2_with fail
   go_ret
   refine⟨_,_,_,rfl,⟨O,HOS.out.below (by go_grown),HON.out.below (by go_grown),?_,fun hn=>?_⟩,zAa hB (by go_grown)⟩
   ·have h9:=HP.out
    rw[List.take_of_length_le (by rw[HLN.out];exact Nat.le_refl _),←rise_scale HRS.out] at h9
    rw[h9]
    exact nrm_ext fun a=>by rw[pget_scale,pget_scale,HGT.out]
   ·obtain⟨_,_,e9,h9,_⟩:=HCAP.out
    cases e9
    exact(h9 hn).2
def GT1 (w:World) (L:List Tm) (at_:Int) (n gk:Nat) (s:Value) (wr:World):Prop :=
 ∃(i:Nat) (sS:Bool) (sA:Option Addr) (sc sl:Nat) (sS':Bool) (sA':Option Addr) (sc' sl':Nat),i≤n∧n-i=gk∧s=.int .i64 (i:Int)∧RN wr sS sA sc sl sS' sA' sc' sl' (pget (prs (L.take i)) at_)∧Bx wr w.heap.size #[.bool false,.slice none 0 0,.bool false,.slice none 0 0] 33∧Bx wr (w.heap.size+1) #[.bool sS,.slice sA sl sc,.bool sS',.slice sA' sl' sc'] 33∧Below w.heap.size w wr
theorem get_sz {L:List Tm} {w:World} (h:OkT w L) (a:Int):sz (pget (prs L) a)≤wsum L a+1:=by
 induction L with
 | nil=>exact Nat.le_trans sz_zero (by simp[wsum])
 | cons x L ih =>
  have h1:=ih fun t ht=>h t (List.mem_cons_of_mem _ ht)
  have h2:=(h x List.mem_cons_self).szd
  show sz (pget ((x.at_,x.x.q) :: prs L) a)≤_
  rw[zAd]
  unfold wsum
  split
  ·have:=sz_add h2 h1
   show sz (x.x.q+pget (prs L) a)≤_
   unfold dgT
   omega
  ·omega
theorem pget_take {L:List Tm} {i:Nat} {x:Tm} (h:L[i]?=some x) (a:Int):pget (prs (L.take (i+1))) a=pget (prs (L.take i)) a+if x.at_=a then x.x.q else 0:=by
 rw[take_snoc h,prs_append]
 exact pget_snoc _ (x.at_,x.x.q) a
theorem getV_q {w:World} {A:Option Addr} {n c M:Nat} {P:List (Int×Rat)} (at_:Int) (h:GV w A n c P M) (hM:M≤18000000000) (hn:n≤1000000) (hT:Hid (Tab w)) :
  Calls Tryz.prog 22 #[.slice A n c,.int .i64 at_] w (TellsR w (pget P at_)):=by
 obtain⟨L,h1,h2,rfl,h4,h5⟩:=h
 have HS:=zh h1
 have HLN:=zh h1.1
 have HOK:=zh h2
 have HWS:=zh h4
 clear h1 h2 h4 h5
 obtain⟨W,hW,x0,x1,hB⟩:=boxes2 w #[.bool false,.slice none 0 0,.bool false,.slice none 0 0] 33 #[.bool false,.slice none 0 0,.bool false,.slice none 0 0] 33
 have HX0:=zh x0
 have HX1:=zh x1
 clear x0 x1
 have Bz:=Below.refl W.heap.size W
 go_enter Tryz.func22,Tryz.ntmps22
 go_wp2_with fail
 rw[←hW]
 clear hW
 go_wp2_with fail
 have HB1:=zh (zAa hB Bz)
 have XX0:=zh (zx HX0 Bz)
 have XX1:=zh (zx HX1 Bz)
 clear hB Bz HX0 HX1
 go_loopg [10] n (fun gk s wr=>GT1 w L at_ n gk s wr)
 case atStart=>exact⟨0,_,_,_,_,_,_,_,_,Nat.zero_le _,rfl,rfl,RN.zero _,XX0.out,XX1.out,HB1.out⟩
 case round =>
  clear HB1 XX0 XX1
  obtain⟨i,sS,sA,sc,sl,sS',sA',sc',sl',hi,hgk,rfl,hs,hx0,hx1,hB⟩:=hrel
  have HGK:=zh hgk
  have HX0:=zh hx0
  have HX1:=zh hx1
  clear hgk hx0 hx1
  by_cases hlt:i<n
  ·obtain⟨b,off,rfl,hel⟩:=HS.out.at Tm.cs_len (by omega) (by omega)
   obtain⟨x,hx⟩:∃x,L[i]?=some x:=⟨L[i]'(by rw[HLN.out];exact hlt),List.getElem?_eq_getElem _⟩
   have hnd:=hel i x hx
   have hfx:=HOK.out x (List.mem_of_getElem? hx)
   have hrx:R wr x.x.s x.x.A x.x.c x.x.l x.x.s' x.x.A' x.x.c' x.x.l' x.x.q (dgT x):=(hfx.below hB).r
   have hdx:dgT x+2≤M:=Nat.le_trans (wsum_mem (List.mem_of_getElem? hx)) (HWS.out _)
   have hss:sz (pget (prs (L.take i)) at_)≤M+1:=Nat.le_trans (get_sz (fun t ht=>HOK.out t (List.mem_of_mem_take ht)) at_) (by have:=Nat.le_trans (wsum_take_le L i at_) (HWS.out at_);omega)
   have hpt:=pget_take hx at_
   have i1:(i:Int)<(n:Int):=by omega
   have i2:(0:Int)≤(i:Int):=by omega
   have HS1:Hid (0≤M):=zh (Nat.zero_le _)
   clear hel hx hfx
   by_cases hq:x.at_=at_
   ·have g1:(x.at_==at_)=true:=by simpa using hq
    have HSM:Hid (pget (prs (L.take i)) at_+x.x.q=pget (prs (L.take (i+1))) at_):=zh (by rw[hpt,if_pos hq])
    clear hpt hq
    have Bz:=Below.refl wr.heap.size wr
    obtain⟨p50_0,p50_1,p50_2,p50_3,p50_4,-⟩:=(hnd.below (zAa hB Bz)).ez
    go_upto_region 5 with(fail)
    obtain⟨V1,hW,x2,hN⟩:=zAc wr #[.int .i64 x.at_,.bool x.x.s,.slice x.x.A x.x.l x.x.c,.bool x.x.s',.slice x.x.A' x.x.l' x.x.c'] 71
    rw[←hW]
    clear hW
    obtain⟨v2,hb2⟩:∃b,b=wr.heap.size:=⟨_,rfl⟩
    rw[←hb2] at x2 ⊢
    have o0_2:w.heap.size<v2:=by have:=(zx HX0 Bz).lt;omega
    have o1_2:(w.heap.size+1)<v2:=by have:=(zx HX1 Bz).lt;omega
    have ow_2:w.heap.size≤v2:=by have:=zw hB Bz;omega
    replace hrx:=hrx.below hN
    replace hs:=hs.below hN
    replace hB:=zAa (zAa hB Bz) hN
    replace HX0:=zh ((zx HX0 Bz).below hN)
    replace HX1:=zh ((zx HX1 Bz).below hN)
    have HX2:=zh x2
    clear x2 hN Bz hb2
    have Bz:=Below.refl V1.heap.size V1
    clear p50_0 p50_1 p50_2 p50_3 p50_4
    obtain⟨p1_0,p1_1,p1_2,p1_3,-⟩:=(zx HX1 Bz).cz
    obtain⟨p2_0,p2_1,p2_2,p2_3,p2_4,-⟩:=(zx HX2 Bz).cz
    go_wp2_with fail
    with_reducible refine(add_q (R.below hs.r (by go_grown)) (R.below hrx (by go_grown)) (by omega) (zh (Tab.below hT.out (zAa hB (zAa (b:=V1) Bz (by go_grown)))))).mono ?_
    rintro e w1 ⟨s1,A1,c1,l1,s1r,A1r,c1r,l1r,rfl,h1,b1⟩
    replace b1:=zAa (a:=V1) (by go_grown) b1
    replace Bz:=zAa Bz b1
    clear b1
    clear p1_0 p1_1 p1_2 p1_3 p2_0 p2_1 p2_2 p2_3 p2_4
    obtain⟨p1_0,p1_1,p1_2,p1_3,-⟩:=(zx HX1 Bz).cz
    have f1_0:=(zx HX1 Bz).frozen 0
    have f1_1:=(zx HX1 Bz).frozen 1
    have f1_2:=(zx HX1 Bz).frozen 2
    have f1_3:=(zx HX1 Bz).frozen 3
    have y1:=(zx HX1 Bz).lt
    go_upto_region 7 with(fail)
    obtain⟨V2,hW,x,kk,far,bel⟩:=store4 (.bool s1) (.slice A1 l1 c1) (.bool s1r) (.slice A1r l1r c1r) (zx HX1 Bz) nofun nofun nofun nofun
    rw[←hW]
    clear hW
    replace h1:=h1.k kk
    replace hB:=bel w.heap.size w (by omega) (zAa hB Bz)
    replace HX0:=zh (far _ _ _ (by omega) (zx HX0 Bz))
    replace HX2:=zh (far _ _ _ (by omega) (zx HX2 Bz))
    replace HX1:=zh x
    clear x kk far bel Bz
    have Bz:=Below.refl V2.heap.size V2
    clear p1_0 p1_1 p1_2 p1_3 f1_0 f1_1 f1_2 f1_3 y1
    go_wp2_with fail
    have hs1:=HS1.out
    go_roundg (n-(i+1))
    case measure=>have:=HGK.out;omega
    case rel=>exact⟨i+1,_,_,_,_,_,_,_,_,by omega,rfl,by go_num,by rw[←HSM.out];exact RN.below h1 (by go_grown),HX0.out.below (zAa Bz (by go_grown)),HX1.out.below (zAa Bz (by go_grown)),zAa (zAa hB Bz) (by go_grown)⟩
   ·have g1:(x.at_==at_)=false:=by simpa using hq
    have HSM:Hid (pget (prs (L.take i)) at_=pget (prs (L.take (i+1))) at_):=zh (by rw[hpt,if_neg hq,Rat.add_zero])
    clear hpt hq
    have Bz:=Below.refl wr.heap.size wr
    obtain⟨p50_0,p50_1,p50_2,p50_3,p50_4,-⟩:=(hnd.below (zAa hB Bz)).ez
    go_upto_region 5 with(fail)
    obtain⟨V1,hW,x2,hN⟩:=zAc wr #[.int .i64 x.at_,.bool x.x.s,.slice x.x.A x.x.l x.x.c,.bool x.x.s',.slice x.x.A' x.x.l' x.x.c'] 71
    rw[←hW]
    clear hW
    obtain⟨v2,hb2⟩:∃b,b=wr.heap.size:=⟨_,rfl⟩
    rw[←hb2] at x2 ⊢
    have o0_2:w.heap.size<v2:=by have:=(zx HX0 Bz).lt;omega
    have o1_2:(w.heap.size+1)<v2:=by have:=(zx HX1 Bz).lt;omega
    have ow_2:w.heap.size≤v2:=by have:=zw hB Bz;omega
    replace hs:=hs.below hN
    replace hB:=zAa (zAa hB Bz) hN
    replace HX0:=zh ((zx HX0 Bz).below hN)
    replace HX1:=zh ((zx HX1 Bz).below hN)
    have HX2:=zh x2
    clear x2 hN Bz hb2
    have Bz:=Below.refl V1.heap.size V1
    clear p50_0 p50_1 p50_2 p50_3 p50_4
    have p2_0:=(zx HX2 Bz).cell 0 (.int .i64 x.at_) rfl
    go_wp2_with fail
    have hs1:=HS1.out
    go_roundg (n-(i+1))
    case measure=>have:=HGK.out;omega
    case rel=>exact⟨i+1,_,_,_,_,_,_,_,_,by omega,rfl,by go_num,by rw[←HSM.out];exact RN.below hs (by go_grown),HX0.out.below (zAa Bz (by go_grown)),HX1.out.below (zAa Bz (by go_grown)),zAa (zAa hB Bz) (by go_grown)⟩
  ·obtain rfl:i=n:=by omega
   have i1:¬(i:Int)<(i:Int):=by omega
   have HEND:Hid (pget (prs (L.take i)) at_=pget (prs L) at_):=zh (by rw[List.take_of_length_le (by rw[HLN.out];exact Nat.le_refl _)])
   have Bz:=Below.refl wr.heap.size wr
   obtain⟨p0_0,p0_1,p0_2,p0_3,-⟩:=(zx HX0 Bz).cz
   have f0_0:=(zx HX0 Bz).frozen 0
   have f0_1:=(zx HX0 Bz).frozen 1
   have f0_2:=(zx HX0 Bz).frozen 2
   have f0_3:=(zx HX0 Bz).frozen 3
   have y0:=(zx HX0 Bz).lt
   obtain⟨p1_0,p1_1,p1_2,p1_3,-⟩:=(zx HX1 Bz).cz
   go_wp2_with fail
   (try simp only[Exit.inBlock,Exit.then])
   refine bodyPost_ret (by simp[results,Tryz.results22,go_sem,p0_0,p0_1,p0_2,p0_3];try rfl) rfl ?_
   obtain⟨V1,hW,x,kk,far,bel⟩:=store4 (.bool sS) (.slice sA sl sc) (.bool sS') (.slice sA' sl' sc') (zx HX0 Bz) nofun nofun nofun nofun
   rw[←hW]
   clear hW
   replace hs:=hs.k kk
   replace hB:=bel w.heap.size w (by omega) (zAa hB Bz)
   replace HX1:=zh (far _ _ _ (by omega) (zx HX1 Bz))
   replace HX0:=zh x
   clear x kk far bel Bz
   have Bz:=Below.refl V1.heap.size V1
   have hF:=zAa (c:=V1) hB Bz
   exact⟨_,_,_,_,_,_,_,_,rfl,by rw[←HEND.out];exact RN.below hs (by go_grown),zAa hF (by go_grown)⟩
def DT1 (w W:World) (vb:Nat) (P Q:List (Int×Rat)) (n m D gk:Nat) (s6 s7:Value) (wr:World):Prop :=
 ∃(i j:Nat) (q:Rat) (sS:Bool) (sA:Option Addr) (sc sl:Nat) (sS':Bool) (sA':Option Addr) (sc' sl':Nat),s6=.int .i64 (i:Int)∧s7=.int .i64 (j:Int)∧i≤n∧j≤m∧n-i+(m-j)≤gk∧RN wr sS sA sc sl sS' sA' sc' sl' q∧Dotted q P Q i j∧sz q≤1+i*D∧
  Bx wr w.heap.size #[.bool false,.slice none 0 0,.bool false,.slice none 0 0] 33∧Bx wr vb #[.bool sS,.slice sA sl sc,.bool sS',.slice sA' sl' sc'] 33∧Below w.heap.size w wr∧Below W.heap.size W wr
theorem dotV_q {w:World} {X Y:Option Addr} {n cx m cy M M':Nat} {P Q:List (Int×Rat)} (h:GV w X n cx P M) (h':GV w Y m cy Q M') (hM0:n*(M+M'+3)≤15000000000) (hM:M≤15000000000) (hM':M'≤15000000000) (hn:n≤1000000) (hm:m≤1000000) (hT:Hid (Tab w)) :
  Calls Tryz.prog 24 #[.slice X n cx,.slice Y m cy] w (TellsR w (pdot P Q)):=by
 have hx:=zh h
 have hy:=zh h'
 have hM:M≤19000000000:=by omega
 have hM':M'≤19000000000:=by omega
 clear h h'
 obtain⟨W,hW,x0,hB⟩:=zAc w #[.bool false,.slice none 0 0,.bool false,.slice none 0 0] 33
 have HX0:=zh x0
 clear x0
 have Bz:=Below.refl W.heap.size W
 go_enter Tryz.func24,Tryz.ntmps24
 go_wp2_with fail
 rw[←hW]
 clear hW
 go_wp2_with fail
 with_reducible refine(ordered_q (hx.out.below (zAa hB (zAa (b:=W) Bz (by go_grown)))) hM hn (zh (Tab.below hT.out (zAa hB (zAa (b:=W) Bz (by go_grown)))))).mono ?_
 rintro e w1 ⟨A1,n1,c1,P1,rfl,h1,r1,e1,l1,b1⟩
 replace b1:=zAa (a:=W) (by go_grown) b1
 replace Bz:=zAa Bz b1
 clear b1
 go_wp2_with fail
 with_reducible refine(ordered_q (hy.out.below (zAa hB (zAa (b:=w1) Bz (by go_grown)))) hM' hm (zh (Tab.below hT.out (zAa hB (zAa (b:=w1) Bz (by go_grown)))))).mono ?_
 rintro e w2 ⟨A2,n2,c2,P2,rfl,h2,r2,e2,l2,b2⟩
 replace b2:=zAa (a:=w1) (by go_grown) b2
 replace h1:=h1.below b2
 replace Bz:=zAa Bz b2
 clear b2
 go_upto_region 3 with(fail)
 obtain⟨V1,hW,x1,hN⟩:=zAc w2 #[.bool false,.slice none 0 0,.bool false,.slice none 0 0] 33
 rw[←hW]
 clear hW
 obtain⟨v1,hb1⟩:∃b,b=w2.heap.size:=⟨_,rfl⟩
 rw[←hb1] at x1 ⊢
 have o0_1:w.heap.size<v1:=by have:=(zx HX0 Bz).lt;omega
 have ow_1:w.heap.size≤v1:=by have:=zw hB Bz;omega
 replace hB:=zAa (zAa hB Bz) hN
 replace HX0:=zh ((zx HX0 Bz).below hN)
 have HX1:=zh x1
 have HN2:=zh hN
 have how2:w2.heap.size≤v1:=by omega
 clear x1 hN Bz hb1
 have Bz:=Below.refl V1.heap.size V1
 go_wp2_with fail
 obtain⟨LX,x1,x2,rfl,x4,x5⟩:=h1
 obtain⟨LY,y1,y2,rfl,y4,y5⟩:=h2
 obtain⟨D,hD⟩:∃D,D=M+M'+3:=⟨_,rfl⟩
 rw[←hD] at hM0
 have HSX:=zh x1
 have HSY:=zh y1
 have HLX:=zh x1.1
 have HLY:=zh y1.1
 have HOX:=zh x2
 have HOY:=zh y2
 have HWX:=zh x4
 have HWY:=zh y4
 have HRX:=zh r1
 have HRY:=zh r2
 have HGX:=zh e1
 have HGY:=zh e2
 have HB1:=zh (zAa hB Bz)
 have XX0:=zh (zx HX0 Bz)
 have XX1:=zh (zx HX1 Bz)
 clear x1 x2 x4 x5 y1 y2 y4 y5 r1 r2 e1 e2 hB Bz HX0 HX1
 go_loopg [6,7] (n1+n2) (fun gk s6 s7 wr=>DT1 w w2 v1 (prs LX) (prs LY) n1 n2 D gk s6 s7 wr)
 case atStart=>exact⟨0,0,0,_,_,_,_,_,_,_,_,rfl,rfl,Nat.zero_le _,Nat.zero_le _,Nat.le_refl _,RN.zero _,Dotted.start _ _,Nat.le_trans sz_zero (by omega),XX0.out,XX1.out,HB1.out,HN2.out⟩
 case round =>
  clear HB1 XX0 XX1 HN2
  obtain⟨i,j,q,sS,sA,sc,sl,sS',sA',sc',sl',rfl,rfl,hi,hj,hgk,hs,hd,hsq,hx0,hx1,hB,hBW⟩:=hrel
  have HDT:=zh hd
  have HX0:=zh hx0
  have HX1:=zh hx1
  clear hd hx0 hx1
  by_cases hin:i<n1
  ·have i1:(i:Int)<(n1:Int):=by omega
   by_cases hjm:j<n2
   ·obtain⟨bx,ox,rfl,hel⟩:=HSX.out.at Tm.cs_len (by omega) (by omega)
    obtain⟨by_,oy,rfl,hel'⟩:=HSY.out.at Tm.cs_len (by omega) (by omega)
    obtain⟨x,ex⟩:∃x,LX[i]?=some x:=⟨LX[i]'(by rw[HLX.out];exact hin),List.getElem?_eq_getElem _⟩
    obtain⟨y,ey⟩:∃y,LY[j]?=some y:=⟨LY[j]'(by rw[HLY.out];exact hjm),List.getElem?_eq_getElem _⟩
    have hnd:=hel i x ex
    have hnd':=hel' j y ey
    have hfx:=HOX.out x (List.mem_of_getElem? ex)
    have hfy:=HOY.out y (List.mem_of_getElem? ey)
    have hrx:R wr x.x.s x.x.A x.x.c x.x.l x.x.s' x.x.A' x.x.c' x.x.l' x.x.q (dgT x):=(hfx.below hBW).r
    have hry:R wr y.x.s y.x.A y.x.c y.x.l y.x.s' y.x.A' y.x.c' y.x.l' y.x.q (dgT y):=(hfy.below hBW).r
    have hdx:dgT x+2≤M+1:=Nat.le_trans (wsum_mem (List.mem_of_getElem? ex)) (HWX.out _)
    have hdy:dgT y+2≤M'+1:=Nat.le_trans (wsum_mem (List.mem_of_getElem? ey)) (HWY.out _)
    have hsx:=hfx.szd
    have hsy:=hfy.szd
    have hsm:sz (x.x.q*y.x.q)≤(dgT x+1)+(dgT y+1):=sz_mul hsx hsy
    have hsa:=sz_add hsq hsm
    have hiD:i*D≤n*D:=Nat.mul_le_mul_right _ (by omega)
    have hiS:(i+1)*D=i*D+D:=by rw[Nat.add_mul,Nat.one_mul]
    have hD1:D≤n*D:=Nat.le_mul_of_pos_left D (by omega)
    have hpx:=prs_get ex
    have hpy:=prs_get ey
    have j1:(j:Int)<(n2:Int):=by omega
    have i2:(0:Int)≤(i:Int):=by omega
    have j2:(0:Int)≤(j:Int):=by omega
    clear hel hel' ex ey hfx hfy
    by_cases hxy:x.at_<y.at_
    ·have HD2:Hid (Dotted q (prs LX) (prs LY) (i+1) j):=zh (HDT.out.left HRX.out HRY.out hpx hpy hxy)
     have HS1:Hid (sz q≤1+(i+1)*D):=zh (by rw[hiS];omega)
     have g1:x.at_<y.at_:=hxy
     clear hxy hpx hpy
     have Bz:=Below.refl wr.heap.size wr
     have p50_0:=(hnd.below (zAa hBW Bz)).c0 (u:=.int .i64 x.at_) rfl
     have p51_0:=(hnd'.below (zAa hBW Bz)).c0 (u:=.int .i64 y.at_) rfl
     go_wp2_with fail
     (try simp only[List.append_eq,List.cons_append,List.nil_append])
     refine wp_region_plan (.take 0 (.take 1 (.take 2 (.take 3 (.take 4 (.take 5 (.take 6 (.take 7 (.take 8 (.take 9 (.take 10 (.take 11 .done)))))))))))) [] (fun w'=>w'.cell? ⟨bx,ox+i*5,none⟩=some (.int .i64 x.at_)∧w'.cell? ⟨by_,oy+j*5,none⟩=some (.int .i64 y.at_)) (by kernel_rfl) (by kernel_rfl) ⟨p50_0,p51_0⟩ ?_
     iterate 12 (refine zT rfl rfl (fun w' ⟨p50_0,p51_0⟩=>by go_simp<;>with_reducible rfl) ?_;try simp only[uW,uX,uY,uZ])
     refine wpPlan_done ?_
     go_wp2_with fail
     have hs1:=HS1.out
     go_roundg (n1-(i+1)+(n2-(j)))
     case measure=>omega
     case rel=>exact⟨i+1,j,_,_,_,_,_,_,_,_,_,by go_num,rfl,by omega,by omega,Nat.le_refl _,RN.below hs (by go_grown),HD2.out,hs1,HX0.out.below (zAa Bz (by go_grown)),HX1.out.below (zAa Bz (by go_grown)),zAa (zAa hB Bz) (by go_grown),zAa (zAa hBW Bz) (by go_grown)⟩
    ·have g1:¬x.at_<y.at_:=hxy
     by_cases hyx:y.at_<x.at_
     ·have HD2:Hid (Dotted q (prs LX) (prs LY) i (j+1)):=zh (HDT.out.right HRX.out HRY.out hpx hpy hyx)
      have HS1:Hid (sz q≤1+i*D):=zh hsq
      have g2:y.at_<x.at_:=hyx
      clear hxy hyx hpx hpy
      have Bz:=Below.refl wr.heap.size wr
      have p50_0:=(hnd.below (zAa hBW Bz)).c0 (u:=.int .i64 x.at_) rfl
      have p51_0:=(hnd'.below (zAa hBW Bz)).c0 (u:=.int .i64 y.at_) rfl
      go_wp2_with fail
      (try simp only[List.append_eq,List.cons_append,List.nil_append])
      refine wp_region_plan (.take 0 (.take 1 (.take 2 (.take 3 (.take 4 (.take 5 (.take 6 (.take 7 (.take 8 (.take 9 (.take 10 (.take 11 .done)))))))))))) [] (fun w'=>w'.cell? ⟨bx,ox+i*5,none⟩=some (.int .i64 x.at_)∧w'.cell? ⟨by_,oy+j*5,none⟩=some (.int .i64 y.at_)) (by kernel_rfl) (by kernel_rfl) ⟨p50_0,p51_0⟩ ?_
      iterate 12 (refine zT rfl rfl (fun w' ⟨p50_0,p51_0⟩=>by go_simp<;>with_reducible rfl) ?_;try simp only[uW,uX,uY,uZ])
      refine wpPlan_done ?_
      go_wp2_with fail
      (try simp only[List.append_eq,List.cons_append,List.nil_append])
      refine wp_region_plan (.take 0 (.take 1 (.take 2 (.take 3 (.take 4 (.take 5 (.take 6 (.take 7 (.take 8 (.take 9 (.take 10 (.take 11 .done)))))))))))) [] (fun w'=>w'.cell? ⟨bx,ox+i*5,none⟩=some (.int .i64 x.at_)∧w'.cell? ⟨by_,oy+j*5,none⟩=some (.int .i64 y.at_)) (by kernel_rfl) (by kernel_rfl) ⟨p50_0,p51_0⟩ ?_
      iterate 12 (refine zT rfl rfl (fun w' ⟨p50_0,p51_0⟩=>by go_simp<;>with_reducible rfl) ?_;try simp only[uW,uX,uY,uZ])
      refine wpPlan_done ?_
      go_wp2_with fail
      have hs1:=HS1.out
      go_roundg (n1-(i)+(n2-(j+1)))
      case measure=>omega
      case rel=>exact⟨i,j+1,_,_,_,_,_,_,_,_,_,rfl,by go_num,by omega,by omega,Nat.le_refl _,RN.below hs (by go_grown),HD2.out,hs1,HX0.out.below (zAa Bz (by go_grown)),HX1.out.below (zAa Bz (by go_grown)),zAa (zAa hB Bz) (by go_grown),zAa (zAa hBW Bz) (by go_grown)⟩
     ·have HD2:Hid (Dotted (q+x.x.q*y.x.q) (prs LX) (prs LY) (i+1) (j+1)):=zh (HDT.out.both HRX.out HRY.out hpx hpy (show x.at_=y.at_ by omega))
      have HS1:Hid (sz (q+x.x.q*y.x.q)≤1+(i+1)*D):=zh (by rw[hiS];omega)
      have g2:¬y.at_<x.at_:=hyx
      clear hxy hyx hpx hpy
      have Bz:=Below.refl wr.heap.size wr
      obtain⟨p1_0,p1_1,p1_2,p1_3,-⟩:=(zx HX1 Bz).cz
      have f1_0:=(zx HX1 Bz).frozen 0
      have f1_1:=(zx HX1 Bz).frozen 1
      have f1_2:=(zx HX1 Bz).frozen 2
      have f1_3:=(zx HX1 Bz).frozen 3
      have y1:=(zx HX1 Bz).lt
      obtain⟨p50_0,p50_1,p50_2,p50_3,p50_4,-⟩:=(hnd.below (zAa hBW Bz)).ez
      obtain⟨p51_0,p51_1,p51_2,p51_3,p51_4,-⟩:=(hnd'.below (zAa hBW Bz)).ez
      go_wp2_with fail
      (try simp only[List.append_eq,List.cons_append,List.nil_append])
      refine wp_region_plan (.take 0 (.take 1 (.take 2 (.take 3 (.take 4 (.take 5 (.take 6 (.take 7 (.take 8 (.take 9 (.take 10 (.take 11 .done)))))))))))) [] (fun w'=>w'.cell? ⟨bx,ox+i*5,none⟩=some (.int .i64 x.at_)∧w'.cell? ⟨by_,oy+j*5,none⟩=some (.int .i64 y.at_)) (by kernel_rfl) (by kernel_rfl) ⟨p50_0,p51_0⟩ ?_
      iterate 12 (refine zT rfl rfl (fun w' ⟨p50_0,p51_0⟩=>by go_simp<;>with_reducible rfl) ?_;try simp only[uW,uX,uY,uZ])
      refine wpPlan_done ?_
      go_wp2_with fail
      (try simp only[List.append_eq,List.cons_append,List.nil_append])
      refine wp_region_plan (.take 0 (.take 1 (.take 2 (.take 3 (.take 4 (.take 5 (.take 6 (.take 7 (.take 8 (.take 9 (.take 10 (.take 11 .done)))))))))))) [] (fun w'=>w'.cell? ⟨bx,ox+i*5,none⟩=some (.int .i64 x.at_)∧w'.cell? ⟨by_,oy+j*5,none⟩=some (.int .i64 y.at_)) (by kernel_rfl) (by kernel_rfl) ⟨p50_0,p51_0⟩ ?_
      iterate 12 (refine zT rfl rfl (fun w' ⟨p50_0,p51_0⟩=>by go_simp<;>with_reducible rfl) ?_;try simp only[uW,uX,uY,uZ])
      refine wpPlan_done ?_
      go_wp2_with fail
      (try simp only[List.append_eq,List.cons_append,List.nil_append])
      refine wp_region_plan (.take 0 (.pure 1 (.pure 2 (.pure 3 (.pure 4 (.take 5 (.pure 6 (.pure 7 (.pure 8 (.pure 9 (.take 10 (.only 11 (.only 12 (.only 13 .done)))))))))))))) [13] (fun w'=>w'.cell? ⟨v1,0,none⟩=some (.bool sS)∧w'.cell? ⟨v1,1,none⟩=some (.slice sA sl sc)∧w'.cell? ⟨v1,2,none⟩=some (.bool sS')∧w'.cell? ⟨v1,3,none⟩=some (.slice sA' sl' sc')∧w'.cell? ⟨bx,ox+i*5+1,none⟩=some (.bool x.x.s)∧w'.cell? ⟨bx,ox+i*5+2,none⟩=some (.slice x.x.A x.x.l x.x.c)∧w'.cell? ⟨bx,ox+i*5+3,none⟩=some (.bool x.x.s')∧w'.cell? ⟨bx,ox+i*5+4,none⟩=some (.slice x.x.A' x.x.l' x.x.c')∧w'.cell? ⟨by_,oy+j*5+1,none⟩=some (.bool y.x.s)∧w'.cell? ⟨by_,oy+j*5+2,none⟩=some (.slice y.x.A y.x.l y.x.c)∧w'.cell? ⟨by_,oy+j*5+3,none⟩=some (.bool y.x.s')∧w'.cell? ⟨by_,oy+j*5+4,none⟩=some (.slice y.x.A' y.x.l' y.x.c')) (by kernel_rfl) (by kernel_rfl) ⟨p1_0,p1_1,p1_2,p1_3,p50_1,p50_2,p50_3,p50_4,p51_1,p51_2,p51_3,p51_4⟩ ?_
      refine zT rfl rfl (fun w' ⟨p1_0,p1_1,p1_2,p1_3,p50_1,p50_2,p50_3,p50_4,p51_1,p51_2,p51_3,p51_4⟩=>by go_simp<;>with_reducible rfl) ?_
      try simp only[uW,uX,uY,uZ]
      iterate 4 (refine zP rfl rfl (fun w'=>by go_simp<;>with_reducible rfl) ?_;try simp only[uW,uX,uY,uZ])
      refine zT rfl rfl (fun w' ⟨p1_0,p1_1,p1_2,p1_3,p50_1,p50_2,p50_3,p50_4,p51_1,p51_2,p51_3,p51_4⟩=>by go_simp<;>with_reducible rfl) ?_
      try simp only[uW,uX,uY,uZ]
      iterate 4 (refine zP rfl rfl (fun w'=>by go_simp<;>with_reducible rfl) ?_;try simp only[uW,uX,uY,uZ])
      refine zT rfl rfl (fun w' ⟨p1_0,p1_1,p1_2,p1_3,p50_1,p50_2,p50_3,p50_4,p51_1,p51_2,p51_3,p51_4⟩=>by go_simp<;>with_reducible rfl) ?_
      try simp only[uW,uX,uY,uZ]
      refine zC 33 rfl rfl (fun K hK=>?_)
      go_simp
      with_reducible refine(mul_q (R.below hrx (by go_grown)) (R.below hry (by go_grown)) (by omega) (zh (Tab.below hT.out (zAa hB (zAa (b:=wr) Bz (by go_grown)))))).mono ?_
      rintro e w11 ⟨s11,A11,c11,l11,s11r,A11r,c11r,l11r,rfl,h11,b11⟩
      replace b11:=zAa (a:=wr) (by go_grown) b11
      replace hs:=hs.below b11
      replace Bz:=zAa Bz b11
      clear b11
      clear p1_0 p1_1 p1_2 p1_3 f1_0 f1_1 f1_2 f1_3 y1 p50_0 p50_1 p50_2 p50_3 p50_4 p51_0 p51_1 p51_2 p51_3 p51_4
      obtain⟨p1_0,p1_1,p1_2,p1_3,-⟩:=(zx HX1 Bz).cz
      have f1_0:=(zx HX1 Bz).frozen 0
      have f1_1:=(zx HX1 Bz).frozen 1
      have f1_2:=(zx HX1 Bz).frozen 2
      have f1_3:=(zx HX1 Bz).frozen 3
      have y1:=(zx HX1 Bz).lt
      obtain⟨-,p50_1,p50_2,p50_3,p50_4,-⟩:=(hnd.below (zAa hBW Bz)).ez
      obtain⟨-,p51_1,p51_2,p51_3,p51_4,-⟩:=(hnd'.below (zAa hBW Bz)).ez
      refine hK.out _ _ ⟨p1_0,p1_1,p1_2,p1_3,p50_1,p50_2,p50_3,p50_4,p51_1,p51_2,p51_3,p51_4⟩ (fun _=>?_)
      try simp only[uW,uX,uY,uZ]
      clear hK K
      refine zC 34 rfl rfl (fun K hK=>?_)
      go_simp
      with_reducible refine(add_q (R.below hs.r (by go_grown)) (R.below h11.r (by go_grown)) (by omega) (zh (Tab.below hT.out (zAa hB (zAa (b:=w11) Bz (by go_grown)))))).mono ?_
      rintro e w12 ⟨s12,A12,c12,l12,s12r,A12r,c12r,l12r,rfl,h12,b12⟩
      replace b12:=zAa (a:=w11) (by go_grown) b12
      replace Bz:=zAa Bz b12
      clear b12
      clear p1_0 p1_1 p1_2 p1_3 f1_0 f1_1 f1_2 f1_3 y1 p50_1 p50_2 p50_3 p50_4 p51_1 p51_2 p51_3 p51_4
      obtain⟨p1_0,p1_1,p1_2,p1_3,-⟩:=(zx HX1 Bz).cz
      have f1_0:=(zx HX1 Bz).frozen 0
      have f1_1:=(zx HX1 Bz).frozen 1
      have f1_2:=(zx HX1 Bz).frozen 2
      have f1_3:=(zx HX1 Bz).frozen 3
      have y1:=(zx HX1 Bz).lt
      obtain⟨-,p50_1,p50_2,p50_3,p50_4,-⟩:=(hnd.below (zAa hBW Bz)).ez
      obtain⟨-,p51_1,p51_2,p51_3,p51_4,-⟩:=(hnd'.below (zAa hBW Bz)).ez
      refine hK.out _ _ ⟨p1_0,p1_1,p1_2,p1_3,p50_1,p50_2,p50_3,p50_4,p51_1,p51_2,p51_3,p51_4⟩ (fun _=>?_)
      try simp only[uW,uX,uY,uZ]
      clear hK K
      refine wpPlan_late (o:=⟨none,_,_,_,_,_⟩) rfl rfl (by decide) (fun K hK=>?_)
      go_simp
      refine hK.out _ _ ?_
      try simp only[Act.put,uX,uY,uZ]
      clear hK K
      refine wpPlan_done ?_
      obtain⟨V11,hW,x,kk,far,bel⟩:=store4 (.bool s12) (.slice A12 l12 c12) (.bool s12r) (.slice A12r l12r c12r) (zx HX1 Bz) nofun nofun nofun nofun
      rw[←hW]
      clear hW
      replace h12:=h12.k kk
      replace hB:=bel w.heap.size w (by omega) (zAa hB Bz)
      replace hBW:=bel w2.heap.size w2 (by omega) (zAa hBW Bz)
      replace HX0:=zh (far _ _ _ (by omega) (zx HX0 Bz))
      replace HX1:=zh x
      clear x kk far bel Bz
      have Bz:=Below.refl V11.heap.size V11
      clear p1_0 p1_1 p1_2 p1_3 f1_0 f1_1 f1_2 f1_3 y1 p50_1 p50_2 p50_3 p50_4 p51_1 p51_2 p51_3 p51_4
      go_wp2_with fail
      have hs1:=HS1.out
      go_roundg (n1-(i+1)+(n2-(j+1)))
      case measure=>omega
      case rel=>exact⟨i+1,j+1,_,_,_,_,_,_,_,_,_,by go_num,by go_num,by omega,by omega,Nat.le_refl _,RN.below h12 (by go_grown),HD2.out,hs1,HX0.out.below (zAa Bz (by go_grown)),HX1.out.below (zAa Bz (by go_grown)),zAa (zAa hB Bz) (by go_grown),zAa (zAa hBW Bz) (by go_grown)⟩
   ·obtain rfl:j=n2:=by omega
    have j1:¬(j:Int)<(j:Int):=by omega
    have HEND:Hid (q=pdot P Q):=zh (by rw[HDT.out.done (.inr (by rw[prs_len,HLY.out];exact Nat.le_refl _)),pdot_congr HGY.out,pdot_congr_left HGX.out])
    have Bz:=Below.refl wr.heap.size wr
    obtain⟨p0_0,p0_1,p0_2,p0_3,-⟩:=(zx HX0 Bz).cz
    have f0_0:=(zx HX0 Bz).frozen 0
    have f0_1:=(zx HX0 Bz).frozen 1
    have f0_2:=(zx HX0 Bz).frozen 2
    have f0_3:=(zx HX0 Bz).frozen 3
    have y0:=(zx HX0 Bz).lt
    obtain⟨p1_0,p1_1,p1_2,p1_3,-⟩:=(zx HX1 Bz).cz
    go_wp2_with fail
    (try simp only[Exit.inBlock,Exit.then])
    refine bodyPost_ret (by simp[results,Tryz.results24,go_sem,p0_0,p0_1,p0_2,p0_3];try rfl) rfl ?_
    obtain⟨V1,hW,x,kk,far,bel⟩:=store4 (.bool sS) (.slice sA sl sc) (.bool sS') (.slice sA' sl' sc') (zx HX0 Bz) nofun nofun nofun nofun
    rw[←hW]
    clear hW
    replace hs:=hs.k kk
    replace hB:=bel w.heap.size w (by omega) (zAa hB Bz)
    replace HX1:=zh (far _ _ _ (by omega) (zx HX1 Bz))
    replace HX0:=zh x
    clear x kk far bel Bz
    have Bz:=Below.refl V1.heap.size V1
    have hF:=zAa (c:=V1) hB Bz
    exact⟨_,_,_,_,_,_,_,_,rfl,by rw[←HEND.out];exact RN.below hs (by go_grown),zAa hF (by go_grown)⟩
  ·obtain rfl:i=n1:=by omega
   have i1:¬(i:Int)<(i:Int):=by omega
   have HEND:Hid (q=pdot P Q):=zh (by rw[HDT.out.done (.inl (by rw[prs_len,HLX.out];exact Nat.le_refl _)),pdot_congr HGY.out,pdot_congr_left HGX.out])
   have Bz:=Below.refl wr.heap.size wr
   obtain⟨p0_0,p0_1,p0_2,p0_3,-⟩:=(zx HX0 Bz).cz
   have f0_0:=(zx HX0 Bz).frozen 0
   have f0_1:=(zx HX0 Bz).frozen 1
   have f0_2:=(zx HX0 Bz).frozen 2
   have f0_3:=(zx HX0 Bz).frozen 3
   have y0:=(zx HX0 Bz).lt
   obtain⟨p1_0,p1_1,p1_2,p1_3,-⟩:=(zx HX1 Bz).cz
   go_wp2_with fail
   (try simp only[Exit.inBlock,Exit.then])
   refine bodyPost_ret (by simp[results,Tryz.results24,go_sem,p0_0,p0_1,p0_2,p0_3];try rfl) rfl ?_
   obtain⟨V1,hW,x,kk,far,bel⟩:=store4 (.bool sS) (.slice sA sl sc) (.bool sS') (.slice sA' sl' sc') (zx HX0 Bz) nofun nofun nofun nofun
   rw[←hW]
   clear hW
   replace hs:=hs.k kk
   replace hB:=bel w.heap.size w (by omega) (zAa hB Bz)
   replace HX1:=zh (far _ _ _ (by omega) (zx HX1 Bz))
   replace HX0:=zh x
   clear x kk far bel Bz
   have Bz:=Below.refl V1.heap.size V1
   have hF:=zAa (c:=V1) hB Bz
   exact⟨_,_,_,_,_,_,_,_,rfl,by rw[←HEND.out];exact RN.below hs (by go_grown),zAa hF (by go_grown)⟩
open Go.RowKit Tw
theorem OnT.len {w:World} {L:List Tm} {M:Nat} (h:OnT w L (fun _=>M)):∀t∈L,t.x.l≤M∧t.x.l'≤M:=fun t ht=>by have h1:=h.dg t ht;have h2:=(h t ht).2.2;unfold dgT at h1;simp only at h2;omega
open Go.RowKit Tw
def TellsW (w:World) (P:List (Int×Rat)) (K N:Nat) (e:Ending) (w':World):Prop:=∃A n c,e=.returned (.slice A n c)∧NV w' A n c P K∧n≤N∧Below w.heap.size w w'
def TellsNum (w:World) (q:Rat) (K:Nat) (e:Ending) (w':World):Prop:=∃s A c l s' A' c' l',e=.returned (.agg #[.bool s,.slice A l c,.bool s',.slice A' l' c'])∧RN w' s A c l s' A' c' l' q∧sz q≤K∧Below w.heap.size w w'
theorem TellsV.w {w w':World} {P:List (Int×Rat)} {M K N:Nat} {e:Ending} (h:TellsV w P M e w') (hK:M≤K) (hN:P.length≤N):TellsW w P K N e w':=by
 obtain⟨A,n,c,rfl,h1,h2⟩:=h
 exact⟨A,n,c,rfl,h1.mono hK,by have:=h1.len;omega,h2⟩
theorem TellsR.num {w w':World} {q:Rat} {K:Nat} {e:Ending} (h:TellsR w q e w') (hK:sz q≤K):TellsNum w q K e w':=by
 obtain⟨s,A,c,l,s',A',c',l',rfl,h1,h2⟩:=h
 exact⟨s,A,c,l,s',A',c',l',rfl,h1,hK,h2⟩
theorem GV.size {w:World} {A:Option Addr} {n c M N:Nat} {P:List (Int×Rat)} (h:GV w A n c P M) (hn:n≤N):P.length≤N:=by rw[h.len];exact hn
theorem GV.getsz {w:World} {A:Option Addr} {n c M:Nat} {P:List (Int×Rat)} (h:GV w A n c P M) (a:Int):sz (pget P a)≤M+1:=by
 obtain⟨L,_,h2,rfl,h4,_⟩:=h
 have:=get_sz h2 a
 have:=h4 a
 omega
theorem dot_sz {Q:List (Int×Rat)} {M K:Nat} (hQ:∀a,sz (pget Q a)≤K):∀{P:List (Int×Rat)},(∀x∈P,sz x.2≤M)→sz (pdot P Q)≤1+P.length*(M+K+1):=by
 intro P
 induction P with
 | nil=>intro _;exact Nat.le_trans sz_zero (by omega)
 | cons x P ih =>
  intro h
  have h1:=ih fun y hy=>h y (List.mem_cons_of_mem _ hy)
  have h2:=sz_add (sz_mul (h x List.mem_cons_self) (hQ x.1)) h1
  rw[pdot_cons,List.length_cons,Nat.add_mul,Nat.one_mul]
  omega
theorem GV.szs {w:World} {A:Option Addr} {n c M:Nat} {P:List (Int×Rat)} (h:GV w A n c P M):∀x∈P,sz x.2≤M:=fun x hx=>by
 obtain⟨L,_,h2,rfl,h4,_⟩:=h
 obtain⟨t,ht,rfl⟩:=prs_mem hx
 have h5:=(h2 t ht).szd
 have h6:=wsum_mem ht
 have h7:=h4 t.at_
 show sz t.x.q≤M
 unfold dgT at h6
 omega
theorem dotW {w:World} {X Y:Option Addr} {n cx m cy:Nat} {P Q:List (Int×Rat)} (M M' N K:Nat) (h:GV w X n cx P M) (h':GV w Y m cy Q M') (hn:n≤N) (hm:m≤1000) (hK:1+N*(M+M'+3)≤K) (hK2:K≤15000000001) (hM:M≤15000000000) (hM':M'≤15000000000) (hN:N≤1000) (hT:Hid (Tab w)):Calls Tryz.prog 24 #[.slice X n cx,.slice Y m cy] w (TellsNum w (pdot P Q) K):=by
 have h1:n*(M+M'+3)≤N*(M+M'+3):=Nat.mul_le_mul_right _ hn
 refine(dotV_q h h' (by omega) hM hM' (by omega) (by omega) hT).mono fun _ _ k=>k.num ?_
 have h2:=dot_sz (K:=M'+1) h'.getsz h.szs
 have h3:P.length*(M+(M'+1)+1)≤N*(M+M'+3):=Nat.mul_le_mul (h.size hn) (by omega)
 omega
theorem getW {w:World} {X:Option Addr} {n cx:Nat} {P:List (Int×Rat)} (M N K:Nat) (at_:Int) (h:GV w X n cx P M) (hn:n≤N) (hN:N≤1000) (hM:M≤18000000000) (hK:M+1≤K) (hT:Hid (Tab w)):Calls Tryz.prog 22 #[.slice X n cx,.int .i64 at_] w (TellsNum w (pget P at_) K) :=
 (getV_q at_ h hM (by omega) hT).mono fun _ _ k=>k.num (Nat.le_trans (h.getsz at_) hK)
theorem OnT.c {w:World} {L:List Tm} {s s':Bool} {A A':Option Addr} {c l c' l':Nat} {q:Rat} (at_:Int) (h:RN w s A c l s' A' c' l' q) (hs:sz q≤1) (hL:OnT w L (fun _=>2)):OnT w (⟨at_,⟨s,A,c,l,s',A',c',l',q,true⟩⟩ :: L) (fun _=>2):=fun t ht=>by
 rcases List.mem_cons.1 ht with rfl | ht
 ·exact⟨h,rfl,by simp only;omega⟩
 ·exact hL t ht
end Go.Proofs.YtjkgjiofmgapfaaGreatDoor
