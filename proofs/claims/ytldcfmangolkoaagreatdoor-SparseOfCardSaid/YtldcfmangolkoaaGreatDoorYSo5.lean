/-
  sparse.ordered, sparse.join, sparse.Add. Written by wip/gen/so5.py.
-/
import Derived.Test.YtldcfmangolkoaaGreatDoorYSo4
import Derived.Test.YtldcfmangolkoaaGreatDoorYVj
import Derived.Test.YtldcfmangolkoaaGreatDoorYRow
namespace Go.Proofs.YtldcfmangolkoaaGreatDoor
open Go.RowKit Tw
theorem nrm_app (P Q:List (Int×Rat)):nrm (nrm P++nrm Q)=nrm (P++Q):=nrm_ext fun a=>by rw[pget_append,pget_append,nrm_get,nrm_get]
def TellsO (w:World) (P:List (Int×Rat)) (M n:Nat) (e:Ending) (w':World):Prop :=
 ∃A' n' c' P',e=.returned (.slice A' n' c')∧GV w' A' n' c' P' (M+1)∧Rise P'∧(∀a,pget P' a=pget P a)∧n'≤n∧Below w.heap.size w w'
def OR1 (w:World) (L:List Tm) (n gk:Nat) (s:Value) (wr:World):Prop:=∃i:Nat,i≤n∧n-i=gk∧s=.int .i64 (i:Int)∧Below w.heap.size w wr∧Rise (prs (L.take i))
theorem rise_next {L:List Tm} {k:Nat} {x y:Tm} (h:Rise (prs (L.take (k+1)))) (hy:L[k]?=some y) (hx:L[k+1]?=some x) (hl:y.at_<x.at_):Rise (prs (L.take (k+1+1))):=by
 rw[take_snoc hx,prs_append]
 refine h.snoc fun z hz=>?_
 rw[take_snoc hy,prs_append] at h hz
 rcases List.mem_append.1 hz with hz | hz
 ·have:=(Rise.front (x:=(y.at_,y.x.q)) h).2 z hz
  simp only at this ⊢
  omega
 ·obtain rfl:=List.mem_singleton.1 hz;exact hl
set_option maxRecDepth 100000 in
set_option maxHeartbeats 4000000 in
theorem ordered_q {w:World} {A:Option Addr} {n c M:Nat} {P:List (Int×Rat)} (h:GV w A n c P M) (hM:M≤19000) (hn:n≤1000000) (hT:Hid (Tab w)) :
  Calls Tryz.prog 113 #[.slice A n c] w (TellsO w P M n):=by
 have hg:=Lib.hid h
 obtain⟨L,h1,h2,rfl,h4,h5⟩:=h
 have HS:=Lib.hid h1
 have HLN:=Lib.hid h1.1
 clear h1 h2 h4 h5
 go_enter Tryz.func113,Tryz.ntmps113
 go_wp2_with fail
 go_loopg [6] n (fun gk s wr=>OR1 w L n gk s wr)
 case atStart=>exact⟨0,Nat.zero_le _,rfl,rfl,Below.refl _ _,List.Pairwise.nil⟩
 case round =>
  obtain⟨i,hi,hgk,rfl,hB,hr⟩:=hrel
  have HGK:=Lib.hid hgk
  clear hgk
  by_cases hlt:i<n
  ·obtain⟨b,off,rfl,hel⟩:=HS.out.at Tm.cs_len (by omega) (by omega)
   obtain⟨x,hx⟩:∃x,L[i]?=some x:=⟨L[i]'(by rw[HLN.out];exact hlt),List.getElem?_eq_getElem _⟩
   have hnd:=hel i x hx
   cases i with
   | zero =>
    have HR2:Hid (Rise (prs (L.take (0+1)))):=Lib.hid (by rw[take_snoc hx];exact List.pairwise_singleton _ _)
    have i1:(0:Int)<(n:Int):=by omega
    clear hx hel hr
    have Bz:=Below.refl wr.heap.size wr
    go_wp2_with fail
    (try simp only[List.append_eq,List.cons_append,List.nil_append])
    refine zAc (.take 0 (.take 1 (.take 2 (.take 3 (.take 4 (.take 5 (.take 6 (.take 7 (.take 8 (.take 9 (.take 10 (.take 11 (.take 12 (.take 13 (.take 14 (.take 15 .done)))))))))))))))) [] (fun w'=>True) (by kernel_rfl) (by kernel_rfl) trivial ?_
    iterate 3 (refine zAb (o:=⟨some _,_,_,_,_,_⟩) rfl rfl (fun w' _=>by go_simp<;>with_reducible rfl) ?_;try simp only[pUt,pLt,pZt,pSt])
    iterate 12 (refine wpPlan_skip (o:=⟨some _,_,_,_,_,_⟩) rfl rfl ?_;try simp only[pUt,pLt,pZt,pSt])
    refine zAb (o:=⟨some _,_,_,_,_,_⟩) rfl rfl (fun w' _=>by go_simp<;>with_reducible rfl) ?_
    try simp only[pUt,pLt,pZt,pSt]
    refine zAe ?_
    go_wp2_with fail
    go_roundg (n-(0+1))
    case measure=>have:=HGK.out;omega
    case rel=>exact⟨0+1,by omega,rfl,by go_num,zAa (zAa hB Bz) (by go_grown),HR2.out⟩
   | succ k =>
    obtain⟨y,hy⟩:∃y,L[k]?=some y:=⟨L[k]'(by rw[HLN.out];omega),List.getElem?_eq_getElem _⟩
    have hnd':=hel k y hy
    have i1:(k:Int)+1<(n:Int):=by omega
    have i2:(0:Int)≤(k:Int)+1:=by omega
    have i3:(0:Int)≤(k:Int):=by omega
    have i4:(k:Int)<(n:Int):=by omega
    have i5:(0:Int)<(k:Int)+1:=by omega
    have w6:IntKind.i64.wrap ((k:Int)+1-1)=(k:Int):=by rw[IntWalk.i64_in _ (by omega)];omega
    have w7:IntKind.i64.wrap (k:Int)=(k:Int):=IntWalk.i64_in _ (by omega)
    by_cases hl:y.at_<x.at_
    ·have HR2:=Lib.hid (rise_next hr hy hx hl)
     have g1:¬x.at_≤y.at_:=by omega
     clear hx hy hel hr hl
     have Bz:=Below.refl wr.heap.size wr
     have p50_0:=(hnd.below (zAa hB Bz)).c0 (u:=.int .i64 x.at_) rfl
     have p51_0:=(hnd'.below (zAa hB Bz)).c0 (u:=.int .i64 y.at_) rfl
     go_wp2_with fail
     (try simp only[List.append_eq,List.cons_append,List.nil_append])
     refine zAc (.take 0 (.take 1 (.take 2 (.take 3 (.take 4 (.take 5 (.take 6 (.take 7 (.take 8 (.take 9 (.take 10 (.take 11 (.take 12 (.take 13 (.take 14 (.take 15 .done)))))))))))))))) [] (fun w'=>w'.cell? ⟨b,off+(k+1)*5,none⟩=some (.int .i64 x.at_)∧w'.cell? ⟨b,off+k*5,none⟩=some (.int .i64 y.at_)) (by kernel_rfl) (by kernel_rfl) ⟨p50_0,p51_0⟩ ?_
     iterate 16 (refine zAb (o:=⟨some _,_,_,_,_,_⟩) rfl rfl (fun w' ⟨p50_0,p51_0⟩=>by go_simp<;>with_reducible rfl) ?_;try simp only[pUt,pLt,pZt,pSt])
     refine zAe ?_
     go_wp2_with fail
     go_roundg (n-(k+1+1))
     case measure=>have:=HGK.out;omega
     case rel=>exact⟨k+1+1,by omega,rfl,by go_num,zAa (zAa hB Bz) (by go_grown),HR2.out⟩
    ·have g1:x.at_≤y.at_:=by omega
     clear hx hy hel hr hl
     have Bz:=Below.refl wr.heap.size wr
     have p50_0:=(hnd.below (zAa hB Bz)).c0 (u:=.int .i64 x.at_) rfl
     have p51_0:=(hnd'.below (zAa hB Bz)).c0 (u:=.int .i64 y.at_) rfl
     go_wp2_with fail
     (try simp only[List.append_eq,List.cons_append,List.nil_append])
     refine zAc (.take 0 (.take 1 (.take 2 (.take 3 (.take 4 (.take 5 (.take 6 (.take 7 (.take 8 (.take 9 (.take 10 (.take 11 (.take 12 (.take 13 (.take 14 (.take 15 .done)))))))))))))))) [] (fun w'=>w'.cell? ⟨b,off+(k+1)*5,none⟩=some (.int .i64 x.at_)∧w'.cell? ⟨b,off+k*5,none⟩=some (.int .i64 y.at_)) (by kernel_rfl) (by kernel_rfl) ⟨p50_0,p51_0⟩ ?_
     iterate 16 (refine zAb (o:=⟨some _,_,_,_,_,_⟩) rfl rfl (fun w' ⟨p50_0,p51_0⟩=>by go_simp<;>with_reducible rfl) ?_;try simp only[pUt,pLt,pZt,pSt])
     refine zAe ?_
     go_wp2_with fail
     with_reducible refine(normV_q (hg.out.below (zAa hB (zAa (b:=wr) Bz (by go_grown)))) hM hn (Lib.hid (Tab.below hT.out (zAa hB (zAa (b:=wr) Bz (by go_grown)))))).mono ?_
     rintro e w1 ⟨A1,n1,c1,rfl,h1,b1⟩
     replace b1:=zAa (a:=wr) (by go_grown) b1
     replace Bz:=zAa Bz b1
     clear b1
     clear p50_0 p51_0
     go_wp2_with fail
     go_ret
     have hF:=zAa (c:=w1) hB Bz
     have hF2:=h1.len
     exact⟨A1,n1,c1,nrm (prs L),rfl,(NV.below h1 (by go_grown)).gv (nrm_nrm _).rise,(nrm_nrm _).rise,nrm_get _,by have:=nrm_len (prs L);have:=HLN.out;rw[prs_len] at *;omega,zAa (zAa hB Bz) (by go_grown)⟩
  ·obtain rfl:i=n:=by omega
   have i1:¬(i:Int)<(i:Int):=by omega
   rw[List.take_of_length_le (by rw[HLN.out];exact Nat.le_refl _)] at hr
   have HR:=Lib.hid hr
   clear hr
   go_wp2_with fail
   go_ret
   exact⟨A,i,c,prs L,rfl,(hg.out.below hB).mono (Nat.le_succ _),HR.out,fun _=>rfl,Nat.le_refl _,hB⟩
def JN1 (w:World) (P Q:List (Int×Rat)) (n m MM gk:Nat) (s5 s6 s7:Value) (wr:World):Prop :=
 ∃(i j k:Nat) (H:Option Addr) (hc:Nat) (O:List Tm),s5=.slice H k hc∧s6=.int .i64 (i:Int)∧s7=.int .i64 (j:Int)∧i≤n∧j≤m∧n-i+(m-j)≤gk∧k≤i+j∧
  OwnR wr w.heap.size 118 5 (.slice H k hc) k (flat Tm.cs O)∧Joined (prs O) P Q i j∧OnT wr O (fun _=>MM)∧Below w.heap.size w wr
theorem add_wrap {n m:Nat} (hn:n≤1000000) (hm:m≤1000000):IntKind.i64.wrap ((n:Int)+(m:Int))=((n+m:Nat):Int):=by rw[IntWalk.i64_in _ (by omega)];omega
set_option maxRecDepth 100000 in
set_option maxHeartbeats 8000000 in
theorem join_q {w:World} {X Y:Option Addr} {n cx m cy M M':Nat} {P Q:List (Int×Rat)} (h:NV w X n cx P M) (h':NV w Y m cy Q M') (hP:Nrm P) (hQ:Nrm Q) (hM:M+M'≤18000) (hn:n≤1000000) (hm:m≤1000000) (hT:Hid (Tab w)) :
  Calls Tryz.prog 108 #[.slice X n cx,.slice Y m cy] w (TellsV w (nrm (P++Q)) (M+M')):=by
 obtain⟨LX,x1,x2,rfl,x4⟩:=h
 obtain⟨LY,y1,y2,rfl,y4⟩:=h'
 have HSX:=Lib.hid x1
 have HLX:=Lib.hid x1.1
 have HNX:=Lib.hid x2
 have HSY:=Lib.hid y1
 have HLY:=Lib.hid y1.1
 have HNY:=Lib.hid y2
 have HPX:=Lib.hid hP
 have HPY:=Lib.hid hQ
 have w0:=add_wrap hn hm
 clear x1 x2 x4 y1 y2 y4 hP hQ
 go_enter Tryz.func108,Tryz.ntmps108
 go_wp2_with (at_make;refine And.left (b:=True) ?_)
 refine⟨?_,trivial⟩
 refine Elt.make elt_vec rfl _ _ rfl .i64 .i64 _ (n+m) rfl rfl (by first | rfl | (push_cast;rfl) | omega) (by omega) w.heap.size (Nat.le_refl _) ?_
 intro g0 w1 ho1 hB1 hg0
 have HO1:=Lib.hid ho1
 have HB1:=Lib.hid hB1
 clear ho1 hB1 hg0
 go_wp2_with fail
 go_loopg [5,6,7] (n+m) (fun gk s5 s6 s7 wr=>JN1 w (prs LX) (prs LY) n m (M+M') gk s5 s6 s7 wr)
 case atStart=>exact⟨0,0,0,_,_,[],rfl,rfl,rfl,Nat.zero_le _,Nat.zero_le _,Nat.le_refl _,Nat.le_refl _,HO1.out.below (by go_grown),Joined.start _ _,OnT.nil _ _,zAa HB1.out (by go_grown)⟩
 case round =>
  clear HO1 HB1 w0
  obtain⟨i,j,k,H,hc,O,rfl,rfl,rfl,hi,hj,hgk,hk,ho,hjo,hon,hB⟩:=hrel
  have HJO:=Lib.hid hjo
  have i2:(0:Int)≤(i:Int):=by omega
  have j2:(0:Int)≤(j:Int):=by omega
  by_cases hin:i<n
  ·obtain⟨bx,ox,rfl,hel⟩:=HSX.out.at Tm.cs_len (by omega) (by omega)
   obtain⟨x,hx⟩:∃x,LX[i]?=some x:=⟨LX[i]'(by rw[HLX.out];exact hin),List.getElem?_eq_getElem _⟩
   have hnd:=hel i x hx
   have hxn:=HNX.out x (List.mem_of_getElem? hx)
   have hnx:=hxn.1.below hB
   have hrx:=hnx.r
   have hxs:sz x.x.q+1≤M:=hxn.2.2
   have hpx:=prs_get hx
   have i1:(i:Int)<(n:Int):=by omega
   have i3:((i:Int)==(n:Int))=false:=by rw[beq_eq_false_iff_ne];omega
   clear hel hx
   by_cases hjm:j<m
   ·obtain⟨by_,oy,rfl,hel'⟩:=HSY.out.at Tm.cs_len (by omega) (by omega)
    obtain⟨y,hy⟩:∃y,LY[j]?=some y:=⟨LY[j]'(by rw[HLY.out];exact hjm),List.getElem?_eq_getElem _⟩
    have hnd':=hel' j y hy
    have hyn:=HNY.out y (List.mem_of_getElem? hy)
    have hny:=hyn.1.below hB
    have hry:=hny.r
    have hys:sz y.x.q+1≤M':=hyn.2.2
    have hpy:=prs_get hy
    have j1:(j:Int)<(m:Int):=by omega
    have j3:((j:Int)==(m:Int))=false:=by rw[beq_eq_false_iff_ne];omega
    clear hel' hy
    by_cases hxy:x.at_<y.at_
    ·have HJ2:Hid (Joined (prs (O++[x])) (prs LX) (prs LY) (i+1) j):=Lib.hid (by rw[prs_append];exact HJO.out.left HPX.out hpx (HPY.out.rise.behind hpy hxy))
     have HS1:Hid (sz x.x.q+1≤M+M'):=Lib.hid (by omega)
     have HEX:=Lib.hid hxn.2.1
     have g1:x.at_<y.at_:=hxy
     clear hxy hxn hyn hpx hpy hjo
     have Bz:=Below.refl wr.heap.size wr
     have p50_0:=(hnd.below (zAa hB Bz)).c0 (u:=.int .i64 x.at_) rfl
     have p50_1:=(hnd.below (zAa hB Bz)).at 1 (.bool x.x.s) rfl
     have p50_2:=(hnd.below (zAa hB Bz)).at 2 (.slice x.x.A x.x.l x.x.c) rfl
     have p50_3:=(hnd.below (zAa hB Bz)).at 3 (.bool x.x.s') rfl
     have p50_4:=(hnd.below (zAa hB Bz)).at 4 (.slice x.x.A' x.x.l' x.x.c') rfl
     have p51_0:=(hnd'.below (zAa hB Bz)).c0 (u:=.int .i64 y.at_) rfl
     go_wp2_with fail
     (try simp only[List.append_eq,List.cons_append,List.nil_append])
     refine zAc (.take 0 (.take 1 (.take 2 (.take 3 (.take 4 (.take 5 (.take 6 (.take 7 (.take 8 (.take 9 (.take 10 (.take 11 (.take 12 (.take 13 (.take 14 (.take 15 (.take 16 (.take 17 (.take 18 (.take 19 (.take 20 (.take 21 (.take 22 (.take 23 .done)))))))))))))))))))))))) [] (fun w'=>w'.cell? ⟨bx,ox+i*5,none⟩=some (.int .i64 x.at_)∧w'.cell? ⟨by_,oy+j*5,none⟩=some (.int .i64 y.at_)) (by kernel_rfl) (by kernel_rfl) ⟨p50_0,p51_0⟩ ?_
     iterate 24 (refine zAb (o:=⟨some _,_,_,_,_,_⟩) rfl rfl (fun w' ⟨p50_0,p51_0⟩=>by go_simp<;>with_reducible rfl) ?_;try simp only[pUt,pLt,pZt,pSt])
     refine zAe ?_
     go_wp2_with (at_builtin;refine And.left (b:=True) ?_)
     refine⟨?_,trivial⟩
     obtain⟨V1,hW,x0,hN⟩:=zAi wr #[.int .i64 x.at_,.bool x.x.s,.slice x.x.A x.x.l x.x.c,.bool x.x.s',.slice x.x.A' x.x.l' x.x.c'] 118
     rw[←hW]
     clear hW
     obtain⟨v0,hb0⟩:∃b,b=wr.heap.size:=⟨_,rfl⟩
     rw[←hb0] at x0 ⊢
     have ow_0:w.heap.size≤v0:=by have:=hB.size;have:=Bz.size;omega
     have nv0_own:=OwnR.off' (b:=v0) ho (by omega)
     replace hnx:=hnx.below hN
     replace hon:=hon.below hN
     replace ho:=ho.below hN
     replace hB:=zAa (zAa hB Bz) hN
     have HX0:=Lib.hid x0
     clear x0 hN Bz hb0
     have Bz:=Below.refl V1.heap.size V1
     clear p50_0 p50_1 p50_2 p50_3 p50_4 p51_0
     have hdr:V1.drew.heap.size=V1.heap.size:=rfl
     have hdr2:V1.drew.drew.heap.size=V1.heap.size:=rfl
     refine Elt.app elt_vec rfl _ _ rfl (w.heap.size) (.slice H k hc) (k) (O) rfl ho (.slice (some ⟨v0,0,none⟩) 1 1) (1) ([x]) rfl (From.one (HX0.out.below (zAa Bz (by go_grown))) (x) rfl (elt_vec.len _)) (by omega) (by have:=hB.size;have:=Bz.size;omega) ?_
     intro H1 c1 w1 ho1 hg1
     replace hB:=(zAa (zAa hB Bz) (by go_grown)).trans (hg1.below (by have:=hB.size;have:=Bz.size;omega) (fun g hg=>by have:=ho.base g hg;omega))
     clear HX0
     clear hdr hdr2
     replace hnx:=hnx.k hg1.k
     replace hon:=hon.k hg1.k
     clear hg1 Bz
     have Bz:=Below.refl w1.heap.size w1
     go_wp2_with fail
     have hs1:=HS1.out
     go_roundg (n-(i+1)+(m-(j)))
     case measure=>omega
     case rel=>exact⟨i+1,j,k+1,_,_,_,rfl,by go_num,rfl,by omega,by omega,Nat.le_refl _,by omega,OwnR.below ho1 (by go_grown),HJ2.out,(OnT.below hon (by go_grown)).snoc (RN.below hnx (by go_grown)) HEX.out hs1,zAa (zAa hB Bz) (by go_grown)⟩
    ·have g1:¬x.at_<y.at_:=hxy
     by_cases hyx:y.at_<x.at_
     ·have HJ2:Hid (Joined (prs (O++[y])) (prs LX) (prs LY) i (j+1)):=Lib.hid (by rw[prs_append];exact HJO.out.right HPY.out hpy (HPX.out.rise.behind hpx hyx))
      have HS1:Hid (sz y.x.q+1≤M+M'):=Lib.hid (by omega)
      have HEX:=Lib.hid hyn.2.1
      have g2:y.at_<x.at_:=hyx
      clear hxy hyx hxn hyn hpx hpy hjo
      have Bz:=Below.refl wr.heap.size wr
      have p50_0:=(hnd.below (zAa hB Bz)).c0 (u:=.int .i64 x.at_) rfl
      have p51_0:=(hnd'.below (zAa hB Bz)).c0 (u:=.int .i64 y.at_) rfl
      have p51_1:=(hnd'.below (zAa hB Bz)).at 1 (.bool y.x.s) rfl
      have p51_2:=(hnd'.below (zAa hB Bz)).at 2 (.slice y.x.A y.x.l y.x.c) rfl
      have p51_3:=(hnd'.below (zAa hB Bz)).at 3 (.bool y.x.s') rfl
      have p51_4:=(hnd'.below (zAa hB Bz)).at 4 (.slice y.x.A' y.x.l' y.x.c') rfl
      go_wp2_with fail
      (try simp only[List.append_eq,List.cons_append,List.nil_append])
      refine zAc (.take 0 (.take 1 (.take 2 (.take 3 (.take 4 (.take 5 (.take 6 (.take 7 (.take 8 (.take 9 (.take 10 (.take 11 (.take 12 (.take 13 (.take 14 (.take 15 (.take 16 (.take 17 (.take 18 (.take 19 (.take 20 (.take 21 (.take 22 (.take 23 .done)))))))))))))))))))))))) [] (fun w'=>w'.cell? ⟨bx,ox+i*5,none⟩=some (.int .i64 x.at_)∧w'.cell? ⟨by_,oy+j*5,none⟩=some (.int .i64 y.at_)) (by kernel_rfl) (by kernel_rfl) ⟨p50_0,p51_0⟩ ?_
      iterate 24 (refine zAb (o:=⟨some _,_,_,_,_,_⟩) rfl rfl (fun w' ⟨p50_0,p51_0⟩=>by go_simp<;>with_reducible rfl) ?_;try simp only[pUt,pLt,pZt,pSt])
      refine zAe ?_
      go_wp2_with fail
      (try simp only[List.append_eq,List.cons_append,List.nil_append])
      refine zAc (.take 0 (.take 1 (.take 2 (.take 3 (.take 4 (.take 5 (.take 6 (.take 7 (.take 8 (.take 9 (.take 10 (.take 11 (.take 12 (.take 13 (.take 14 (.take 15 (.take 16 (.take 17 .done)))))))))))))))))) [] (fun w'=>w'.cell? ⟨bx,ox+i*5,none⟩=some (.int .i64 x.at_)∧w'.cell? ⟨by_,oy+j*5,none⟩=some (.int .i64 y.at_)) (by kernel_rfl) (by kernel_rfl) ⟨p50_0,p51_0⟩ ?_
      iterate 18 (refine zAb (o:=⟨some _,_,_,_,_,_⟩) rfl rfl (fun w' ⟨p50_0,p51_0⟩=>by go_simp<;>with_reducible rfl) ?_;try simp only[pUt,pLt,pZt,pSt])
      refine zAe ?_
      go_wp2_with (at_builtin;refine And.left (b:=True) ?_)
      refine⟨?_,trivial⟩
      obtain⟨V1,hW,x0,hN⟩:=zAi wr #[.int .i64 y.at_,.bool y.x.s,.slice y.x.A y.x.l y.x.c,.bool y.x.s',.slice y.x.A' y.x.l' y.x.c'] 118
      rw[←hW]
      clear hW
      obtain⟨v0,hb0⟩:∃b,b=wr.heap.size:=⟨_,rfl⟩
      rw[←hb0] at x0 ⊢
      have ow_0:w.heap.size≤v0:=by have:=hB.size;have:=Bz.size;omega
      have nv0_own:=OwnR.off' (b:=v0) ho (by omega)
      replace hny:=hny.below hN
      replace hon:=hon.below hN
      replace ho:=ho.below hN
      replace hB:=zAa (zAa hB Bz) hN
      have HX0:=Lib.hid x0
      clear x0 hN Bz hb0
      have Bz:=Below.refl V1.heap.size V1
      clear p50_0 p51_0 p51_1 p51_2 p51_3 p51_4
      have hdr:V1.drew.heap.size=V1.heap.size:=rfl
      have hdr2:V1.drew.drew.heap.size=V1.heap.size:=rfl
      refine Elt.app elt_vec rfl _ _ rfl (w.heap.size) (.slice H k hc) (k) (O) rfl ho (.slice (some ⟨v0,0,none⟩) 1 1) (1) ([y]) rfl (From.one (HX0.out.below (zAa Bz (by go_grown))) (y) rfl (elt_vec.len _)) (by omega) (by have:=hB.size;have:=Bz.size;omega) ?_
      intro H1 c1 w1 ho1 hg1
      replace hB:=(zAa (zAa hB Bz) (by go_grown)).trans (hg1.below (by have:=hB.size;have:=Bz.size;omega) (fun g hg=>by have:=ho.base g hg;omega))
      clear HX0
      clear hdr hdr2
      replace hny:=hny.k hg1.k
      replace hon:=hon.k hg1.k
      clear hg1 Bz
      have Bz:=Below.refl w1.heap.size w1
      go_wp2_with fail
      have hs1:=HS1.out
      go_roundg (n-(i)+(m-(j+1)))
      case measure=>omega
      case rel=>exact⟨i,j+1,k+1,_,_,_,rfl,rfl,by go_num,by omega,by omega,Nat.le_refl _,by omega,OwnR.below ho1 (by go_grown),HJ2.out,(OnT.below hon (by go_grown)).snoc (RN.below hny (by go_grown)) HEX.out hs1,zAa (zAa hB Bz) (by go_grown)⟩
     ·have g2:¬y.at_<x.at_:=hyx
      have hb:=HJO.out.both HPX.out HPY.out hpx hpy (show x.at_=y.at_ by omega)
      have hsz:=sz_add (Nat.le_refl (sz x.x.q)) (Nat.le_refl (sz y.x.q))
      obtain⟨z,HZ⟩:∃z,Hid ((x.x.q+y.x.q).num.sign=z):=⟨_,Lib.hid rfl⟩
      have hz0:(z==0)=decide (x.x.q+y.x.q=0):=by rw[←HZ.out,num_sign]
      by_cases hs0:x.x.q+y.x.q=0
      ·have g3:(z != 0)=false:=by rw[decide_eq_true hs0] at hz0;unfold bne;rw[hz0];rfl
       have HJ2:Hid (Joined (prs O) (prs LX) (prs LY) (i+1) (j+1)):=Lib.hid (hb.1 hs0)
       have HS1:Hid (0≤M+M'):=Lib.hid (Nat.zero_le _)
       clear hxy hyx hxn hyn hpx hpy hjo hb hz0 hs0
       have Bz:=Below.refl wr.heap.size wr
       have p50_0:=(hnd.below (zAa hB Bz)).c0 (u:=.int .i64 x.at_) rfl
       have p50_1:=(hnd.below (zAa hB Bz)).at 1 (.bool x.x.s) rfl
       have p50_2:=(hnd.below (zAa hB Bz)).at 2 (.slice x.x.A x.x.l x.x.c) rfl
       have p50_3:=(hnd.below (zAa hB Bz)).at 3 (.bool x.x.s') rfl
       have p50_4:=(hnd.below (zAa hB Bz)).at 4 (.slice x.x.A' x.x.l' x.x.c') rfl
       have p51_0:=(hnd'.below (zAa hB Bz)).c0 (u:=.int .i64 y.at_) rfl
       have p51_1:=(hnd'.below (zAa hB Bz)).at 1 (.bool y.x.s) rfl
       have p51_2:=(hnd'.below (zAa hB Bz)).at 2 (.slice y.x.A y.x.l y.x.c) rfl
       have p51_3:=(hnd'.below (zAa hB Bz)).at 3 (.bool y.x.s') rfl
       have p51_4:=(hnd'.below (zAa hB Bz)).at 4 (.slice y.x.A' y.x.l' y.x.c') rfl
       go_wp2_with fail
       (try simp only[List.append_eq,List.cons_append,List.nil_append])
       refine zAc (.take 0 (.take 1 (.take 2 (.take 3 (.take 4 (.take 5 (.take 6 (.take 7 (.take 8 (.take 9 (.take 10 (.take 11 (.take 12 (.take 13 (.take 14 (.take 15 (.take 16 (.take 17 (.take 18 (.take 19 (.take 20 (.take 21 (.take 22 (.take 23 .done)))))))))))))))))))))))) [] (fun w'=>w'.cell? ⟨bx,ox+i*5,none⟩=some (.int .i64 x.at_)∧w'.cell? ⟨by_,oy+j*5,none⟩=some (.int .i64 y.at_)) (by kernel_rfl) (by kernel_rfl) ⟨p50_0,p51_0⟩ ?_
       iterate 24 (refine zAb (o:=⟨some _,_,_,_,_,_⟩) rfl rfl (fun w' ⟨p50_0,p51_0⟩=>by go_simp<;>with_reducible rfl) ?_;try simp only[pUt,pLt,pZt,pSt])
       refine zAe ?_
       go_wp2_with fail
       (try simp only[List.append_eq,List.cons_append,List.nil_append])
       refine zAc (.take 0 (.take 1 (.take 2 (.take 3 (.take 4 (.take 5 (.take 6 (.take 7 (.take 8 (.take 9 (.take 10 (.take 11 (.take 12 (.take 13 (.take 14 (.take 15 (.take 16 (.take 17 .done)))))))))))))))))) [] (fun w'=>w'.cell? ⟨bx,ox+i*5,none⟩=some (.int .i64 x.at_)∧w'.cell? ⟨by_,oy+j*5,none⟩=some (.int .i64 y.at_)) (by kernel_rfl) (by kernel_rfl) ⟨p50_0,p51_0⟩ ?_
       iterate 18 (refine zAb (o:=⟨some _,_,_,_,_,_⟩) rfl rfl (fun w' ⟨p50_0,p51_0⟩=>by go_simp<;>with_reducible rfl) ?_;try simp only[pUt,pLt,pZt,pSt])
       refine zAe ?_
       go_wp2_with fail
       (try simp only[List.append_eq,List.cons_append,List.nil_append])
       refine zAc (.pure 0 (.pure 1 (.pure 2 (.pure 3 (.take 4 (.pure 5 (.pure 6 (.pure 7 (.pure 8 (.take 9 (.two 10 (.only 11 (.only 12 .done)) 11 (.only 10 (.only 12 .done))))))))))))) [12] (fun w'=>w'.cell? ⟨bx,ox+i*5+1,none⟩=some (.bool x.x.s)∧w'.cell? ⟨bx,ox+i*5+2,none⟩=some (.slice x.x.A x.x.l x.x.c)∧w'.cell? ⟨bx,ox+i*5+3,none⟩=some (.bool x.x.s')∧w'.cell? ⟨bx,ox+i*5+4,none⟩=some (.slice x.x.A' x.x.l' x.x.c')∧w'.cell? ⟨by_,oy+j*5+1,none⟩=some (.bool y.x.s)∧w'.cell? ⟨by_,oy+j*5+2,none⟩=some (.slice y.x.A y.x.l y.x.c)∧w'.cell? ⟨by_,oy+j*5+3,none⟩=some (.bool y.x.s')∧w'.cell? ⟨by_,oy+j*5+4,none⟩=some (.slice y.x.A' y.x.l' y.x.c')) (by kernel_rfl) (by kernel_rfl) ⟨p50_1,p50_2,p50_3,p50_4,p51_1,p51_2,p51_3,p51_4⟩ ?_
       iterate 4 (refine zAn (o:=⟨some _,_,_,_,_,_⟩) rfl rfl (fun w'=>by go_simp<;>with_reducible rfl) ?_;try simp only[pUt,pLt,pZt,pSt])
       refine zAb (o:=⟨some _,_,_,_,_,_⟩) rfl rfl (fun w' ⟨p50_1,p50_2,p50_3,p50_4,p51_1,p51_2,p51_3,p51_4⟩=>by go_simp<;>with_reducible rfl) ?_
       try simp only[pUt,pLt,pZt,pSt]
       iterate 4 (refine zAn (o:=⟨some _,_,_,_,_,_⟩) rfl rfl (fun w'=>by go_simp<;>with_reducible rfl) ?_;try simp only[pUt,pLt,pZt,pSt])
       refine zAb (o:=⟨some _,_,_,_,_,_⟩) rfl rfl (fun w' ⟨p50_1,p50_2,p50_3,p50_4,p51_1,p51_2,p51_3,p51_4⟩=>by go_simp<;>with_reducible rfl) ?_
       try simp only[pUt,pLt,pZt,pSt]
       refine wpPlan_two (o:=⟨some 35,_,_,_,_,_⟩) (o':=⟨some 8,_,_,_,_,_⟩) rfl rfl rfl rfl (fun K hK=>?_) (fun K hK=>?_)
       ·go_simp
        with_reducible refine(add_q (R.below hrx (by go_grown)) (R.below hry (by go_grown)) (by omega) (Lib.hid (Tab.below hT.out (zAa hB (zAa (b:=wr) Bz (by go_grown)))))).mono ?_
        rintro e w1 ⟨s1,A1,c1,l1,s1r,A1r,c1r,l1r,rfl,h1,b1⟩
        replace b1:=zAa (a:=wr) (by go_grown) b1
        replace hon:=hon.below b1
        replace ho:=ho.below b1
        replace Bz:=zAa Bz b1
        clear b1
        clear p50_0 p50_1 p50_2 p50_3 p50_4 p51_0 p51_1 p51_2 p51_3 p51_4
        have p50_1:=(hnd.below (zAa hB Bz)).at 1 (.bool x.x.s) rfl
        have p50_2:=(hnd.below (zAa hB Bz)).at 2 (.slice x.x.A x.x.l x.x.c) rfl
        have p50_3:=(hnd.below (zAa hB Bz)).at 3 (.bool x.x.s') rfl
        have p50_4:=(hnd.below (zAa hB Bz)).at 4 (.slice x.x.A' x.x.l' x.x.c') rfl
        have p51_1:=(hnd'.below (zAa hB Bz)).at 1 (.bool y.x.s) rfl
        have p51_2:=(hnd'.below (zAa hB Bz)).at 2 (.slice y.x.A y.x.l y.x.c) rfl
        have p51_3:=(hnd'.below (zAa hB Bz)).at 3 (.bool y.x.s') rfl
        have p51_4:=(hnd'.below (zAa hB Bz)).at 4 (.slice y.x.A' y.x.l' y.x.c') rfl
        refine hK.out _ _ ⟨p50_1,p50_2,p50_3,p50_4,p51_1,p51_2,p51_3,p51_4⟩ (fun _=>?_)
        try simp only[pUt,pLt,pZt,pSt]
        clear hK K
        refine zAd (o:=⟨some 8,_,_,_,_,_⟩) rfl rfl (fun K hK=>?_)
        go_simp
        refine hK.out _ _ ⟨(zAj p50_1),(zAj p50_2),(zAj p50_3),(zAj p50_4),(zAj p51_1),(zAj p51_2),(zAj p51_3),(zAj p51_4)⟩ (fun _=>?_)
        try simp only[pUt,pLt,pZt,pSt]
        clear hK K
        refine zAg (o:=⟨none,_,_,_,_,_⟩) rfl rfl (by decide) (fun K hK=>?_)
        go_simp
        refine hK.out _ _ ?_
        try simp only[Act.put,List.setIfInBounds_toArray,List.set_cons_zero,List.set_cons_succ]
        clear hK K
        refine zAe ?_
        obtain⟨V1,hW,x0,hN⟩:=zAi w1 #[.bool s1,.slice A1 l1 c1,.bool s1r,.slice A1r l1r c1r] 57
        rw[←hW]
        clear hW
        obtain⟨v0,hb0⟩:∃b,b=w1.heap.size:=⟨_,rfl⟩
        rw[←hb0] at x0 ⊢
        have ow_0:w.heap.size≤v0:=by have:=hB.size;have:=Bz.size;omega
        have nv0_own:=OwnR.off' (b:=v0) ho (by omega)
        replace h1:=h1.below hN
        replace hon:=hon.below hN
        replace ho:=ho.below hN
        replace hB:=zAa (zAa hB Bz) hN
        have HX0:=Lib.hid x0
        clear x0 hN Bz hb0
        have Bz:=Below.refl V1.heap.size V1
        clear p50_1 p50_2 p50_3 p50_4 p51_1 p51_2 p51_3 p51_4
        have p0_0:=(HX0.out.below Bz).cell 0 (.bool s1) rfl
        have p0_1:=(HX0.out.below Bz).cell 1 (.slice A1 l1 c1) rfl
        have p0_2:=(HX0.out.below Bz).cell 2 (.bool s1r) rfl
        have p0_3:=(HX0.out.below Bz).cell 3 (.slice A1r l1r c1r) rfl
        go_wp2_with fail
        with_reducible refine(sign_q (R.below h1.r (by go_grown)) (by omega) z HZ).mono ?_
        rintro e w2 ⟨rfl,b2⟩
        replace b2:=zAa (a:=V1) (by go_grown) b2
        replace hon:=hon.below b2
        replace ho:=ho.below b2
        replace Bz:=zAa Bz b2
        clear b2
        clear p0_0 p0_1 p0_2 p0_3
        go_wp2_with fail
        have hs1:=HS1.out
        go_roundg (n-(i+1)+(m-(j+1)))
        case measure=>omega
        case rel=>exact⟨i+1,j+1,k,_,_,_,rfl,by go_num,by go_num,by omega,by omega,Nat.le_refl _,by omega,OwnR.below ho (by go_grown),HJ2.out,OnT.below hon (by go_grown),zAa (zAa hB Bz) (by go_grown)⟩
       ·go_simp
        refine hK.out _ _ ⟨(zAj p50_1),(zAj p50_2),(zAj p50_3),(zAj p50_4),(zAj p51_1),(zAj p51_2),(zAj p51_3),(zAj p51_4)⟩ (fun _=>?_)
        try simp only[pUt,pLt,pZt,pSt]
        clear hK K
        refine zAd (o:=⟨some 35,_,_,_,_,_⟩) rfl rfl (fun K hK=>?_)
        go_simp
        obtain⟨V1,hW,x0,hN⟩:=zAi wr #[.bool false,.slice none 0 0,.bool false,.slice none 0 0] 57
        rw[←hW]
        clear hW
        obtain⟨v0,hb0⟩:∃b,b=wr.heap.size:=⟨_,rfl⟩
        rw[←hb0] at x0 ⊢
        have ow_0:w.heap.size≤v0:=by have:=hB.size;have:=Bz.size;omega
        have nv0_own:=OwnR.off' (b:=v0) ho (by omega)
        replace hon:=hon.below hN
        replace ho:=ho.below hN
        replace hrx:=hrx.below hN
        replace hry:=hry.below hN
        replace hB:=zAa (zAa hB Bz) hN
        have HX0:=Lib.hid x0
        clear x0 hN Bz hb0
        have Bz:=Below.refl V1.heap.size V1
        clear p50_0 p50_1 p50_2 p50_3 p50_4 p51_0 p51_1 p51_2 p51_3 p51_4
        with_reducible refine(add_q (R.below hrx (by go_grown)) (R.below hry (by go_grown)) (by omega) (Lib.hid (Tab.below hT.out (zAa hB (zAa (b:=V1) Bz (by go_grown)))))).mono ?_
        rintro e w1 ⟨s1,A1,c1,l1,s1r,A1r,c1r,l1r,rfl,h1,b1⟩
        replace b1:=zAa (a:=V1) (by go_grown) b1
        replace hon:=hon.below b1
        replace ho:=ho.below b1
        replace Bz:=zAa Bz b1
        clear b1
        have p0_0:=(HX0.out.below Bz).cell 0 (.bool false) rfl
        have p0_1:=(HX0.out.below Bz).cell 1 (.slice none 0 0) rfl
        have p0_2:=(HX0.out.below Bz).cell 2 (.bool false) rfl
        have p0_3:=(HX0.out.below Bz).cell 3 (.slice none 0 0) rfl
        have f0_0:=(HX0.out.below Bz).frozen 0
        have f0_1:=(HX0.out.below Bz).frozen 1
        have f0_2:=(HX0.out.below Bz).frozen 2
        have f0_3:=(HX0.out.below Bz).frozen 3
        have y0:=(HX0.out.below Bz).lt
        have p50_1:=(hnd.below (zAa hB Bz)).at 1 (.bool x.x.s) rfl
        have p50_2:=(hnd.below (zAa hB Bz)).at 2 (.slice x.x.A x.x.l x.x.c) rfl
        have p50_3:=(hnd.below (zAa hB Bz)).at 3 (.bool x.x.s') rfl
        have p50_4:=(hnd.below (zAa hB Bz)).at 4 (.slice x.x.A' x.x.l' x.x.c') rfl
        have p51_1:=(hnd'.below (zAa hB Bz)).at 1 (.bool y.x.s) rfl
        have p51_2:=(hnd'.below (zAa hB Bz)).at 2 (.slice y.x.A y.x.l y.x.c) rfl
        have p51_3:=(hnd'.below (zAa hB Bz)).at 3 (.bool y.x.s') rfl
        have p51_4:=(hnd'.below (zAa hB Bz)).at 4 (.slice y.x.A' y.x.l' y.x.c') rfl
        refine hK.out _ _ ⟨p50_1,p50_2,p50_3,p50_4,p51_1,p51_2,p51_3,p51_4⟩ (fun _=>?_)
        try simp only[pUt,pLt,pZt,pSt]
        clear hK K
        refine zAg (o:=⟨none,_,_,_,_,_⟩) rfl rfl (by decide) (fun K hK=>?_)
        go_simp
        refine hK.out _ _ ?_
        try simp only[Act.put,List.setIfInBounds_toArray,List.set_cons_zero,List.set_cons_succ]
        clear hK K
        refine zAe ?_
        obtain⟨V2,hW,x,kk,far,bel⟩:=store4 (.bool s1) (.slice A1 l1 c1) (.bool s1r) (.slice A1r l1r c1r) (HX0.out.below Bz) (fun _ e=>by cases e) (fun _ e=>by cases e) (fun _ e=>by cases e) (fun _ e=>by cases e)
        rw[←hW]
        clear hW
        replace h1:=h1.k kk
        replace hon:=hon.k kk
        replace ho:=ho.far2 far nv0_own
        replace hB:=bel w.heap.size w (by omega) (zAa hB Bz)
        replace HX0:=Lib.hid x
        clear x kk far bel Bz
        have Bz:=Below.refl V2.heap.size V2
        clear p0_0 p0_1 p0_2 p0_3 f0_0 f0_1 f0_2 f0_3 y0 p50_1 p50_2 p50_3 p50_4 p51_1 p51_2 p51_3 p51_4
        have p0_0:=(HX0.out.below Bz).cell 0 (.bool s1) rfl
        have p0_1:=(HX0.out.below Bz).cell 1 (.slice A1 l1 c1) rfl
        have p0_2:=(HX0.out.below Bz).cell 2 (.bool s1r) rfl
        have p0_3:=(HX0.out.below Bz).cell 3 (.slice A1r l1r c1r) rfl
        go_wp2_with fail
        with_reducible refine(sign_q (R.below h1.r (by go_grown)) (by omega) z HZ).mono ?_
        rintro e w2 ⟨rfl,b2⟩
        replace b2:=zAa (a:=V2) (by go_grown) b2
        replace hon:=hon.below b2
        replace ho:=ho.below b2
        replace Bz:=zAa Bz b2
        clear b2
        clear p0_0 p0_1 p0_2 p0_3
        go_wp2_with fail
        have hs1:=HS1.out
        go_roundg (n-(i+1)+(m-(j+1)))
        case measure=>omega
        case rel=>exact⟨i+1,j+1,k,_,_,_,rfl,by go_num,by go_num,by omega,by omega,Nat.le_refl _,by omega,OwnR.below ho (by go_grown),HJ2.out,OnT.below hon (by go_grown),zAa (zAa hB Bz) (by go_grown)⟩
      ·have g3:(z != 0)=true:=by rw[decide_eq_false hs0] at hz0;unfold bne;rw[hz0];rfl
       have HJ2:Hid (∀r:Fr,r.q=x.x.q+y.x.q→Joined (prs (O++[⟨x.at_,r⟩])) (prs LX) (prs LY) (i+1) (j+1)):=Lib.hid (fun r hr=>by rw[prs_append,show prs [(⟨x.at_,r⟩:Tm)]=[(x.at_,x.x.q+y.x.q)] from by rw[←hr];rfl];exact hb.2 hs0)
       have HS1:Hid (sz (x.x.q+y.x.q)+1≤M+M'):=Lib.hid (by omega)
       clear hxy hyx hxn hyn hpx hpy hjo hb hz0 hs0
       have Bz:=Below.refl wr.heap.size wr
       have p50_0:=(hnd.below (zAa hB Bz)).c0 (u:=.int .i64 x.at_) rfl
       have p50_1:=(hnd.below (zAa hB Bz)).at 1 (.bool x.x.s) rfl
       have p50_2:=(hnd.below (zAa hB Bz)).at 2 (.slice x.x.A x.x.l x.x.c) rfl
       have p50_3:=(hnd.below (zAa hB Bz)).at 3 (.bool x.x.s') rfl
       have p50_4:=(hnd.below (zAa hB Bz)).at 4 (.slice x.x.A' x.x.l' x.x.c') rfl
       have p51_0:=(hnd'.below (zAa hB Bz)).c0 (u:=.int .i64 y.at_) rfl
       have p51_1:=(hnd'.below (zAa hB Bz)).at 1 (.bool y.x.s) rfl
       have p51_2:=(hnd'.below (zAa hB Bz)).at 2 (.slice y.x.A y.x.l y.x.c) rfl
       have p51_3:=(hnd'.below (zAa hB Bz)).at 3 (.bool y.x.s') rfl
       have p51_4:=(hnd'.below (zAa hB Bz)).at 4 (.slice y.x.A' y.x.l' y.x.c') rfl
       go_wp2_with fail
       (try simp only[List.append_eq,List.cons_append,List.nil_append])
       refine zAc (.take 0 (.take 1 (.take 2 (.take 3 (.take 4 (.take 5 (.take 6 (.take 7 (.take 8 (.take 9 (.take 10 (.take 11 (.take 12 (.take 13 (.take 14 (.take 15 (.take 16 (.take 17 (.take 18 (.take 19 (.take 20 (.take 21 (.take 22 (.take 23 .done)))))))))))))))))))))))) [] (fun w'=>w'.cell? ⟨bx,ox+i*5,none⟩=some (.int .i64 x.at_)∧w'.cell? ⟨by_,oy+j*5,none⟩=some (.int .i64 y.at_)) (by kernel_rfl) (by kernel_rfl) ⟨p50_0,p51_0⟩ ?_
       iterate 24 (refine zAb (o:=⟨some _,_,_,_,_,_⟩) rfl rfl (fun w' ⟨p50_0,p51_0⟩=>by go_simp<;>with_reducible rfl) ?_;try simp only[pUt,pLt,pZt,pSt])
       refine zAe ?_
       go_wp2_with fail
       (try simp only[List.append_eq,List.cons_append,List.nil_append])
       refine zAc (.take 0 (.take 1 (.take 2 (.take 3 (.take 4 (.take 5 (.take 6 (.take 7 (.take 8 (.take 9 (.take 10 (.take 11 (.take 12 (.take 13 (.take 14 (.take 15 (.take 16 (.take 17 .done)))))))))))))))))) [] (fun w'=>w'.cell? ⟨bx,ox+i*5,none⟩=some (.int .i64 x.at_)∧w'.cell? ⟨by_,oy+j*5,none⟩=some (.int .i64 y.at_)) (by kernel_rfl) (by kernel_rfl) ⟨p50_0,p51_0⟩ ?_
       iterate 18 (refine zAb (o:=⟨some _,_,_,_,_,_⟩) rfl rfl (fun w' ⟨p50_0,p51_0⟩=>by go_simp<;>with_reducible rfl) ?_;try simp only[pUt,pLt,pZt,pSt])
       refine zAe ?_
       go_wp2_with fail
       (try simp only[List.append_eq,List.cons_append,List.nil_append])
       refine zAc (.pure 0 (.pure 1 (.pure 2 (.pure 3 (.take 4 (.pure 5 (.pure 6 (.pure 7 (.pure 8 (.take 9 (.two 10 (.only 11 (.only 12 .done)) 11 (.only 10 (.only 12 .done))))))))))))) [12] (fun w'=>w'.cell? ⟨bx,ox+i*5+1,none⟩=some (.bool x.x.s)∧w'.cell? ⟨bx,ox+i*5+2,none⟩=some (.slice x.x.A x.x.l x.x.c)∧w'.cell? ⟨bx,ox+i*5+3,none⟩=some (.bool x.x.s')∧w'.cell? ⟨bx,ox+i*5+4,none⟩=some (.slice x.x.A' x.x.l' x.x.c')∧w'.cell? ⟨by_,oy+j*5+1,none⟩=some (.bool y.x.s)∧w'.cell? ⟨by_,oy+j*5+2,none⟩=some (.slice y.x.A y.x.l y.x.c)∧w'.cell? ⟨by_,oy+j*5+3,none⟩=some (.bool y.x.s')∧w'.cell? ⟨by_,oy+j*5+4,none⟩=some (.slice y.x.A' y.x.l' y.x.c')) (by kernel_rfl) (by kernel_rfl) ⟨p50_1,p50_2,p50_3,p50_4,p51_1,p51_2,p51_3,p51_4⟩ ?_
       iterate 4 (refine zAn (o:=⟨some _,_,_,_,_,_⟩) rfl rfl (fun w'=>by go_simp<;>with_reducible rfl) ?_;try simp only[pUt,pLt,pZt,pSt])
       refine zAb (o:=⟨some _,_,_,_,_,_⟩) rfl rfl (fun w' ⟨p50_1,p50_2,p50_3,p50_4,p51_1,p51_2,p51_3,p51_4⟩=>by go_simp<;>with_reducible rfl) ?_
       try simp only[pUt,pLt,pZt,pSt]
       iterate 4 (refine zAn (o:=⟨some _,_,_,_,_,_⟩) rfl rfl (fun w'=>by go_simp<;>with_reducible rfl) ?_;try simp only[pUt,pLt,pZt,pSt])
       refine zAb (o:=⟨some _,_,_,_,_,_⟩) rfl rfl (fun w' ⟨p50_1,p50_2,p50_3,p50_4,p51_1,p51_2,p51_3,p51_4⟩=>by go_simp<;>with_reducible rfl) ?_
       try simp only[pUt,pLt,pZt,pSt]
       refine wpPlan_two (o:=⟨some 35,_,_,_,_,_⟩) (o':=⟨some 8,_,_,_,_,_⟩) rfl rfl rfl rfl (fun K hK=>?_) (fun K hK=>?_)
       ·go_simp
        with_reducible refine(add_q (R.below hrx (by go_grown)) (R.below hry (by go_grown)) (by omega) (Lib.hid (Tab.below hT.out (zAa hB (zAa (b:=wr) Bz (by go_grown)))))).mono ?_
        rintro e w1 ⟨s1,A1,c1,l1,s1r,A1r,c1r,l1r,rfl,h1,b1⟩
        replace b1:=zAa (a:=wr) (by go_grown) b1
        replace hon:=hon.below b1
        replace ho:=ho.below b1
        replace Bz:=zAa Bz b1
        clear b1
        clear p50_0 p50_1 p50_2 p50_3 p50_4 p51_0 p51_1 p51_2 p51_3 p51_4
        have p50_1:=(hnd.below (zAa hB Bz)).at 1 (.bool x.x.s) rfl
        have p50_2:=(hnd.below (zAa hB Bz)).at 2 (.slice x.x.A x.x.l x.x.c) rfl
        have p50_3:=(hnd.below (zAa hB Bz)).at 3 (.bool x.x.s') rfl
        have p50_4:=(hnd.below (zAa hB Bz)).at 4 (.slice x.x.A' x.x.l' x.x.c') rfl
        have p51_1:=(hnd'.below (zAa hB Bz)).at 1 (.bool y.x.s) rfl
        have p51_2:=(hnd'.below (zAa hB Bz)).at 2 (.slice y.x.A y.x.l y.x.c) rfl
        have p51_3:=(hnd'.below (zAa hB Bz)).at 3 (.bool y.x.s') rfl
        have p51_4:=(hnd'.below (zAa hB Bz)).at 4 (.slice y.x.A' y.x.l' y.x.c') rfl
        refine hK.out _ _ ⟨p50_1,p50_2,p50_3,p50_4,p51_1,p51_2,p51_3,p51_4⟩ (fun _=>?_)
        try simp only[pUt,pLt,pZt,pSt]
        clear hK K
        refine zAd (o:=⟨some 8,_,_,_,_,_⟩) rfl rfl (fun K hK=>?_)
        go_simp
        refine hK.out _ _ ⟨(zAj p50_1),(zAj p50_2),(zAj p50_3),(zAj p50_4),(zAj p51_1),(zAj p51_2),(zAj p51_3),(zAj p51_4)⟩ (fun _=>?_)
        try simp only[pUt,pLt,pZt,pSt]
        clear hK K
        refine zAg (o:=⟨none,_,_,_,_,_⟩) rfl rfl (by decide) (fun K hK=>?_)
        go_simp
        refine hK.out _ _ ?_
        try simp only[Act.put,List.setIfInBounds_toArray,List.set_cons_zero,List.set_cons_succ]
        clear hK K
        refine zAe ?_
        obtain⟨V1,hW,x0,hN⟩:=zAi w1 #[.bool s1,.slice A1 l1 c1,.bool s1r,.slice A1r l1r c1r] 57
        rw[←hW]
        clear hW
        obtain⟨v0,hb0⟩:∃b,b=w1.heap.size:=⟨_,rfl⟩
        rw[←hb0] at x0 ⊢
        have ow_0:w.heap.size≤v0:=by have:=hB.size;have:=Bz.size;omega
        have nv0_own:=OwnR.off' (b:=v0) ho (by omega)
        replace h1:=h1.below hN
        replace hon:=hon.below hN
        replace ho:=ho.below hN
        replace hB:=zAa (zAa hB Bz) hN
        have HX0:=Lib.hid x0
        clear x0 hN Bz hb0
        have Bz:=Below.refl V1.heap.size V1
        clear p50_1 p50_2 p50_3 p50_4 p51_1 p51_2 p51_3 p51_4
        have p0_0:=(HX0.out.below Bz).cell 0 (.bool s1) rfl
        have p0_1:=(HX0.out.below Bz).cell 1 (.slice A1 l1 c1) rfl
        have p0_2:=(HX0.out.below Bz).cell 2 (.bool s1r) rfl
        have p0_3:=(HX0.out.below Bz).cell 3 (.slice A1r l1r c1r) rfl
        go_wp2_with fail
        with_reducible refine(sign_q (R.below h1.r (by go_grown)) (by omega) z HZ).mono ?_
        rintro e w2 ⟨rfl,b2⟩
        replace b2:=zAa (a:=V1) (by go_grown) b2
        replace h1:=h1.below b2
        replace hon:=hon.below b2
        replace ho:=ho.below b2
        replace Bz:=zAa Bz b2
        clear b2
        clear p0_0 p0_1 p0_2 p0_3
        have p0_0:=(HX0.out.below Bz).cell 0 (.bool s1) rfl
        have p0_1:=(HX0.out.below Bz).cell 1 (.slice A1 l1 c1) rfl
        have p0_2:=(HX0.out.below Bz).cell 2 (.bool s1r) rfl
        have p0_3:=(HX0.out.below Bz).cell 3 (.slice A1r l1r c1r) rfl
        have p50_0:=(hnd.below (zAa hB Bz)).c0 (u:=.int .i64 x.at_) rfl
        go_wp2_with fail
        (try simp only[List.append_eq,List.cons_append,List.nil_append])
        refine zAc (.pure 0 (.pure 1 (.pure 2 (.pure 3 (.pure 4 (.take 5 (.take 6 (.pure 7 (.only 8 (.only 9 (.pure 10 .done))))))))))) [9] (fun w'=>w'.cell? ⟨v0,0,none⟩=some (.bool s1)∧w'.cell? ⟨v0,1,none⟩=some (.slice A1 l1 c1)∧w'.cell? ⟨v0,2,none⟩=some (.bool s1r)∧w'.cell? ⟨v0,3,none⟩=some (.slice A1r l1r c1r)∧w'.cell? ⟨bx,ox+i*5,none⟩=some (.int .i64 x.at_)) (by kernel_rfl) (by kernel_rfl) ⟨p0_0,p0_1,p0_2,p0_3,p50_0⟩ ?_
        iterate 5 (refine zAn (o:=⟨some _,_,_,_,_,_⟩) rfl rfl (fun w'=>by go_simp<;>with_reducible rfl) ?_;try simp only[pUt,pLt,pZt,pSt])
        iterate 2 (refine zAb (o:=⟨some _,_,_,_,_,_⟩) rfl rfl (fun w' ⟨p0_0,p0_1,p0_2,p0_3,p50_0⟩=>by go_simp<;>with_reducible rfl) ?_;try simp only[pUt,pLt,pZt,pSt])
        refine zAn (o:=⟨some _,_,_,_,_,_⟩) rfl rfl (fun w'=>by go_simp<;>with_reducible rfl) ?_
        try simp only[pUt,pLt,pZt,pSt]
        refine zAd (o:=⟨some 47,_,_,_,_,_⟩) rfl rfl (fun K hK=>?_)
        go_simp
        refine hK.out _ _ ⟨(zAj p0_0),(zAj p0_1),(zAj p0_2),(zAj p0_3),(zAj p50_0)⟩ (fun _=>?_)
        try simp only[pUt,pLt,pZt,pSt]
        clear hK K
        refine zAg (o:=⟨some 48,_,_,_,_,_⟩) rfl rfl (by decide) (fun K hK=>?_)
        obtain⟨V2,hW,x1,hN⟩:=zAi w2 #[.int .i64 x.at_,.bool s1,.slice A1 l1 c1,.bool s1r,.slice A1r l1r c1r] 118
        rw[←hW]
        clear hW
        obtain⟨v1,hb1⟩:∃b,b=w2.heap.size:=⟨_,rfl⟩
        rw[←hb1] at x1 ⊢
        have o0_1:v0<v1:=by have:=(HX0.out.below Bz).lt;omega
        have ow_1:w.heap.size≤v1:=by have:=hB.size;have:=Bz.size;omega
        have nv1_own:=OwnR.off' (b:=v1) ho (by omega)
        replace h1:=h1.below hN
        replace hon:=hon.below hN
        replace ho:=ho.below hN
        replace hB:=zAa (zAa hB Bz) hN
        replace HX0:=Lib.hid ((HX0.out.below Bz).below hN)
        have HX1:=Lib.hid x1
        clear x1 hN Bz hb1
        have Bz:=Below.refl V2.heap.size V2
        clear p0_0 p0_1 p0_2 p0_3 p50_0
        have hdr:V2.drew.heap.size=V2.heap.size:=rfl
        have hdr2:V2.drew.drew.heap.size=V2.heap.size:=rfl
        refine Elt.wp elt_vec _ _ rfl (w.heap.size) (.slice H k hc) (k) (O) rfl ho (.slice (some ⟨v1,0,none⟩) 1 1) (1) ([⟨x.at_,⟨s1,A1,c1,l1,s1r,A1r,c1r,l1r,x.x.q+y.x.q,true⟩⟩]) rfl (From.one (HX1.out.below (zAa Bz (by go_grown))) (⟨x.at_,⟨s1,A1,c1,l1,s1r,A1r,c1r,l1r,x.x.q+y.x.q,true⟩⟩) rfl (elt_vec.len _)) (by omega) (by have:=hB.size;have:=Bz.size;omega) ?_
        intro H3 c3 w3 ho3 hg3
        refine hK.out _ _ ?_
        try simp only[pUt,pLt,pZt,pSt]
        clear hK K
        replace hB:=(zAa (zAa hB Bz) (by go_grown)).trans (hg3.below (by have:=hB.size;have:=Bz.size;omega) (fun g hg=>by have:=ho.base g hg;omega))
        clear HX0
        clear HX1
        clear hdr hdr2
        replace h1:=h1.k hg3.k
        replace hon:=hon.k hg3.k
        clear hg3 Bz
        have Bz:=Below.refl w3.heap.size w3
        have p50_0:=(hnd.below (zAa hB Bz)).c0 (u:=.int .i64 x.at_) rfl
        refine zAn (o:=⟨some _,_,_,_,_,_⟩) rfl rfl (fun w'=>by go_simp<;>with_reducible rfl) ?_
        try simp only[pUt,pLt,pZt,pSt]
        refine zAe ?_
        go_wp2_with fail
        have hs1:=HS1.out
        go_roundg (n-(i+1)+(m-(j+1)))
        case measure=>omega
        case rel=>exact⟨i+1,j+1,k+1,_,_,_,rfl,by go_num,by go_num,by omega,by omega,Nat.le_refl _,by omega,OwnR.below ho3 (by go_grown),HJ2.out _ rfl,(OnT.below hon (by go_grown)).snoc (RN.below h1 (by go_grown)) rfl hs1,zAa (zAa hB Bz) (by go_grown)⟩
       ·go_simp
        refine hK.out _ _ ⟨(zAj p50_1),(zAj p50_2),(zAj p50_3),(zAj p50_4),(zAj p51_1),(zAj p51_2),(zAj p51_3),(zAj p51_4)⟩ (fun _=>?_)
        try simp only[pUt,pLt,pZt,pSt]
        clear hK K
        refine zAd (o:=⟨some 35,_,_,_,_,_⟩) rfl rfl (fun K hK=>?_)
        go_simp
        obtain⟨V1,hW,x0,hN⟩:=zAi wr #[.bool false,.slice none 0 0,.bool false,.slice none 0 0] 57
        rw[←hW]
        clear hW
        obtain⟨v0,hb0⟩:∃b,b=wr.heap.size:=⟨_,rfl⟩
        rw[←hb0] at x0 ⊢
        have ow_0:w.heap.size≤v0:=by have:=hB.size;have:=Bz.size;omega
        have nv0_own:=OwnR.off' (b:=v0) ho (by omega)
        replace hon:=hon.below hN
        replace ho:=ho.below hN
        replace hrx:=hrx.below hN
        replace hry:=hry.below hN
        replace hB:=zAa (zAa hB Bz) hN
        have HX0:=Lib.hid x0
        clear x0 hN Bz hb0
        have Bz:=Below.refl V1.heap.size V1
        clear p50_0 p50_1 p50_2 p50_3 p50_4 p51_0 p51_1 p51_2 p51_3 p51_4
        with_reducible refine(add_q (R.below hrx (by go_grown)) (R.below hry (by go_grown)) (by omega) (Lib.hid (Tab.below hT.out (zAa hB (zAa (b:=V1) Bz (by go_grown)))))).mono ?_
        rintro e w1 ⟨s1,A1,c1,l1,s1r,A1r,c1r,l1r,rfl,h1,b1⟩
        replace b1:=zAa (a:=V1) (by go_grown) b1
        replace hon:=hon.below b1
        replace ho:=ho.below b1
        replace Bz:=zAa Bz b1
        clear b1
        have p0_0:=(HX0.out.below Bz).cell 0 (.bool false) rfl
        have p0_1:=(HX0.out.below Bz).cell 1 (.slice none 0 0) rfl
        have p0_2:=(HX0.out.below Bz).cell 2 (.bool false) rfl
        have p0_3:=(HX0.out.below Bz).cell 3 (.slice none 0 0) rfl
        have f0_0:=(HX0.out.below Bz).frozen 0
        have f0_1:=(HX0.out.below Bz).frozen 1
        have f0_2:=(HX0.out.below Bz).frozen 2
        have f0_3:=(HX0.out.below Bz).frozen 3
        have y0:=(HX0.out.below Bz).lt
        have p50_1:=(hnd.below (zAa hB Bz)).at 1 (.bool x.x.s) rfl
        have p50_2:=(hnd.below (zAa hB Bz)).at 2 (.slice x.x.A x.x.l x.x.c) rfl
        have p50_3:=(hnd.below (zAa hB Bz)).at 3 (.bool x.x.s') rfl
        have p50_4:=(hnd.below (zAa hB Bz)).at 4 (.slice x.x.A' x.x.l' x.x.c') rfl
        have p51_1:=(hnd'.below (zAa hB Bz)).at 1 (.bool y.x.s) rfl
        have p51_2:=(hnd'.below (zAa hB Bz)).at 2 (.slice y.x.A y.x.l y.x.c) rfl
        have p51_3:=(hnd'.below (zAa hB Bz)).at 3 (.bool y.x.s') rfl
        have p51_4:=(hnd'.below (zAa hB Bz)).at 4 (.slice y.x.A' y.x.l' y.x.c') rfl
        refine hK.out _ _ ⟨p50_1,p50_2,p50_3,p50_4,p51_1,p51_2,p51_3,p51_4⟩ (fun _=>?_)
        try simp only[pUt,pLt,pZt,pSt]
        clear hK K
        refine zAg (o:=⟨none,_,_,_,_,_⟩) rfl rfl (by decide) (fun K hK=>?_)
        go_simp
        refine hK.out _ _ ?_
        try simp only[Act.put,List.setIfInBounds_toArray,List.set_cons_zero,List.set_cons_succ]
        clear hK K
        refine zAe ?_
        obtain⟨V2,hW,x,kk,far,bel⟩:=store4 (.bool s1) (.slice A1 l1 c1) (.bool s1r) (.slice A1r l1r c1r) (HX0.out.below Bz) (fun _ e=>by cases e) (fun _ e=>by cases e) (fun _ e=>by cases e) (fun _ e=>by cases e)
        rw[←hW]
        clear hW
        replace h1:=h1.k kk
        replace hon:=hon.k kk
        replace ho:=ho.far2 far nv0_own
        replace hB:=bel w.heap.size w (by omega) (zAa hB Bz)
        replace HX0:=Lib.hid x
        clear x kk far bel Bz
        have Bz:=Below.refl V2.heap.size V2
        clear p0_0 p0_1 p0_2 p0_3 f0_0 f0_1 f0_2 f0_3 y0 p50_1 p50_2 p50_3 p50_4 p51_1 p51_2 p51_3 p51_4
        have p0_0:=(HX0.out.below Bz).cell 0 (.bool s1) rfl
        have p0_1:=(HX0.out.below Bz).cell 1 (.slice A1 l1 c1) rfl
        have p0_2:=(HX0.out.below Bz).cell 2 (.bool s1r) rfl
        have p0_3:=(HX0.out.below Bz).cell 3 (.slice A1r l1r c1r) rfl
        go_wp2_with fail
        with_reducible refine(sign_q (R.below h1.r (by go_grown)) (by omega) z HZ).mono ?_
        rintro e w2 ⟨rfl,b2⟩
        replace b2:=zAa (a:=V2) (by go_grown) b2
        replace h1:=h1.below b2
        replace hon:=hon.below b2
        replace ho:=ho.below b2
        replace Bz:=zAa Bz b2
        clear b2
        clear p0_0 p0_1 p0_2 p0_3
        have p0_0:=(HX0.out.below Bz).cell 0 (.bool s1) rfl
        have p0_1:=(HX0.out.below Bz).cell 1 (.slice A1 l1 c1) rfl
        have p0_2:=(HX0.out.below Bz).cell 2 (.bool s1r) rfl
        have p0_3:=(HX0.out.below Bz).cell 3 (.slice A1r l1r c1r) rfl
        have p50_0:=(hnd.below (zAa hB Bz)).c0 (u:=.int .i64 x.at_) rfl
        go_wp2_with fail
        (try simp only[List.append_eq,List.cons_append,List.nil_append])
        refine zAc (.pure 0 (.pure 1 (.pure 2 (.pure 3 (.pure 4 (.take 5 (.take 6 (.pure 7 (.only 8 (.only 9 (.pure 10 .done))))))))))) [9] (fun w'=>w'.cell? ⟨v0,0,none⟩=some (.bool s1)∧w'.cell? ⟨v0,1,none⟩=some (.slice A1 l1 c1)∧w'.cell? ⟨v0,2,none⟩=some (.bool s1r)∧w'.cell? ⟨v0,3,none⟩=some (.slice A1r l1r c1r)∧w'.cell? ⟨bx,ox+i*5,none⟩=some (.int .i64 x.at_)) (by kernel_rfl) (by kernel_rfl) ⟨p0_0,p0_1,p0_2,p0_3,p50_0⟩ ?_
        iterate 5 (refine zAn (o:=⟨some _,_,_,_,_,_⟩) rfl rfl (fun w'=>by go_simp<;>with_reducible rfl) ?_;try simp only[pUt,pLt,pZt,pSt])
        iterate 2 (refine zAb (o:=⟨some _,_,_,_,_,_⟩) rfl rfl (fun w' ⟨p0_0,p0_1,p0_2,p0_3,p50_0⟩=>by go_simp<;>with_reducible rfl) ?_;try simp only[pUt,pLt,pZt,pSt])
        refine zAn (o:=⟨some _,_,_,_,_,_⟩) rfl rfl (fun w'=>by go_simp<;>with_reducible rfl) ?_
        try simp only[pUt,pLt,pZt,pSt]
        refine zAd (o:=⟨some 47,_,_,_,_,_⟩) rfl rfl (fun K hK=>?_)
        go_simp
        refine hK.out _ _ ⟨(zAj p0_0),(zAj p0_1),(zAj p0_2),(zAj p0_3),(zAj p50_0)⟩ (fun _=>?_)
        try simp only[pUt,pLt,pZt,pSt]
        clear hK K
        refine zAg (o:=⟨some 48,_,_,_,_,_⟩) rfl rfl (by decide) (fun K hK=>?_)
        obtain⟨V3,hW,x1,hN⟩:=zAi w2 #[.int .i64 x.at_,.bool s1,.slice A1 l1 c1,.bool s1r,.slice A1r l1r c1r] 118
        rw[←hW]
        clear hW
        obtain⟨v1,hb1⟩:∃b,b=w2.heap.size:=⟨_,rfl⟩
        rw[←hb1] at x1 ⊢
        have o0_1:v0<v1:=by have:=(HX0.out.below Bz).lt;omega
        have ow_1:w.heap.size≤v1:=by have:=hB.size;have:=Bz.size;omega
        have nv1_own:=OwnR.off' (b:=v1) ho (by omega)
        replace h1:=h1.below hN
        replace hon:=hon.below hN
        replace ho:=ho.below hN
        replace hB:=zAa (zAa hB Bz) hN
        replace HX0:=Lib.hid ((HX0.out.below Bz).below hN)
        have HX1:=Lib.hid x1
        clear x1 hN Bz hb1
        have Bz:=Below.refl V3.heap.size V3
        clear p0_0 p0_1 p0_2 p0_3 p50_0
        have hdr:V3.drew.heap.size=V3.heap.size:=rfl
        have hdr2:V3.drew.drew.heap.size=V3.heap.size:=rfl
        refine Elt.wp elt_vec _ _ rfl (w.heap.size) (.slice H k hc) (k) (O) rfl ho (.slice (some ⟨v1,0,none⟩) 1 1) (1) ([⟨x.at_,⟨s1,A1,c1,l1,s1r,A1r,c1r,l1r,x.x.q+y.x.q,true⟩⟩]) rfl (From.one (HX1.out.below (zAa Bz (by go_grown))) (⟨x.at_,⟨s1,A1,c1,l1,s1r,A1r,c1r,l1r,x.x.q+y.x.q,true⟩⟩) rfl (elt_vec.len _)) (by omega) (by have:=hB.size;have:=Bz.size;omega) ?_
        intro H3 c3 w3 ho3 hg3
        refine hK.out _ _ ?_
        try simp only[pUt,pLt,pZt,pSt]
        clear hK K
        replace hB:=(zAa (zAa hB Bz) (by go_grown)).trans (hg3.below (by have:=hB.size;have:=Bz.size;omega) (fun g hg=>by have:=ho.base g hg;omega))
        clear HX0
        clear HX1
        clear hdr hdr2
        replace h1:=h1.k hg3.k
        replace hon:=hon.k hg3.k
        clear hg3 Bz
        have Bz:=Below.refl w3.heap.size w3
        have p50_0:=(hnd.below (zAa hB Bz)).c0 (u:=.int .i64 x.at_) rfl
        refine zAn (o:=⟨some _,_,_,_,_,_⟩) rfl rfl (fun w'=>by go_simp<;>with_reducible rfl) ?_
        try simp only[pUt,pLt,pZt,pSt]
        refine zAe ?_
        go_wp2_with fail
        have hs1:=HS1.out
        go_roundg (n-(i+1)+(m-(j+1)))
        case measure=>omega
        case rel=>exact⟨i+1,j+1,k+1,_,_,_,rfl,by go_num,by go_num,by omega,by omega,Nat.le_refl _,by omega,OwnR.below ho3 (by go_grown),HJ2.out _ rfl,(OnT.below hon (by go_grown)).snoc (RN.below h1 (by go_grown)) rfl hs1,zAa (zAa hB Bz) (by go_grown)⟩
   ·obtain rfl:j=m:=by omega
    have j1:¬(j:Int)<(j:Int):=by omega
    have HJ2:Hid (Joined (prs (O++[x])) (prs LX) (prs LY) (i+1) j):=Lib.hid (by rw[prs_append];exact HJO.out.left HPX.out hpx (fun q hq=>by rw[List.drop_eq_nil_of_le (by rw[prs_len,HLY.out];exact Nat.le_refl _)] at hq;cases hq))
    have HS1:Hid (sz x.x.q+1≤M+M'):=Lib.hid (by omega)
    have HEX:=Lib.hid hxn.2.1
    clear hxn hpx hjo hjm
    have Bz:=Below.refl wr.heap.size wr
    have p50_0:=(hnd.below (zAa hB Bz)).c0 (u:=.int .i64 x.at_) rfl
    have p50_1:=(hnd.below (zAa hB Bz)).at 1 (.bool x.x.s) rfl
    have p50_2:=(hnd.below (zAa hB Bz)).at 2 (.slice x.x.A x.x.l x.x.c) rfl
    have p50_3:=(hnd.below (zAa hB Bz)).at 3 (.bool x.x.s') rfl
    have p50_4:=(hnd.below (zAa hB Bz)).at 4 (.slice x.x.A' x.x.l' x.x.c') rfl
    go_wp2_with fail
    (try simp only[List.append_eq,List.cons_append,List.nil_append])
    refine zAc (.take 0 (.take 1 (.take 2 (.take 3 (.take 4 (.take 5 (.take 6 (.take 7 (.take 8 (.take 9 (.take 10 (.take 11 (.take 12 (.take 13 (.take 14 (.take 15 (.take 16 (.take 17 (.take 18 (.take 19 (.take 20 (.take 21 (.take 22 (.take 23 .done)))))))))))))))))))))))) [] (fun w'=>True) (by kernel_rfl) (by kernel_rfl) trivial ?_
    iterate 5 (refine zAb (o:=⟨some _,_,_,_,_,_⟩) rfl rfl (fun w' _=>by go_simp<;>with_reducible rfl) ?_;try simp only[pUt,pLt,pZt,pSt])
    iterate 17 (refine wpPlan_skip (o:=⟨some _,_,_,_,_,_⟩) rfl rfl ?_;try simp only[pUt,pLt,pZt,pSt])
    iterate 2 (refine zAb (o:=⟨some _,_,_,_,_,_⟩) rfl rfl (fun w' _=>by go_simp<;>with_reducible rfl) ?_;try simp only[pUt,pLt,pZt,pSt])
    refine zAe ?_
    go_wp2_with (at_builtin;refine And.left (b:=True) ?_)
    refine⟨?_,trivial⟩
    obtain⟨V1,hW,x0,hN⟩:=zAi wr #[.int .i64 x.at_,.bool x.x.s,.slice x.x.A x.x.l x.x.c,.bool x.x.s',.slice x.x.A' x.x.l' x.x.c'] 118
    rw[←hW]
    clear hW
    obtain⟨v0,hb0⟩:∃b,b=wr.heap.size:=⟨_,rfl⟩
    rw[←hb0] at x0 ⊢
    have ow_0:w.heap.size≤v0:=by have:=hB.size;have:=Bz.size;omega
    have nv0_own:=OwnR.off' (b:=v0) ho (by omega)
    replace hnx:=hnx.below hN
    replace hon:=hon.below hN
    replace ho:=ho.below hN
    replace hB:=zAa (zAa hB Bz) hN
    have HX0:=Lib.hid x0
    clear x0 hN Bz hb0
    have Bz:=Below.refl V1.heap.size V1
    clear p50_0 p50_1 p50_2 p50_3 p50_4
    have hdr:V1.drew.heap.size=V1.heap.size:=rfl
    have hdr2:V1.drew.drew.heap.size=V1.heap.size:=rfl
    refine Elt.app elt_vec rfl _ _ rfl (w.heap.size) (.slice H k hc) (k) (O) rfl ho (.slice (some ⟨v0,0,none⟩) 1 1) (1) ([x]) rfl (From.one (HX0.out.below (zAa Bz (by go_grown))) (x) rfl (elt_vec.len _)) (by omega) (by have:=hB.size;have:=Bz.size;omega) ?_
    intro H1 c1 w1 ho1 hg1
    replace hB:=(zAa (zAa hB Bz) (by go_grown)).trans (hg1.below (by have:=hB.size;have:=Bz.size;omega) (fun g hg=>by have:=ho.base g hg;omega))
    clear HX0
    clear hdr hdr2
    replace hnx:=hnx.k hg1.k
    replace hon:=hon.k hg1.k
    clear hg1 Bz
    have Bz:=Below.refl w1.heap.size w1
    go_wp2_with fail
    have hs1:=HS1.out
    go_roundg (n-(i+1)+(j-(j)))
    case measure=>omega
    case rel=>exact⟨i+1,j,k+1,_,_,_,rfl,by go_num,rfl,by omega,by omega,Nat.le_refl _,by omega,OwnR.below ho1 (by go_grown),HJ2.out,(OnT.below hon (by go_grown)).snoc (RN.below hnx (by go_grown)) HEX.out hs1,zAa (zAa hB Bz) (by go_grown)⟩
  ·obtain rfl:i=n:=by omega
   have i1:¬(i:Int)<(i:Int):=by omega
   by_cases hjm:j<m
   ·obtain⟨by_,oy,rfl,hel'⟩:=HSY.out.at Tm.cs_len (by omega) (by omega)
    obtain⟨y,hy⟩:∃y,LY[j]?=some y:=⟨LY[j]'(by rw[HLY.out];exact hjm),List.getElem?_eq_getElem _⟩
    have hnd':=hel' j y hy
    have hyn:=HNY.out y (List.mem_of_getElem? hy)
    have hny:=hyn.1.below hB
    have hry:=hny.r
    have hys:sz y.x.q+1≤M':=hyn.2.2
    have hpy:=prs_get hy
    have j1:(j:Int)<(m:Int):=by omega
    have j3:((j:Int)==(m:Int))=false:=by rw[beq_eq_false_iff_ne];omega
    have HJ2:Hid (Joined (prs (O++[y])) (prs LX) (prs LY) i (j+1)):=Lib.hid (by rw[prs_append];exact HJO.out.right HPY.out hpy (fun p hp=>by rw[List.drop_eq_nil_of_le (by rw[prs_len,HLX.out];exact Nat.le_refl _)] at hp;cases hp))
    have HS1:Hid (sz y.x.q+1≤M+M'):=Lib.hid (by omega)
    have HEX:=Lib.hid hyn.2.1
    clear hel' hy hyn hpy hjo hin
    have Bz:=Below.refl wr.heap.size wr
    have p51_0:=(hnd'.below (zAa hB Bz)).c0 (u:=.int .i64 y.at_) rfl
    have p51_1:=(hnd'.below (zAa hB Bz)).at 1 (.bool y.x.s) rfl
    have p51_2:=(hnd'.below (zAa hB Bz)).at 2 (.slice y.x.A y.x.l y.x.c) rfl
    have p51_3:=(hnd'.below (zAa hB Bz)).at 3 (.bool y.x.s') rfl
    have p51_4:=(hnd'.below (zAa hB Bz)).at 4 (.slice y.x.A' y.x.l' y.x.c') rfl
    go_wp2_with fail
    (try simp only[List.append_eq,List.cons_append,List.nil_append])
    refine zAc (.take 0 (.take 1 (.take 2 (.take 3 (.take 4 (.take 5 (.take 6 (.take 7 (.take 8 (.take 9 (.take 10 (.take 11 (.take 12 (.take 13 (.take 14 (.take 15 (.take 16 (.take 17 (.take 18 (.take 19 (.take 20 (.take 21 (.take 22 (.take 23 .done)))))))))))))))))))))))) [] (fun w'=>True) (by kernel_rfl) (by kernel_rfl) trivial ?_
    iterate 10 (refine zAb (o:=⟨some _,_,_,_,_,_⟩) rfl rfl (fun w' _=>by go_simp<;>with_reducible rfl) ?_;try simp only[pUt,pLt,pZt,pSt])
    iterate 11 (refine wpPlan_skip (o:=⟨some _,_,_,_,_,_⟩) rfl rfl ?_;try simp only[pUt,pLt,pZt,pSt])
    iterate 3 (refine zAb (o:=⟨some _,_,_,_,_,_⟩) rfl rfl (fun w' _=>by go_simp<;>with_reducible rfl) ?_;try simp only[pUt,pLt,pZt,pSt])
    refine zAe ?_
    go_wp2_with fail
    (try simp only[List.append_eq,List.cons_append,List.nil_append])
    refine zAc (.take 0 (.take 1 (.take 2 (.take 3 (.take 4 (.take 5 (.take 6 (.take 7 (.take 8 (.take 9 (.take 10 (.take 11 (.take 12 (.take 13 (.take 14 (.take 15 (.take 16 (.take 17 .done)))))))))))))))))) [] (fun w'=>True) (by kernel_rfl) (by kernel_rfl) trivial ?_
    iterate 5 (refine zAb (o:=⟨some _,_,_,_,_,_⟩) rfl rfl (fun w' _=>by go_simp<;>with_reducible rfl) ?_;try simp only[pUt,pLt,pZt,pSt])
    iterate 11 (refine wpPlan_skip (o:=⟨some _,_,_,_,_,_⟩) rfl rfl ?_;try simp only[pUt,pLt,pZt,pSt])
    iterate 2 (refine zAb (o:=⟨some _,_,_,_,_,_⟩) rfl rfl (fun w' _=>by go_simp<;>with_reducible rfl) ?_;try simp only[pUt,pLt,pZt,pSt])
    refine zAe ?_
    go_wp2_with (at_builtin;refine And.left (b:=True) ?_)
    refine⟨?_,trivial⟩
    obtain⟨V1,hW,x0,hN⟩:=zAi wr #[.int .i64 y.at_,.bool y.x.s,.slice y.x.A y.x.l y.x.c,.bool y.x.s',.slice y.x.A' y.x.l' y.x.c'] 118
    rw[←hW]
    clear hW
    obtain⟨v0,hb0⟩:∃b,b=wr.heap.size:=⟨_,rfl⟩
    rw[←hb0] at x0 ⊢
    have ow_0:w.heap.size≤v0:=by have:=hB.size;have:=Bz.size;omega
    have nv0_own:=OwnR.off' (b:=v0) ho (by omega)
    replace hny:=hny.below hN
    replace hon:=hon.below hN
    replace ho:=ho.below hN
    replace hB:=zAa (zAa hB Bz) hN
    have HX0:=Lib.hid x0
    clear x0 hN Bz hb0
    have Bz:=Below.refl V1.heap.size V1
    clear p51_0 p51_1 p51_2 p51_3 p51_4
    have hdr:V1.drew.heap.size=V1.heap.size:=rfl
    have hdr2:V1.drew.drew.heap.size=V1.heap.size:=rfl
    refine Elt.app elt_vec rfl _ _ rfl (w.heap.size) (.slice H k hc) (k) (O) rfl ho (.slice (some ⟨v0,0,none⟩) 1 1) (1) ([y]) rfl (From.one (HX0.out.below (zAa Bz (by go_grown))) (y) rfl (elt_vec.len _)) (by omega) (by have:=hB.size;have:=Bz.size;omega) ?_
    intro H1 c1 w1 ho1 hg1
    replace hB:=(zAa (zAa hB Bz) (by go_grown)).trans (hg1.below (by have:=hB.size;have:=Bz.size;omega) (fun g hg=>by have:=ho.base g hg;omega))
    clear HX0
    clear hdr hdr2
    replace hny:=hny.k hg1.k
    replace hon:=hon.k hg1.k
    clear hg1 Bz
    have Bz:=Below.refl w1.heap.size w1
    go_wp2_with fail
    have hs1:=HS1.out
    go_roundg (i-(i)+(m-(j+1)))
    case measure=>omega
    case rel=>exact⟨i,j+1,k+1,_,_,_,rfl,rfl,by go_num,by omega,by omega,Nat.le_refl _,by omega,OwnR.below ho1 (by go_grown),HJ2.out,(OnT.below hon (by go_grown)).snoc (RN.below hny (by go_grown)) HEX.out hs1,zAa (zAa hB Bz) (by go_grown)⟩
   ·obtain rfl:j=m:=by omega
    have j1:¬(j:Int)<(j:Int):=by omega
    have HOS:=Lib.hid (ho.sl' elt_vec (ho.eltn elt_vec (by omega)))
    have HCAP:=Lib.hid ho.slice
    have HON:=Lib.hid hon
    clear hjo ho hon
    go_wp2_with fail
    go_ret
    refine⟨_,_,_,rfl,⟨O,HOS.out.below (by go_grown),HON.out.below (by go_grown),?_,fun hn=>?_⟩,zAa hB (by go_grown)⟩
    ·exact(HJO.out.done (by rw[prs_len,HLX.out];exact Nat.le_refl _) (by rw[prs_len,HLY.out];exact Nat.le_refl _)).symm
    ·obtain⟨_,_,e9,h9,_⟩:=HCAP.out
     cases e9
     exact(h9 hn).2
set_option maxRecDepth 100000 in
set_option maxHeartbeats 4000000 in
theorem addV_q {w:World} {X Y:Option Addr} {n cx m cy M M':Nat} {P Q:List (Int×Rat)} (h:GV w X n cx P M) (h':GV w Y m cy Q M') (hM:M+M'≤18000) (hn:n≤1000000) (hm:m≤1000000) (hT:Hid (Tab w)) :
  Calls Tryz.prog 54 #[.slice X n cx,.slice Y m cy] w (TellsV w (nrm (P++Q)) (M+M')):=by
 have HX:=Lib.hid h
 have HY:=Lib.hid h'
 have HLX:=Lib.hid h.len
 have HLY:=Lib.hid h'.len
 clear h h'
 have hB:=Below.refl w.heap.size w
 have Bz:=Below.refl w.heap.size w
 go_enter Tryz.func54,Tryz.ntmps54
 go_wp2_with fail
 with_reducible refine(normV_q (HX.out.below (zAa hB (zAa (b:=w) Bz (by go_grown)))) (by omega) hn (Lib.hid (Tab.below hT.out (zAa hB (zAa (b:=w) Bz (by go_grown)))))).mono ?_
 rintro e w1 ⟨A1,n1,c1,rfl,h1,b1⟩
 replace b1:=zAa (a:=w) (by go_grown) b1
 replace Bz:=zAa Bz b1
 clear b1
 go_wp2_with fail
 with_reducible refine(normV_q (HY.out.below (zAa hB (zAa (b:=w1) Bz (by go_grown)))) (by omega) hm (Lib.hid (Tab.below hT.out (zAa hB (zAa (b:=w1) Bz (by go_grown)))))).mono ?_
 rintro e w2 ⟨A2,n2,c2,rfl,h2,b2⟩
 replace b2:=zAa (a:=w1) (by go_grown) b2
 replace h1:=h1.below b2
 replace Bz:=zAa Bz b2
 clear b2
 go_wp2_with fail
 with_reducible refine(join_q (NV.below h1 (by go_grown)) (NV.below h2 (by go_grown)) (nrm_nrm _) (nrm_nrm _) hM (by have:=h1.len;have:=nrm_len P;have:=HLX.out;omega) (by have:=h2.len;have:=nrm_len Q;have:=HLY.out;omega) (Lib.hid (Tab.below hT.out (zAa hB (zAa (b:=w2) Bz (by go_grown)))))).mono ?_
 rintro e w3 ⟨A3,n3,c3,rfl,h3,b3⟩
 replace b3:=zAa (a:=w2) (by go_grown) b3
 replace Bz:=zAa Bz b3
 clear b3
 go_wp2_with fail
 go_ret
 have hF:=zAa (c:=w3) hB Bz
 exact⟨_,_,_,rfl,by rw[←nrm_app];exact NV.below h3 (by go_grown),zAa hF (by go_grown)⟩
open Go.RowKit Tw
def SC1 (w W:World) (cs:Array Value) (L:List Tm) (q:Rat) (n MM gk:Nat) (s5 s12:Value) (wr:World):Prop :=
 ∃(i k:Nat) (H:Option Addr) (hc:Nat) (O:List Tm),s5=.slice H k hc∧s12=.int .i64 (i:Int)∧i≤n∧n-i≤gk∧k≤i∧
  OwnR wr W.heap.size 118 5 (.slice H k hc) k (flat Tm.cs O)∧prs O=((prs (L.take i)).map fun x=>(x.1,q*x.2)).filter (fun x=>decide (x.2≠0))∧OnT wr O (fun _=>MM)∧Bx wr w.heap.size cs 57∧Below w.heap.size w wr∧Below W.heap.size W wr
theorem scale_snoc {L:List Tm} {i:Nat} {x:Tm} {q:Rat} (h:L[i]?=some x):((prs (L.take (i+1))).map fun x=>(x.1,q*x.2)).filter (fun x=>decide (x.2≠0))=((prs (L.take i)).map fun x=>(x.1,q*x.2)).filter (fun x=>decide (x.2≠0))++if q*x.x.q=0 then [] else [(x.at_,q*x.x.q)]:=by
 rw[take_snoc h,prs_append,List.map_append,List.filter_append]
 congr 1
 show([(x.at_,q*x.x.q)]:List (Int×Rat)).filter _=_
 by_cases e:q*x.x.q=0
 ·rw[if_pos e,List.filter_cons_of_neg (by simp[e])];rfl
 ·rw[if_neg e,List.filter_cons_of_pos (by simp[e])];rfl
theorem sign_zero {q:Rat} {z:Int} (h:q.num.sign=z):(z != 0)=decide (q≠0):=by
 have:=num_sign q
 rw[h] at this
 unfold bne
 rw[this]
 by_cases e:q=0<;>simp[e]
set_option maxRecDepth 100000 in
set_option maxHeartbeats 8000000 in
theorem scaleV_q {w:World} {s s':Bool} {A A':Option Addr} {l c l' c':Nat} {q:Rat} {mq:Nat} {X:Option Addr} {n cx M:Nat} {P:List (Int×Rat)} (ha:R w s A c l s' A' c' l' q mq) (h:GV w X n cx P M) (hM:M≤10000) (hmq:mq≤10000) (hn:n≤1000000) (hT:Hid (Tab w)) :
  Calls Tryz.prog 58 #[.agg #[.bool s,.slice A l c,.bool s',.slice A' l' c'],.slice X n cx] w (TellsV w (nrm (P.map fun x=>(x.1,q*x.2))) (mq+M+3)):=by
 have hx:=Lib.hid h
 have hM:M≤19000:=by omega
 clear h
 obtain⟨W,hW,x0,hB⟩:=zAi w #[.bool s,.slice A l c,.bool s',.slice A' l' c'] 57
 replace ha:=ha.below hB
 have HX0:=Lib.hid x0
 clear x0
 have Bz:=Below.refl W.heap.size W
 go_enter Tryz.func58,Tryz.ntmps58
 go_wp2_with fail
 rw[←hW]
 clear hW
 go_wp2_with fail
 with_reducible refine(ordered_q (hx.out.below (zAa hB (zAa (b:=W) Bz (by go_grown)))) hM hn (Lib.hid (Tab.below hT.out (zAa hB (zAa (b:=W) Bz (by go_grown)))))).mono ?_
 rintro e w1 ⟨A1,n1,c1,P1,rfl,h1,r1,e1,l1,b1⟩
 replace b1:=zAa (a:=W) (by go_grown) b1
 replace ha:=ha.below b1
 replace Bz:=zAa Bz b1
 clear b1
 go_wp2_with fail
 obtain⟨L,x1,x2,rfl,x4,x5⟩:=h1
 have HS:=Lib.hid x1
 have HLN:=Lib.hid x1.1
 have HOK:=Lib.hid x2
 have HWS:=Lib.hid x4
 have HRS:=Lib.hid r1
 have HGT:=Lib.hid e1
 have HB1:=Lib.hid (zAa hB Bz)
 have HA1:=Lib.hid ha
 have XX0:=Lib.hid (HX0.out.below Bz)
 have HXB:=Lib.hid (HX0.out.below Bz).lt
 clear x1 x2 x4 x5 r1 e1 hB Bz HX0 ha
 go_loopg [5,12] n1 (fun gk s5 s12 wr=>SC1 w w1 #[.bool s,.slice A l c,.bool s',.slice A' l' c'] L q n1 (mq+M+3) gk s5 s12 wr)
 case atStart=>exact⟨0,0,_,_,[],rfl,rfl,Nat.zero_le _,Nat.le_refl _,Nat.le_refl _,OwnR.nil _ _ _ _,rfl,OnT.nil _ _,XX0.out,HB1.out,Below.refl _ _⟩
 case round =>
  clear XX0
  have hWs:w.heap.size<w1.heap.size:=by have:=HXB.out;omega
  clear HB1
  obtain⟨i,k,H,hc,O,rfl,rfl,hi,hgk,hk,ho,hp,hon,hx0,hB,hBW⟩:=hrel
  have HP:=Lib.hid hp
  have HX0:=Lib.hid hx0
  clear hp hx0
  by_cases hlt:i<n1
  ·obtain⟨b,off,rfl,hel⟩:=HS.out.at Tm.cs_len (by omega) (by omega)
   obtain⟨x,hx'⟩:∃x,L[i]?=some x:=⟨L[i]'(by rw[HLN.out];exact hlt),List.getElem?_eq_getElem _⟩
   have hnd:=hel i x hx'
   have hfx:=HOK.out x (List.mem_of_getElem? hx')
   have hrx:R wr x.x.s x.x.A x.x.c x.x.l x.x.s' x.x.A' x.x.c' x.x.l' x.x.q (dgT x):=(hfx.below hBW).r
   have ha:=HA1.out.below hBW
   have hdx:dgT x+2≤M+1:=Nat.le_trans (wsum_mem (List.mem_of_getElem? hx')) (HWS.out _)
   have hsq:=ha.sz
   have hsx:=hfx.szd
   have hsz:sz (q*x.x.q)≤(mq+1)+(dgT x+1):=sz_mul (by omega) hsx
   obtain⟨z,HZ⟩:∃z,Hid ((q*x.x.q).num.sign=z):=⟨_,Lib.hid rfl⟩
   have hz0:=sign_zero HZ.out
   have i1:(i:Int)<(n1:Int):=by omega
   have i2:(0:Int)≤(i:Int):=by omega
   have hsn:=scale_snoc (q:=q) hx'
   clear hel hx' hfx
   by_cases hs0:q*x.x.q=0
   ·have g3:(z != 0)=false:=by rw[hz0,decide_eq_false (fun h=>h hs0)]
    have HP2:Hid (prs O=((prs (L.take (i+1))).map fun x=>(x.1,q*x.2)).filter (fun x=>decide (x.2≠0))):=Lib.hid (by rw[hsn,if_pos hs0,List.append_nil,HP.out])
    have HS1:Hid (0≤M):=Lib.hid (Nat.zero_le _)
    clear hz0 hsn hs0
    have Bz:=Below.refl wr.heap.size wr
    have p50_0:=(hnd.below (zAa hBW Bz)).c0 (u:=.int .i64 x.at_) rfl
    have p50_1:=(hnd.below (zAa hBW Bz)).at 1 (.bool x.x.s) rfl
    have p50_2:=(hnd.below (zAa hBW Bz)).at 2 (.slice x.x.A x.x.l x.x.c) rfl
    have p50_3:=(hnd.below (zAa hBW Bz)).at 3 (.bool x.x.s') rfl
    have p50_4:=(hnd.below (zAa hBW Bz)).at 4 (.slice x.x.A' x.x.l' x.x.c') rfl
    go_upto_region 5 with(fail)
    obtain⟨V11,hW,x1,hN⟩:=zAi wr #[.int .i64 x.at_,.bool x.x.s,.slice x.x.A x.x.l x.x.c,.bool x.x.s',.slice x.x.A' x.x.l' x.x.c'] 118
    rw[←hW]
    clear hW
    obtain⟨v1,hb1⟩:∃b,b=wr.heap.size:=⟨_,rfl⟩
    rw[←hb1] at x1 ⊢
    have o0_1:w.heap.size<v1:=by have:=(HX0.out.below Bz).lt;omega
    have ow_1:w.heap.size≤v1:=by have:=hB.size;have:=Bz.size;omega
    have nv1_own:=OwnR.off' (b:=v1) ho (by omega)
    replace ha:=ha.below hN
    replace hon:=hon.below hN
    replace ho:=ho.below hN
    replace hrx:=hrx.below hN
    replace hB:=zAa (zAa hB Bz) hN
    replace hBW:=zAa (zAa hBW Bz) hN
    replace HX0:=Lib.hid ((HX0.out.below Bz).below hN)
    have HX1:=Lib.hid x1
    clear x1 hN Bz hb1
    have Bz:=Below.refl V11.heap.size V11
    clear p50_0 p50_1 p50_2 p50_3 p50_4
    have p0_0:=(HX0.out.below Bz).cell 0 (.bool s) rfl
    have p0_1:=(HX0.out.below Bz).cell 1 (.slice A l c) rfl
    have p0_2:=(HX0.out.below Bz).cell 2 (.bool s') rfl
    have p0_3:=(HX0.out.below Bz).cell 3 (.slice A' l' c') rfl
    have p1_1:=(HX1.out.below Bz).cell 1 (.bool x.x.s) rfl
    have p1_2:=(HX1.out.below Bz).cell 2 (.slice x.x.A x.x.l x.x.c) rfl
    have p1_3:=(HX1.out.below Bz).cell 3 (.bool x.x.s') rfl
    have p1_4:=(HX1.out.below Bz).cell 4 (.slice x.x.A' x.x.l' x.x.c') rfl
    go_wp2_with fail
    with_reducible refine(mul_q (R.below ha (by go_grown)) (R.below hrx (by go_grown)) (by omega) (Lib.hid (Tab.below hT.out (zAa hB (zAa (b:=V11) Bz (by go_grown)))))).mono ?_
    rintro e w11 ⟨s11,A11,c11,l11,s11r,A11r,c11r,l11r,rfl,h11,b11⟩
    replace b11:=zAa (a:=V11) (by go_grown) b11
    replace hon:=hon.below b11
    replace ho:=ho.below b11
    replace Bz:=zAa Bz b11
    clear b11
    clear p0_0 p0_1 p0_2 p0_3 p1_1 p1_2 p1_3 p1_4
    go_upto_region 6 with(fail)
    obtain⟨V12,hW,x2,hN⟩:=zAi w11 #[.bool s11,.slice A11 l11 c11,.bool s11r,.slice A11r l11r c11r] 57
    rw[←hW]
    clear hW
    obtain⟨v2,hb2⟩:∃b,b=w11.heap.size:=⟨_,rfl⟩
    rw[←hb2] at x2 ⊢
    have o0_2:w.heap.size<v2:=by have:=(HX0.out.below Bz).lt;omega
    have o1_2:v1<v2:=by have:=(HX1.out.below Bz).lt;omega
    have ow_2:w.heap.size≤v2:=by have:=hB.size;have:=Bz.size;omega
    have nv2_own:=OwnR.off' (b:=v2) ho (by omega)
    replace h11:=h11.below hN
    replace hon:=hon.below hN
    replace ho:=ho.below hN
    replace hB:=zAa (zAa hB Bz) hN
    replace hBW:=zAa (zAa hBW Bz) hN
    replace HX0:=Lib.hid ((HX0.out.below Bz).below hN)
    replace HX1:=Lib.hid ((HX1.out.below Bz).below hN)
    have HX2:=Lib.hid x2
    clear x2 hN Bz hb2
    have Bz:=Below.refl V12.heap.size V12
    have p2_0:=(HX2.out.below Bz).cell 0 (.bool s11) rfl
    have p2_1:=(HX2.out.below Bz).cell 1 (.slice A11 l11 c11) rfl
    have p2_2:=(HX2.out.below Bz).cell 2 (.bool s11r) rfl
    have p2_3:=(HX2.out.below Bz).cell 3 (.slice A11r l11r c11r) rfl
    go_wp2_with fail
    with_reducible refine(sign_q (R.below h11.r (by go_grown)) (by omega) z HZ).mono ?_
    rintro e w12 ⟨rfl,b12⟩
    replace b12:=zAa (a:=V12) (by go_grown) b12
    replace hon:=hon.below b12
    replace ho:=ho.below b12
    replace Bz:=zAa Bz b12
    clear b12
    clear p2_0 p2_1 p2_2 p2_3
    go_wp2_with fail
    have hs1:=HS1.out
    go_roundg (n1-(i+1))
    case measure=>omega
    case rel=>exact⟨i+1,k,_,_,_,rfl,by go_num,by omega,Nat.le_refl _,by omega,OwnR.below ho (by go_grown),HP2.out,OnT.below hon (by go_grown),HX0.out.below (zAa Bz (by go_grown)),zAa (zAa hB Bz) (by go_grown),zAa (zAa hBW Bz) (by go_grown)⟩
   ·have g3:(z != 0)=true:=by rw[hz0,decide_eq_true hs0]
    have HP2:Hid (∀r:Fr,r.q=q*x.x.q→prs (O++[⟨x.at_,r⟩])=((prs (L.take (i+1))).map fun x=>(x.1,q*x.2)).filter (fun x=>decide (x.2≠0))):=Lib.hid (fun r hr=>by rw[hsn,if_neg hs0,prs_append,HP.out,show prs [(⟨x.at_,r⟩:Tm)]=[(x.at_,q*x.x.q)] from by rw[←hr];rfl])
    have HS1:Hid (sz (q*x.x.q)+1≤mq+M+3):=Lib.hid (by omega)
    clear hz0 hsn hs0
    have Bz:=Below.refl wr.heap.size wr
    have p50_0:=(hnd.below (zAa hBW Bz)).c0 (u:=.int .i64 x.at_) rfl
    have p50_1:=(hnd.below (zAa hBW Bz)).at 1 (.bool x.x.s) rfl
    have p50_2:=(hnd.below (zAa hBW Bz)).at 2 (.slice x.x.A x.x.l x.x.c) rfl
    have p50_3:=(hnd.below (zAa hBW Bz)).at 3 (.bool x.x.s') rfl
    have p50_4:=(hnd.below (zAa hBW Bz)).at 4 (.slice x.x.A' x.x.l' x.x.c') rfl
    go_upto_region 5 with(fail)
    obtain⟨V11,hW,x1,hN⟩:=zAi wr #[.int .i64 x.at_,.bool x.x.s,.slice x.x.A x.x.l x.x.c,.bool x.x.s',.slice x.x.A' x.x.l' x.x.c'] 118
    rw[←hW]
    clear hW
    obtain⟨v1,hb1⟩:∃b,b=wr.heap.size:=⟨_,rfl⟩
    rw[←hb1] at x1 ⊢
    have o0_1:w.heap.size<v1:=by have:=(HX0.out.below Bz).lt;omega
    have ow_1:w.heap.size≤v1:=by have:=hB.size;have:=Bz.size;omega
    have nv1_own:=OwnR.off' (b:=v1) ho (by omega)
    replace ha:=ha.below hN
    replace hon:=hon.below hN
    replace ho:=ho.below hN
    replace hrx:=hrx.below hN
    replace hB:=zAa (zAa hB Bz) hN
    replace hBW:=zAa (zAa hBW Bz) hN
    replace HX0:=Lib.hid ((HX0.out.below Bz).below hN)
    have HX1:=Lib.hid x1
    clear x1 hN Bz hb1
    have Bz:=Below.refl V11.heap.size V11
    clear p50_0 p50_1 p50_2 p50_3 p50_4
    have p0_0:=(HX0.out.below Bz).cell 0 (.bool s) rfl
    have p0_1:=(HX0.out.below Bz).cell 1 (.slice A l c) rfl
    have p0_2:=(HX0.out.below Bz).cell 2 (.bool s') rfl
    have p0_3:=(HX0.out.below Bz).cell 3 (.slice A' l' c') rfl
    have p1_1:=(HX1.out.below Bz).cell 1 (.bool x.x.s) rfl
    have p1_2:=(HX1.out.below Bz).cell 2 (.slice x.x.A x.x.l x.x.c) rfl
    have p1_3:=(HX1.out.below Bz).cell 3 (.bool x.x.s') rfl
    have p1_4:=(HX1.out.below Bz).cell 4 (.slice x.x.A' x.x.l' x.x.c') rfl
    go_wp2_with fail
    with_reducible refine(mul_q (R.below ha (by go_grown)) (R.below hrx (by go_grown)) (by omega) (Lib.hid (Tab.below hT.out (zAa hB (zAa (b:=V11) Bz (by go_grown)))))).mono ?_
    rintro e w11 ⟨s11,A11,c11,l11,s11r,A11r,c11r,l11r,rfl,h11,b11⟩
    replace b11:=zAa (a:=V11) (by go_grown) b11
    replace hon:=hon.below b11
    replace ho:=ho.below b11
    replace Bz:=zAa Bz b11
    clear b11
    clear p0_0 p0_1 p0_2 p0_3 p1_1 p1_2 p1_3 p1_4
    go_upto_region 6 with(fail)
    obtain⟨V12,hW,x2,hN⟩:=zAi w11 #[.bool s11,.slice A11 l11 c11,.bool s11r,.slice A11r l11r c11r] 57
    rw[←hW]
    clear hW
    obtain⟨v2,hb2⟩:∃b,b=w11.heap.size:=⟨_,rfl⟩
    rw[←hb2] at x2 ⊢
    have o0_2:w.heap.size<v2:=by have:=(HX0.out.below Bz).lt;omega
    have o1_2:v1<v2:=by have:=(HX1.out.below Bz).lt;omega
    have ow_2:w.heap.size≤v2:=by have:=hB.size;have:=Bz.size;omega
    have nv2_own:=OwnR.off' (b:=v2) ho (by omega)
    replace h11:=h11.below hN
    replace hon:=hon.below hN
    replace ho:=ho.below hN
    replace hB:=zAa (zAa hB Bz) hN
    replace hBW:=zAa (zAa hBW Bz) hN
    replace HX0:=Lib.hid ((HX0.out.below Bz).below hN)
    replace HX1:=Lib.hid ((HX1.out.below Bz).below hN)
    have HX2:=Lib.hid x2
    clear x2 hN Bz hb2
    have Bz:=Below.refl V12.heap.size V12
    have p2_0:=(HX2.out.below Bz).cell 0 (.bool s11) rfl
    have p2_1:=(HX2.out.below Bz).cell 1 (.slice A11 l11 c11) rfl
    have p2_2:=(HX2.out.below Bz).cell 2 (.bool s11r) rfl
    have p2_3:=(HX2.out.below Bz).cell 3 (.slice A11r l11r c11r) rfl
    go_wp2_with fail
    with_reducible refine(sign_q (R.below h11.r (by go_grown)) (by omega) z HZ).mono ?_
    rintro e w12 ⟨rfl,b12⟩
    replace b12:=zAa (a:=V12) (by go_grown) b12
    replace h11:=h11.below b12
    replace hon:=hon.below b12
    replace ho:=ho.below b12
    replace Bz:=zAa Bz b12
    clear b12
    clear p2_0 p2_1 p2_2 p2_3
    have p1_0:=(HX1.out.below Bz).cell 0 (.int .i64 x.at_) rfl
    have p2_0:=(HX2.out.below Bz).cell 0 (.bool s11) rfl
    have p2_1:=(HX2.out.below Bz).cell 1 (.slice A11 l11 c11) rfl
    have p2_2:=(HX2.out.below Bz).cell 2 (.bool s11r) rfl
    have p2_3:=(HX2.out.below Bz).cell 3 (.slice A11r l11r c11r) rfl
    go_wp2_with (at_builtin;refine And.left (b:=True) ?_)
    refine⟨?_,trivial⟩
    obtain⟨V13,hW,x3,hN⟩:=zAi w12 #[.int .i64 x.at_,.bool s11,.slice A11 l11 c11,.bool s11r,.slice A11r l11r c11r] 118
    rw[←hW]
    clear hW
    obtain⟨v3,hb3⟩:∃b,b=w12.heap.size:=⟨_,rfl⟩
    rw[←hb3] at x3 ⊢
    have o0_3:w.heap.size<v3:=by have:=(HX0.out.below Bz).lt;omega
    have o1_3:v1<v3:=by have:=(HX1.out.below Bz).lt;omega
    have o2_3:v2<v3:=by have:=(HX2.out.below Bz).lt;omega
    have ow_3:w.heap.size≤v3:=by have:=hB.size;have:=Bz.size;omega
    have nv3_own:=OwnR.off' (b:=v3) ho (by omega)
    replace h11:=h11.below hN
    replace hon:=hon.below hN
    replace ho:=ho.below hN
    replace hB:=zAa (zAa hB Bz) hN
    replace hBW:=zAa (zAa hBW Bz) hN
    replace HX0:=Lib.hid ((HX0.out.below Bz).below hN)
    replace HX1:=Lib.hid ((HX1.out.below Bz).below hN)
    replace HX2:=Lib.hid ((HX2.out.below Bz).below hN)
    have HX3:=Lib.hid x3
    clear x3 hN Bz hb3
    have Bz:=Below.refl V13.heap.size V13
    clear p1_0 p2_0 p2_1 p2_2 p2_3
    have hdr:V13.drew.heap.size=V13.heap.size:=rfl
    have hdr2:V13.drew.drew.heap.size=V13.heap.size:=rfl
    refine Elt.app elt_vec rfl _ _ rfl (w1.heap.size) (.slice H k hc) (k) (O) rfl ho (.slice (some ⟨v3,0,none⟩) 1 1) (1) ([⟨x.at_,⟨s11,A11,c11,l11,s11r,A11r,c11r,l11r,q*x.x.q,true⟩⟩]) rfl (From.one (HX3.out.below (zAa Bz (by go_grown))) (⟨x.at_,⟨s11,A11,c11,l11,s11r,A11r,c11r,l11r,q*x.x.q,true⟩⟩) rfl (elt_vec.len _)) (by omega) (by have:=hBW.size;have:=Bz.size;omega) ?_
    intro H13 c13 w13 ho13 hg13
    replace hB:=(zAa (zAa hB Bz) (by go_grown)).trans (hg13.below (by have:=hB.size;have:=Bz.size;omega) (fun g hg=>by have:=ho.base g hg;omega))
    replace hBW:=(zAa (zAa hBW Bz) (by go_grown)).trans (hg13.below (by have:=hBW.size;have:=Bz.size;omega) (fun g hg=>by have:=ho.base g hg;omega))
    replace HX0:=Lib.hid (hg13.bx (HX0.out.below Bz) (ho.off (by omega)))
    clear HX1
    clear HX2
    clear HX3
    clear hdr hdr2
    replace h11:=h11.k hg13.k
    replace hon:=hon.k hg13.k
    clear hg13 Bz
    have Bz:=Below.refl w13.heap.size w13
    go_wp2_with fail
    have hs1:=HS1.out
    go_roundg (n1-(i+1))
    case measure=>omega
    case rel=>exact⟨i+1,k+1,_,_,_,rfl,by go_num,by omega,Nat.le_refl _,by omega,OwnR.below ho13 (by go_grown),HP2.out _ rfl,(OnT.below hon (by go_grown)).snoc (RN.below h11 (by go_grown)) rfl hs1,HX0.out.below (zAa Bz (by go_grown)),zAa (zAa hB Bz) (by go_grown),zAa (zAa hBW Bz) (by go_grown)⟩
  ·obtain rfl:i=n1:=by omega
   have i1:¬(i:Int)<(i:Int):=by omega
   have HOS:=Lib.hid (ho.sl' elt_vec (ho.eltn elt_vec (by omega)))
   have HCAP:=Lib.hid ho.slice
   have HON:=Lib.hid hon
   clear ho hon
   go_wp2_with fail
   go_ret
   refine⟨_,_,_,rfl,⟨O,HOS.out.below (by go_grown),HON.out.below (by go_grown),?_,fun hn=>?_⟩,zAa hB (by go_grown)⟩
   ·have h9:=HP.out
    rw[List.take_of_length_le (by rw[HLN.out];exact Nat.le_refl _),←rise_scale HRS.out] at h9
    rw[h9]
    exact nrm_ext fun a=>by rw[pget_scale,pget_scale,HGT.out]
   ·obtain⟨_,_,e9,h9,_⟩:=HCAP.out
    cases e9
    exact(h9 hn).2
set_option maxRecDepth 100000 in
set_option maxHeartbeats 4000000 in
theorem axpyV_q {w:World} {s s':Bool} {A A':Option Addr} {l c l' c':Nat} {q:Rat} {mq:Nat} {X Y:Option Addr} {n cx m cy M M':Nat} {P Q:List (Int×Rat)} (hy0:GV w Y m cy P M') (ha:R w s A c l s' A' c' l' q mq) (h:GV w X n cx Q M) (hM:M≤8000) (hM':M'≤4000) (hmq:mq≤4000) (hn:n≤1000000) (hm:m≤1000000) (hT:Hid (Tab w)) :
  Calls Tryz.prog 56 #[.slice Y m cy,.agg #[.bool s,.slice A l c,.bool s',.slice A' l' c'],.slice X n cx] w (TellsV w (nrm (P++Q.map fun x=>(x.1,q*x.2))) (M'+(mq+M+3))):=by
 have hx:=Lib.hid h
 have hy:=Lib.hid hy0
 have HLX:=Lib.hid h.len
 have HLY:=Lib.hid hy0.len
 have hM:M≤10000:=by omega
 have hmq:mq≤10000:=by omega
 clear h hy0
 obtain⟨W,hW,x0,hB⟩:=zAi w #[.bool s,.slice A l c,.bool s',.slice A' l' c'] 57
 replace ha:=ha.below hB
 have HX0:=Lib.hid x0
 clear x0
 have Bz:=Below.refl W.heap.size W
 have p0_0:=(HX0.out.below Bz).cell 0 (.bool s) rfl
 have p0_1:=(HX0.out.below Bz).cell 1 (.slice A l c) rfl
 have p0_2:=(HX0.out.below Bz).cell 2 (.bool s') rfl
 have p0_3:=(HX0.out.below Bz).cell 3 (.slice A' l' c') rfl
 go_enter Tryz.func56,Tryz.ntmps56
 go_wp2_with fail
 rw[←hW]
 clear hW
 go_wp2_with fail
 (try simp only[List.append_eq,List.cons_append,List.nil_append])
 refine zAc (.take 0 (.take 2 (.take 3 (.only 1 (.only 4 (.only 5 (.take 6 .done))))))) [] (fun w'=>w'.cell? ⟨w.heap.size,0,none⟩=some (.bool s)∧w'.cell? ⟨w.heap.size,1,none⟩=some (.slice A l c)∧w'.cell? ⟨w.heap.size,2,none⟩=some (.bool s')∧w'.cell? ⟨w.heap.size,3,none⟩=some (.slice A' l' c')) (by kernel_rfl) (by kernel_rfl) ⟨p0_0,p0_1,p0_2,p0_3⟩ ?_
 iterate 3 (refine zAb (o:=⟨some _,_,_,_,_,_⟩) rfl rfl (fun w' ⟨p0_0,p0_1,p0_2,p0_3⟩=>by go_simp<;>with_reducible rfl) ?_;try simp only[pUt,pLt,pZt,pSt])
 refine zAd (o:=⟨some 8,_,_,_,_,_⟩) rfl rfl (fun K hK=>?_)
 go_simp
 with_reducible refine(normV_q (hy.out.below (zAa hB (zAa (b:=W) Bz (by go_grown)))) (by omega) hm (Lib.hid (Tab.below hT.out (zAa hB (zAa (b:=W) Bz (by go_grown)))))).mono ?_
 rintro e w1 ⟨A1,n1,c1,rfl,h1,b1⟩
 replace b1:=zAa (a:=W) (by go_grown) b1
 replace ha:=ha.below b1
 replace Bz:=zAa Bz b1
 clear b1
 clear p0_0 p0_1 p0_2 p0_3
 have p0_0:=(HX0.out.below Bz).cell 0 (.bool s) rfl
 have p0_1:=(HX0.out.below Bz).cell 1 (.slice A l c) rfl
 have p0_2:=(HX0.out.below Bz).cell 2 (.bool s') rfl
 have p0_3:=(HX0.out.below Bz).cell 3 (.slice A' l' c') rfl
 refine hK.out _ _ ⟨p0_0,p0_1,p0_2,p0_3⟩ (fun _=>?_)
 try simp only[pUt,pLt,pZt,pSt]
 clear hK K
 refine zAd (o:=⟨some 11,_,_,_,_,_⟩) rfl rfl (fun K hK=>?_)
 go_simp
 with_reducible refine(scaleV_q (R.below ha (by go_grown)) (hx.out.below (zAa hB (zAa (b:=w1) Bz (by go_grown)))) hM hmq hn (Lib.hid (Tab.below hT.out (zAa hB (zAa (b:=w1) Bz (by go_grown)))))).mono ?_
 rintro e w2 ⟨A2,n2,c2,rfl,h2,b2⟩
 replace b2:=zAa (a:=w1) (by go_grown) b2
 replace h1:=h1.below b2
 replace Bz:=zAa Bz b2
 clear b2
 clear p0_0 p0_1 p0_2 p0_3
 have p0_0:=(HX0.out.below Bz).cell 0 (.bool s) rfl
 have p0_1:=(HX0.out.below Bz).cell 1 (.slice A l c) rfl
 have p0_2:=(HX0.out.below Bz).cell 2 (.bool s') rfl
 have p0_3:=(HX0.out.below Bz).cell 3 (.slice A' l' c') rfl
 refine hK.out _ _ ⟨p0_0,p0_1,p0_2,p0_3⟩ (fun _=>?_)
 try simp only[pUt,pLt,pZt,pSt]
 clear hK K
 refine zAd (o:=⟨some 12,_,_,_,_,_⟩) rfl rfl (fun K hK=>?_)
 go_simp
 with_reducible refine(join_q (NV.below h1 (by go_grown)) (NV.below h2 (by go_grown)) (nrm_nrm _) (nrm_nrm _) (by omega) (by have:=h1.len;have:=nrm_len P;have:=HLY.out;omega) (by have:=h2.len;have:=nrm_len (Q.map fun x=>(x.1,q*x.2));have:=HLX.out;rw[List.length_map] at *;omega) (Lib.hid (Tab.below hT.out (zAa hB (zAa (b:=w2) Bz (by go_grown)))))).mono ?_
 rintro e w3 ⟨A3,n3,c3,rfl,h3,b3⟩
 replace b3:=zAa (a:=w2) (by go_grown) b3
 replace Bz:=zAa Bz b3
 clear b3
 clear p0_0 p0_1 p0_2 p0_3
 have p0_0:=(HX0.out.below Bz).cell 0 (.bool s) rfl
 have p0_1:=(HX0.out.below Bz).cell 1 (.slice A l c) rfl
 have p0_2:=(HX0.out.below Bz).cell 2 (.bool s') rfl
 have p0_3:=(HX0.out.below Bz).cell 3 (.slice A' l' c') rfl
 refine hK.out _ _ ⟨p0_0,p0_1,p0_2,p0_3⟩ (fun _=>?_)
 try simp only[pUt,pLt,pZt,pSt]
 clear hK K
 refine zAb (o:=⟨some _,_,_,_,_,_⟩) rfl rfl (fun w' ⟨p0_0,p0_1,p0_2,p0_3⟩=>by go_simp<;>with_reducible rfl) ?_
 try simp only[pUt,pLt,pZt,pSt]
 refine zAe ?_
 go_wp2_with fail
 go_ret
 have hF:=zAa (c:=w3) hB Bz
 exact⟨_,_,_,rfl,by rw[←nrm_app];exact(NV.below h3 (by go_grown)).mono (by omega),zAa hF (by go_grown)⟩
def DT1 (w W:World) (vb:Nat) (P Q:List (Int×Rat)) (n m D gk:Nat) (s6 s7:Value) (wr:World):Prop :=
 ∃(i j:Nat) (q:Rat) (sS:Bool) (sA:Option Addr) (sc sl:Nat) (sS':Bool) (sA':Option Addr) (sc' sl':Nat),s6=.int .i64 (i:Int)∧s7=.int .i64 (j:Int)∧i≤n∧j≤m∧n-i+(m-j)≤gk∧RN wr sS sA sc sl sS' sA' sc' sl' q∧Dotted q P Q i j∧sz q≤1+i*D∧
  Bx wr w.heap.size #[.bool false,.slice none 0 0,.bool false,.slice none 0 0] 57∧Bx wr vb #[.bool sS,.slice sA sl sc,.bool sS',.slice sA' sl' sc'] 57∧Below w.heap.size w wr∧Below W.heap.size W wr
set_option maxRecDepth 100000 in
set_option maxHeartbeats 8000000 in
theorem dotV_q {w:World} {X Y:Option Addr} {n cx m cy M M':Nat} {P Q:List (Int×Rat)} (h:GV w X n cx P M) (h':GV w Y m cy Q M') (hM0:n*(M+M'+3)≤15000) (hM:M≤15000) (hM':M'≤15000) (hn:n≤1000000) (hm:m≤1000000) (hT:Hid (Tab w)) :
  Calls Tryz.prog 62 #[.slice X n cx,.slice Y m cy] w (TellsR w (pdot P Q)):=by
 have hx:=Lib.hid h
 have hy:=Lib.hid h'
 have hM:M≤19000:=by omega
 have hM':M'≤19000:=by omega
 clear h h'
 obtain⟨W,hW,x0,hB⟩:=zAi w #[.bool false,.slice none 0 0,.bool false,.slice none 0 0] 57
 have HX0:=Lib.hid x0
 clear x0
 have Bz:=Below.refl W.heap.size W
 go_enter Tryz.func62,Tryz.ntmps62
 go_wp2_with fail
 rw[←hW]
 clear hW
 go_wp2_with fail
 with_reducible refine(ordered_q (hx.out.below (zAa hB (zAa (b:=W) Bz (by go_grown)))) hM hn (Lib.hid (Tab.below hT.out (zAa hB (zAa (b:=W) Bz (by go_grown)))))).mono ?_
 rintro e w1 ⟨A1,n1,c1,P1,rfl,h1,r1,e1,l1,b1⟩
 replace b1:=zAa (a:=W) (by go_grown) b1
 replace Bz:=zAa Bz b1
 clear b1
 go_wp2_with fail
 with_reducible refine(ordered_q (hy.out.below (zAa hB (zAa (b:=w1) Bz (by go_grown)))) hM' hm (Lib.hid (Tab.below hT.out (zAa hB (zAa (b:=w1) Bz (by go_grown)))))).mono ?_
 rintro e w2 ⟨A2,n2,c2,P2,rfl,h2,r2,e2,l2,b2⟩
 replace b2:=zAa (a:=w1) (by go_grown) b2
 replace h1:=h1.below b2
 replace Bz:=zAa Bz b2
 clear b2
 go_upto_region 3 with(fail)
 obtain⟨V1,hW,x1,hN⟩:=zAi w2 #[.bool false,.slice none 0 0,.bool false,.slice none 0 0] 57
 rw[←hW]
 clear hW
 obtain⟨v1,hb1⟩:∃b,b=w2.heap.size:=⟨_,rfl⟩
 rw[←hb1] at x1 ⊢
 have o0_1:w.heap.size<v1:=by have:=(HX0.out.below Bz).lt;omega
 have ow_1:w.heap.size≤v1:=by have:=hB.size;have:=Bz.size;omega
 replace hB:=zAa (zAa hB Bz) hN
 replace HX0:=Lib.hid ((HX0.out.below Bz).below hN)
 have HX1:=Lib.hid x1
 have HN2:=Lib.hid hN
 have how2:w2.heap.size≤v1:=by omega
 clear x1 hN Bz hb1
 have Bz:=Below.refl V1.heap.size V1
 go_wp2_with fail
 obtain⟨LX,x1,x2,rfl,x4,x5⟩:=h1
 obtain⟨LY,y1,y2,rfl,y4,y5⟩:=h2
 obtain⟨D,hD⟩:∃D,D=M+M'+3:=⟨_,rfl⟩
 rw[←hD] at hM0
 have HSX:=Lib.hid x1
 have HSY:=Lib.hid y1
 have HLX:=Lib.hid x1.1
 have HLY:=Lib.hid y1.1
 have HOX:=Lib.hid x2
 have HOY:=Lib.hid y2
 have HWX:=Lib.hid x4
 have HWY:=Lib.hid y4
 have HRX:=Lib.hid r1
 have HRY:=Lib.hid r2
 have HGX:=Lib.hid e1
 have HGY:=Lib.hid e2
 have HB1:=Lib.hid (zAa hB Bz)
 have XX0:=Lib.hid (HX0.out.below Bz)
 have XX1:=Lib.hid (HX1.out.below Bz)
 clear x1 x2 x4 x5 y1 y2 y4 y5 r1 r2 e1 e2 hB Bz HX0 HX1
 go_loopg [6,7] (n1+n2) (fun gk s6 s7 wr=>DT1 w w2 v1 (prs LX) (prs LY) n1 n2 D gk s6 s7 wr)
 case atStart=>exact⟨0,0,0,_,_,_,_,_,_,_,_,rfl,rfl,Nat.zero_le _,Nat.zero_le _,Nat.le_refl _,RN.zero _,Dotted.start _ _,Nat.le_trans sz_zero (by omega),XX0.out,XX1.out,HB1.out,HN2.out⟩
 case round =>
  clear HB1 XX0 XX1 HN2
  obtain⟨i,j,q,sS,sA,sc,sl,sS',sA',sc',sl',rfl,rfl,hi,hj,hgk,hs,hd,hsq,hx0,hx1,hB,hBW⟩:=hrel
  have HDT:=Lib.hid hd
  have HX0:=Lib.hid hx0
  have HX1:=Lib.hid hx1
  clear hd hx0 hx1
  by_cases hin:i<n1
  ·have i1:(i:Int)<(n1:Int):=by omega
   by_cases hjm:j<n2
   ·obtain⟨bx,ox,rfl,hel⟩:=HSX.out.at Tm.cs_len (by omega) (by omega)
    obtain⟨by_,oy,rfl,hel'⟩:=HSY.out.at Tm.cs_len (by omega) (by omega)
    obtain⟨x,ex⟩:∃x,LX[i]?=some x:=⟨LX[i]'(by rw[HLX.out];exact hin),List.getElem?_eq_getElem _⟩
    obtain⟨y,ey⟩:∃y,LY[j]?=some y:=⟨LY[j]'(by rw[HLY.out];exact hjm),List.getElem?_eq_getElem _⟩
    have hnd:=hel i x ex
    have hnd':=hel' j y ey
    have hfx:=HOX.out x (List.mem_of_getElem? ex)
    have hfy:=HOY.out y (List.mem_of_getElem? ey)
    have hrx:R wr x.x.s x.x.A x.x.c x.x.l x.x.s' x.x.A' x.x.c' x.x.l' x.x.q (dgT x):=(hfx.below hBW).r
    have hry:R wr y.x.s y.x.A y.x.c y.x.l y.x.s' y.x.A' y.x.c' y.x.l' y.x.q (dgT y):=(hfy.below hBW).r
    have hdx:dgT x+2≤M+1:=Nat.le_trans (wsum_mem (List.mem_of_getElem? ex)) (HWX.out _)
    have hdy:dgT y+2≤M'+1:=Nat.le_trans (wsum_mem (List.mem_of_getElem? ey)) (HWY.out _)
    have hsx:=hfx.szd
    have hsy:=hfy.szd
    have hsm:sz (x.x.q*y.x.q)≤(dgT x+1)+(dgT y+1):=sz_mul hsx hsy
    have hsa:=sz_add hsq hsm
    have hiD:i*D≤n*D:=Nat.mul_le_mul_right _ (by omega)
    have hiS:(i+1)*D=i*D+D:=by rw[Nat.add_mul,Nat.one_mul]
    have hD1:D≤n*D:=Nat.le_mul_of_pos_left D (by omega)
    have hpx:=prs_get ex
    have hpy:=prs_get ey
    have j1:(j:Int)<(n2:Int):=by omega
    have i2:(0:Int)≤(i:Int):=by omega
    have j2:(0:Int)≤(j:Int):=by omega
    clear hel hel' ex ey hfx hfy
    by_cases hxy:x.at_<y.at_
    ·have HD2:Hid (Dotted q (prs LX) (prs LY) (i+1) j):=Lib.hid (HDT.out.left HRX.out HRY.out hpx hpy hxy)
     have HS1:Hid (sz q≤1+(i+1)*D):=Lib.hid (by rw[hiS];omega)
     have g1:x.at_<y.at_:=hxy
     clear hxy hpx hpy
     have Bz:=Below.refl wr.heap.size wr
     have p50_0:=(hnd.below (zAa hBW Bz)).c0 (u:=.int .i64 x.at_) rfl
     have p51_0:=(hnd'.below (zAa hBW Bz)).c0 (u:=.int .i64 y.at_) rfl
     go_wp2_with fail
     (try simp only[List.append_eq,List.cons_append,List.nil_append])
     refine zAc (.take 0 (.take 1 (.take 2 (.take 3 (.take 4 (.take 5 (.take 6 (.take 7 (.take 8 (.take 9 (.take 10 (.take 11 .done)))))))))))) [] (fun w'=>w'.cell? ⟨bx,ox+i*5,none⟩=some (.int .i64 x.at_)∧w'.cell? ⟨by_,oy+j*5,none⟩=some (.int .i64 y.at_)) (by kernel_rfl) (by kernel_rfl) ⟨p50_0,p51_0⟩ ?_
     iterate 12 (refine zAb (o:=⟨some _,_,_,_,_,_⟩) rfl rfl (fun w' ⟨p50_0,p51_0⟩=>by go_simp<;>with_reducible rfl) ?_;try simp only[pUt,pLt,pZt,pSt])
     refine zAe ?_
     go_wp2_with fail
     have hs1:=HS1.out
     go_roundg (n1-(i+1)+(n2-(j)))
     case measure=>omega
     case rel=>exact⟨i+1,j,_,_,_,_,_,_,_,_,_,by go_num,rfl,by omega,by omega,Nat.le_refl _,RN.below hs (by go_grown),HD2.out,hs1,HX0.out.below (zAa Bz (by go_grown)),HX1.out.below (zAa Bz (by go_grown)),zAa (zAa hB Bz) (by go_grown),zAa (zAa hBW Bz) (by go_grown)⟩
    ·have g1:¬x.at_<y.at_:=hxy
     by_cases hyx:y.at_<x.at_
     ·have HD2:Hid (Dotted q (prs LX) (prs LY) i (j+1)):=Lib.hid (HDT.out.right HRX.out HRY.out hpx hpy hyx)
      have HS1:Hid (sz q≤1+i*D):=Lib.hid hsq
      have g2:y.at_<x.at_:=hyx
      clear hxy hyx hpx hpy
      have Bz:=Below.refl wr.heap.size wr
      have p50_0:=(hnd.below (zAa hBW Bz)).c0 (u:=.int .i64 x.at_) rfl
      have p51_0:=(hnd'.below (zAa hBW Bz)).c0 (u:=.int .i64 y.at_) rfl
      go_wp2_with fail
      (try simp only[List.append_eq,List.cons_append,List.nil_append])
      refine zAc (.take 0 (.take 1 (.take 2 (.take 3 (.take 4 (.take 5 (.take 6 (.take 7 (.take 8 (.take 9 (.take 10 (.take 11 .done)))))))))))) [] (fun w'=>w'.cell? ⟨bx,ox+i*5,none⟩=some (.int .i64 x.at_)∧w'.cell? ⟨by_,oy+j*5,none⟩=some (.int .i64 y.at_)) (by kernel_rfl) (by kernel_rfl) ⟨p50_0,p51_0⟩ ?_
      iterate 12 (refine zAb (o:=⟨some _,_,_,_,_,_⟩) rfl rfl (fun w' ⟨p50_0,p51_0⟩=>by go_simp<;>with_reducible rfl) ?_;try simp only[pUt,pLt,pZt,pSt])
      refine zAe ?_
      go_wp2_with fail
      (try simp only[List.append_eq,List.cons_append,List.nil_append])
      refine zAc (.take 0 (.take 1 (.take 2 (.take 3 (.take 4 (.take 5 (.take 6 (.take 7 (.take 8 (.take 9 (.take 10 (.take 11 .done)))))))))))) [] (fun w'=>w'.cell? ⟨bx,ox+i*5,none⟩=some (.int .i64 x.at_)∧w'.cell? ⟨by_,oy+j*5,none⟩=some (.int .i64 y.at_)) (by kernel_rfl) (by kernel_rfl) ⟨p50_0,p51_0⟩ ?_
      iterate 12 (refine zAb (o:=⟨some _,_,_,_,_,_⟩) rfl rfl (fun w' ⟨p50_0,p51_0⟩=>by go_simp<;>with_reducible rfl) ?_;try simp only[pUt,pLt,pZt,pSt])
      refine zAe ?_
      go_wp2_with fail
      have hs1:=HS1.out
      go_roundg (n1-(i)+(n2-(j+1)))
      case measure=>omega
      case rel=>exact⟨i,j+1,_,_,_,_,_,_,_,_,_,rfl,by go_num,by omega,by omega,Nat.le_refl _,RN.below hs (by go_grown),HD2.out,hs1,HX0.out.below (zAa Bz (by go_grown)),HX1.out.below (zAa Bz (by go_grown)),zAa (zAa hB Bz) (by go_grown),zAa (zAa hBW Bz) (by go_grown)⟩
     ·have HD2:Hid (Dotted (q+x.x.q*y.x.q) (prs LX) (prs LY) (i+1) (j+1)):=Lib.hid (HDT.out.both HRX.out HRY.out hpx hpy (show x.at_=y.at_ by omega))
      have HS1:Hid (sz (q+x.x.q*y.x.q)≤1+(i+1)*D):=Lib.hid (by rw[hiS];omega)
      have g2:¬y.at_<x.at_:=hyx
      clear hxy hyx hpx hpy
      have Bz:=Below.refl wr.heap.size wr
      have p1_0:=(HX1.out.below Bz).cell 0 (.bool sS) rfl
      have p1_1:=(HX1.out.below Bz).cell 1 (.slice sA sl sc) rfl
      have p1_2:=(HX1.out.below Bz).cell 2 (.bool sS') rfl
      have p1_3:=(HX1.out.below Bz).cell 3 (.slice sA' sl' sc') rfl
      have f1_0:=(HX1.out.below Bz).frozen 0
      have f1_1:=(HX1.out.below Bz).frozen 1
      have f1_2:=(HX1.out.below Bz).frozen 2
      have f1_3:=(HX1.out.below Bz).frozen 3
      have y1:=(HX1.out.below Bz).lt
      have p50_0:=(hnd.below (zAa hBW Bz)).c0 (u:=.int .i64 x.at_) rfl
      have p50_1:=(hnd.below (zAa hBW Bz)).at 1 (.bool x.x.s) rfl
      have p50_2:=(hnd.below (zAa hBW Bz)).at 2 (.slice x.x.A x.x.l x.x.c) rfl
      have p50_3:=(hnd.below (zAa hBW Bz)).at 3 (.bool x.x.s') rfl
      have p50_4:=(hnd.below (zAa hBW Bz)).at 4 (.slice x.x.A' x.x.l' x.x.c') rfl
      have p51_0:=(hnd'.below (zAa hBW Bz)).c0 (u:=.int .i64 y.at_) rfl
      have p51_1:=(hnd'.below (zAa hBW Bz)).at 1 (.bool y.x.s) rfl
      have p51_2:=(hnd'.below (zAa hBW Bz)).at 2 (.slice y.x.A y.x.l y.x.c) rfl
      have p51_3:=(hnd'.below (zAa hBW Bz)).at 3 (.bool y.x.s') rfl
      have p51_4:=(hnd'.below (zAa hBW Bz)).at 4 (.slice y.x.A' y.x.l' y.x.c') rfl
      go_wp2_with fail
      (try simp only[List.append_eq,List.cons_append,List.nil_append])
      refine zAc (.take 0 (.take 1 (.take 2 (.take 3 (.take 4 (.take 5 (.take 6 (.take 7 (.take 8 (.take 9 (.take 10 (.take 11 .done)))))))))))) [] (fun w'=>w'.cell? ⟨bx,ox+i*5,none⟩=some (.int .i64 x.at_)∧w'.cell? ⟨by_,oy+j*5,none⟩=some (.int .i64 y.at_)) (by kernel_rfl) (by kernel_rfl) ⟨p50_0,p51_0⟩ ?_
      iterate 12 (refine zAb (o:=⟨some _,_,_,_,_,_⟩) rfl rfl (fun w' ⟨p50_0,p51_0⟩=>by go_simp<;>with_reducible rfl) ?_;try simp only[pUt,pLt,pZt,pSt])
      refine zAe ?_
      go_wp2_with fail
      (try simp only[List.append_eq,List.cons_append,List.nil_append])
      refine zAc (.take 0 (.take 1 (.take 2 (.take 3 (.take 4 (.take 5 (.take 6 (.take 7 (.take 8 (.take 9 (.take 10 (.take 11 .done)))))))))))) [] (fun w'=>w'.cell? ⟨bx,ox+i*5,none⟩=some (.int .i64 x.at_)∧w'.cell? ⟨by_,oy+j*5,none⟩=some (.int .i64 y.at_)) (by kernel_rfl) (by kernel_rfl) ⟨p50_0,p51_0⟩ ?_
      iterate 12 (refine zAb (o:=⟨some _,_,_,_,_,_⟩) rfl rfl (fun w' ⟨p50_0,p51_0⟩=>by go_simp<;>with_reducible rfl) ?_;try simp only[pUt,pLt,pZt,pSt])
      refine zAe ?_
      go_wp2_with fail
      (try simp only[List.append_eq,List.cons_append,List.nil_append])
      refine zAc (.take 0 (.pure 1 (.pure 2 (.pure 3 (.pure 4 (.take 5 (.pure 6 (.pure 7 (.pure 8 (.pure 9 (.take 10 (.only 11 (.only 12 (.only 13 .done)))))))))))))) [13] (fun w'=>w'.cell? ⟨v1,0,none⟩=some (.bool sS)∧w'.cell? ⟨v1,1,none⟩=some (.slice sA sl sc)∧w'.cell? ⟨v1,2,none⟩=some (.bool sS')∧w'.cell? ⟨v1,3,none⟩=some (.slice sA' sl' sc')∧w'.cell? ⟨bx,ox+i*5+1,none⟩=some (.bool x.x.s)∧w'.cell? ⟨bx,ox+i*5+2,none⟩=some (.slice x.x.A x.x.l x.x.c)∧w'.cell? ⟨bx,ox+i*5+3,none⟩=some (.bool x.x.s')∧w'.cell? ⟨bx,ox+i*5+4,none⟩=some (.slice x.x.A' x.x.l' x.x.c')∧w'.cell? ⟨by_,oy+j*5+1,none⟩=some (.bool y.x.s)∧w'.cell? ⟨by_,oy+j*5+2,none⟩=some (.slice y.x.A y.x.l y.x.c)∧w'.cell? ⟨by_,oy+j*5+3,none⟩=some (.bool y.x.s')∧w'.cell? ⟨by_,oy+j*5+4,none⟩=some (.slice y.x.A' y.x.l' y.x.c')) (by kernel_rfl) (by kernel_rfl) ⟨p1_0,p1_1,p1_2,p1_3,p50_1,p50_2,p50_3,p50_4,p51_1,p51_2,p51_3,p51_4⟩ ?_
      refine zAb (o:=⟨some _,_,_,_,_,_⟩) rfl rfl (fun w' ⟨p1_0,p1_1,p1_2,p1_3,p50_1,p50_2,p50_3,p50_4,p51_1,p51_2,p51_3,p51_4⟩=>by go_simp<;>with_reducible rfl) ?_
      try simp only[pUt,pLt,pZt,pSt]
      iterate 4 (refine zAn (o:=⟨some _,_,_,_,_,_⟩) rfl rfl (fun w'=>by go_simp<;>with_reducible rfl) ?_;try simp only[pUt,pLt,pZt,pSt])
      refine zAb (o:=⟨some _,_,_,_,_,_⟩) rfl rfl (fun w' ⟨p1_0,p1_1,p1_2,p1_3,p50_1,p50_2,p50_3,p50_4,p51_1,p51_2,p51_3,p51_4⟩=>by go_simp<;>with_reducible rfl) ?_
      try simp only[pUt,pLt,pZt,pSt]
      iterate 4 (refine zAn (o:=⟨some _,_,_,_,_,_⟩) rfl rfl (fun w'=>by go_simp<;>with_reducible rfl) ?_;try simp only[pUt,pLt,pZt,pSt])
      refine zAb (o:=⟨some _,_,_,_,_,_⟩) rfl rfl (fun w' ⟨p1_0,p1_1,p1_2,p1_3,p50_1,p50_2,p50_3,p50_4,p51_1,p51_2,p51_3,p51_4⟩=>by go_simp<;>with_reducible rfl) ?_
      try simp only[pUt,pLt,pZt,pSt]
      refine zAd (o:=⟨some 33,_,_,_,_,_⟩) rfl rfl (fun K hK=>?_)
      go_simp
      with_reducible refine(mul_q (R.below hrx (by go_grown)) (R.below hry (by go_grown)) (by omega) (Lib.hid (Tab.below hT.out (zAa hB (zAa (b:=wr) Bz (by go_grown)))))).mono ?_
      rintro e w11 ⟨s11,A11,c11,l11,s11r,A11r,c11r,l11r,rfl,h11,b11⟩
      replace b11:=zAa (a:=wr) (by go_grown) b11
      replace hs:=hs.below b11
      replace Bz:=zAa Bz b11
      clear b11
      clear p1_0 p1_1 p1_2 p1_3 f1_0 f1_1 f1_2 f1_3 y1 p50_0 p50_1 p50_2 p50_3 p50_4 p51_0 p51_1 p51_2 p51_3 p51_4
      have p1_0:=(HX1.out.below Bz).cell 0 (.bool sS) rfl
      have p1_1:=(HX1.out.below Bz).cell 1 (.slice sA sl sc) rfl
      have p1_2:=(HX1.out.below Bz).cell 2 (.bool sS') rfl
      have p1_3:=(HX1.out.below Bz).cell 3 (.slice sA' sl' sc') rfl
      have f1_0:=(HX1.out.below Bz).frozen 0
      have f1_1:=(HX1.out.below Bz).frozen 1
      have f1_2:=(HX1.out.below Bz).frozen 2
      have f1_3:=(HX1.out.below Bz).frozen 3
      have y1:=(HX1.out.below Bz).lt
      have p50_1:=(hnd.below (zAa hBW Bz)).at 1 (.bool x.x.s) rfl
      have p50_2:=(hnd.below (zAa hBW Bz)).at 2 (.slice x.x.A x.x.l x.x.c) rfl
      have p50_3:=(hnd.below (zAa hBW Bz)).at 3 (.bool x.x.s') rfl
      have p50_4:=(hnd.below (zAa hBW Bz)).at 4 (.slice x.x.A' x.x.l' x.x.c') rfl
      have p51_1:=(hnd'.below (zAa hBW Bz)).at 1 (.bool y.x.s) rfl
      have p51_2:=(hnd'.below (zAa hBW Bz)).at 2 (.slice y.x.A y.x.l y.x.c) rfl
      have p51_3:=(hnd'.below (zAa hBW Bz)).at 3 (.bool y.x.s') rfl
      have p51_4:=(hnd'.below (zAa hBW Bz)).at 4 (.slice y.x.A' y.x.l' y.x.c') rfl
      refine hK.out _ _ ⟨p1_0,p1_1,p1_2,p1_3,p50_1,p50_2,p50_3,p50_4,p51_1,p51_2,p51_3,p51_4⟩ (fun _=>?_)
      try simp only[pUt,pLt,pZt,pSt]
      clear hK K
      refine zAd (o:=⟨some 34,_,_,_,_,_⟩) rfl rfl (fun K hK=>?_)
      go_simp
      with_reducible refine(add_q (R.below hs.r (by go_grown)) (R.below h11.r (by go_grown)) (by omega) (Lib.hid (Tab.below hT.out (zAa hB (zAa (b:=w11) Bz (by go_grown)))))).mono ?_
      rintro e w12 ⟨s12,A12,c12,l12,s12r,A12r,c12r,l12r,rfl,h12,b12⟩
      replace b12:=zAa (a:=w11) (by go_grown) b12
      replace Bz:=zAa Bz b12
      clear b12
      clear p1_0 p1_1 p1_2 p1_3 f1_0 f1_1 f1_2 f1_3 y1 p50_1 p50_2 p50_3 p50_4 p51_1 p51_2 p51_3 p51_4
      have p1_0:=(HX1.out.below Bz).cell 0 (.bool sS) rfl
      have p1_1:=(HX1.out.below Bz).cell 1 (.slice sA sl sc) rfl
      have p1_2:=(HX1.out.below Bz).cell 2 (.bool sS') rfl
      have p1_3:=(HX1.out.below Bz).cell 3 (.slice sA' sl' sc') rfl
      have f1_0:=(HX1.out.below Bz).frozen 0
      have f1_1:=(HX1.out.below Bz).frozen 1
      have f1_2:=(HX1.out.below Bz).frozen 2
      have f1_3:=(HX1.out.below Bz).frozen 3
      have y1:=(HX1.out.below Bz).lt
      have p50_1:=(hnd.below (zAa hBW Bz)).at 1 (.bool x.x.s) rfl
      have p50_2:=(hnd.below (zAa hBW Bz)).at 2 (.slice x.x.A x.x.l x.x.c) rfl
      have p50_3:=(hnd.below (zAa hBW Bz)).at 3 (.bool x.x.s') rfl
      have p50_4:=(hnd.below (zAa hBW Bz)).at 4 (.slice x.x.A' x.x.l' x.x.c') rfl
      have p51_1:=(hnd'.below (zAa hBW Bz)).at 1 (.bool y.x.s) rfl
      have p51_2:=(hnd'.below (zAa hBW Bz)).at 2 (.slice y.x.A y.x.l y.x.c) rfl
      have p51_3:=(hnd'.below (zAa hBW Bz)).at 3 (.bool y.x.s') rfl
      have p51_4:=(hnd'.below (zAa hBW Bz)).at 4 (.slice y.x.A' y.x.l' y.x.c') rfl
      refine hK.out _ _ ⟨p1_0,p1_1,p1_2,p1_3,p50_1,p50_2,p50_3,p50_4,p51_1,p51_2,p51_3,p51_4⟩ (fun _=>?_)
      try simp only[pUt,pLt,pZt,pSt]
      clear hK K
      refine zAg (o:=⟨none,_,_,_,_,_⟩) rfl rfl (by decide) (fun K hK=>?_)
      go_simp
      refine hK.out _ _ ?_
      try simp only[Act.put,List.setIfInBounds_toArray,List.set_cons_zero,List.set_cons_succ]
      clear hK K
      refine zAe ?_
      obtain⟨V11,hW,x,kk,far,bel⟩:=store4 (.bool s12) (.slice A12 l12 c12) (.bool s12r) (.slice A12r l12r c12r) (HX1.out.below Bz) (fun _ e=>by cases e) (fun _ e=>by cases e) (fun _ e=>by cases e) (fun _ e=>by cases e)
      rw[←hW]
      clear hW
      replace h12:=h12.k kk
      replace hB:=bel w.heap.size w (by omega) (zAa hB Bz)
      replace hBW:=bel w2.heap.size w2 (by omega) (zAa hBW Bz)
      replace HX0:=Lib.hid (far _ _ _ (by omega) (HX0.out.below Bz))
      replace HX1:=Lib.hid x
      clear x kk far bel Bz
      have Bz:=Below.refl V11.heap.size V11
      clear p1_0 p1_1 p1_2 p1_3 f1_0 f1_1 f1_2 f1_3 y1 p50_1 p50_2 p50_3 p50_4 p51_1 p51_2 p51_3 p51_4
      go_wp2_with fail
      have hs1:=HS1.out
      go_roundg (n1-(i+1)+(n2-(j+1)))
      case measure=>omega
      case rel=>exact⟨i+1,j+1,_,_,_,_,_,_,_,_,_,by go_num,by go_num,by omega,by omega,Nat.le_refl _,RN.below h12 (by go_grown),HD2.out,hs1,HX0.out.below (zAa Bz (by go_grown)),HX1.out.below (zAa Bz (by go_grown)),zAa (zAa hB Bz) (by go_grown),zAa (zAa hBW Bz) (by go_grown)⟩
   ·obtain rfl:j=n2:=by omega
    have j1:¬(j:Int)<(j:Int):=by omega
    have HEND:Hid (q=pdot P Q):=Lib.hid (by rw[HDT.out.done (.inr (by rw[prs_len,HLY.out];exact Nat.le_refl _)),pdot_congr HGY.out,pdot_congr_left HGX.out])
    have Bz:=Below.refl wr.heap.size wr
    have p0_0:=(HX0.out.below Bz).cell 0 (.bool false) rfl
    have p0_1:=(HX0.out.below Bz).cell 1 (.slice none 0 0) rfl
    have p0_2:=(HX0.out.below Bz).cell 2 (.bool false) rfl
    have p0_3:=(HX0.out.below Bz).cell 3 (.slice none 0 0) rfl
    have f0_0:=(HX0.out.below Bz).frozen 0
    have f0_1:=(HX0.out.below Bz).frozen 1
    have f0_2:=(HX0.out.below Bz).frozen 2
    have f0_3:=(HX0.out.below Bz).frozen 3
    have y0:=(HX0.out.below Bz).lt
    have p1_0:=(HX1.out.below Bz).cell 0 (.bool sS) rfl
    have p1_1:=(HX1.out.below Bz).cell 1 (.slice sA sl sc) rfl
    have p1_2:=(HX1.out.below Bz).cell 2 (.bool sS') rfl
    have p1_3:=(HX1.out.below Bz).cell 3 (.slice sA' sl' sc') rfl
    go_wp2_with fail
    (try simp only[Exit.inBlock,Exit.then])
    refine bodyPost_ret (by simp[results,Tryz.results62,go_sem,p0_0,p0_1,p0_2,p0_3];try rfl) rfl ?_
    obtain⟨V1,hW,x,kk,far,bel⟩:=store4 (.bool sS) (.slice sA sl sc) (.bool sS') (.slice sA' sl' sc') (HX0.out.below Bz) (fun _ e=>by cases e) (fun _ e=>by cases e) (fun _ e=>by cases e) (fun _ e=>by cases e)
    rw[←hW]
    clear hW
    replace hs:=hs.k kk
    replace hB:=bel w.heap.size w (by omega) (zAa hB Bz)
    replace HX1:=Lib.hid (far _ _ _ (by omega) (HX1.out.below Bz))
    replace HX0:=Lib.hid x
    clear x kk far bel Bz
    have Bz:=Below.refl V1.heap.size V1
    have hF:=zAa (c:=V1) hB Bz
    exact⟨_,_,_,_,_,_,_,_,rfl,by rw[←HEND.out];exact RN.below hs (by go_grown),zAa hF (by go_grown)⟩
  ·obtain rfl:i=n1:=by omega
   have i1:¬(i:Int)<(i:Int):=by omega
   have HEND:Hid (q=pdot P Q):=Lib.hid (by rw[HDT.out.done (.inl (by rw[prs_len,HLX.out];exact Nat.le_refl _)),pdot_congr HGY.out,pdot_congr_left HGX.out])
   have Bz:=Below.refl wr.heap.size wr
   have p0_0:=(HX0.out.below Bz).cell 0 (.bool false) rfl
   have p0_1:=(HX0.out.below Bz).cell 1 (.slice none 0 0) rfl
   have p0_2:=(HX0.out.below Bz).cell 2 (.bool false) rfl
   have p0_3:=(HX0.out.below Bz).cell 3 (.slice none 0 0) rfl
   have f0_0:=(HX0.out.below Bz).frozen 0
   have f0_1:=(HX0.out.below Bz).frozen 1
   have f0_2:=(HX0.out.below Bz).frozen 2
   have f0_3:=(HX0.out.below Bz).frozen 3
   have y0:=(HX0.out.below Bz).lt
   have p1_0:=(HX1.out.below Bz).cell 0 (.bool sS) rfl
   have p1_1:=(HX1.out.below Bz).cell 1 (.slice sA sl sc) rfl
   have p1_2:=(HX1.out.below Bz).cell 2 (.bool sS') rfl
   have p1_3:=(HX1.out.below Bz).cell 3 (.slice sA' sl' sc') rfl
   go_wp2_with fail
   (try simp only[Exit.inBlock,Exit.then])
   refine bodyPost_ret (by simp[results,Tryz.results62,go_sem,p0_0,p0_1,p0_2,p0_3];try rfl) rfl ?_
   obtain⟨V1,hW,x,kk,far,bel⟩:=store4 (.bool sS) (.slice sA sl sc) (.bool sS') (.slice sA' sl' sc') (HX0.out.below Bz) (fun _ e=>by cases e) (fun _ e=>by cases e) (fun _ e=>by cases e) (fun _ e=>by cases e)
   rw[←hW]
   clear hW
   replace hs:=hs.k kk
   replace hB:=bel w.heap.size w (by omega) (zAa hB Bz)
   replace HX1:=Lib.hid (far _ _ _ (by omega) (HX1.out.below Bz))
   replace HX0:=Lib.hid x
   clear x kk far bel Bz
   have Bz:=Below.refl V1.heap.size V1
   have hF:=zAa (c:=V1) hB Bz
   exact⟨_,_,_,_,_,_,_,_,rfl,by rw[←HEND.out];exact RN.below hs (by go_grown),zAa hF (by go_grown)⟩
open Go.RowKit Tw
def sameT (p:Tm×Tm):Bool:=decide (p.1.at_=p.2.at_)&&decide (p.1.x.q=p.2.x.q)
theorem prs_zip:∀{L M:List Tm},L.length=M.length→((L.zip M).all sameT=true↔prs L=prs M):=by
 intro L
 induction L with
 | nil=>intro M h;cases M with
  | nil=>simp[prs]
  | cons y M=>simp at h
 | cons x L ih =>
  intro M h
  cases M with
  | nil=>simp at h
  | cons y M =>
   have h2:=ih (M:=M) (by simpa using h)
   rw[List.zip_cons_cons,List.all_cons,Bool.and_eq_true,h2]
   show _↔(x.at_,x.x.q) :: prs L=(y.at_,y.x.q) :: prs M
   unfold sameT
   simp only[Bool.and_eq_true,decide_eq_true_eq,List.cons.injEq,Prod.mk.injEq]
theorem prs_zip_all {L M:List Tm} (h:L.length=M.length):decide (prs L=prs M)=(L.zip M).all sameT:=by
 have:=prs_zip h
 cases e:(L.zip M).all sameT
 ·rw[e] at this;exact decide_eq_false (fun h2=>by have:=this.2 h2;cases this)
 ·rw[e] at this;exact decide_eq_true (this.1 rfl)
def SV1 (w:World) (Z:List (Tm×Tm)) (n gk:Nat) (s:Value) (wr:World):Prop:=∃i:Nat,i≤n∧n-i=gk∧s=.int .i64 (i:Int)∧Below w.heap.size w wr∧(Z.take i).all sameT=true
theorem OnT.len {w:World} {L:List Tm} {M:Nat} (h:OnT w L (fun _=>M)):∀t∈L,t.x.l≤M∧t.x.l'≤M:=fun t ht=>by have h1:=h.dg t ht;have h2:=(h t ht).2.2;unfold dgT at h1;simp only at h2;omega
set_option maxRecDepth 100000 in
set_option maxHeartbeats 4000000 in
theorem sameVec_q {w:World} {A A':Option Addr} {n n' c c' M M':Nat} {P Q:List (Int×Rat)} (h:NV w A n c P M) (h':NV w A' n' c' Q M') (hM:M≤40000) (hM':M'≤40000) (hn:n≤1000000) (hn':n'≤1000000) (r:Bool) (hr:Hid (decide (P=Q)=r)) :
  Calls Tryz.prog 25 #[.slice A n c,.slice A' n' c'] w fun e w'=>e=.returned (.bool r)∧Below w.heap.size w w':=by
 obtain⟨L,x1,x2,rfl,x4⟩:=h
 obtain⟨K,y1,y2,rfl,y4⟩:=h'
 have H:=Lib.hid x1
 have H':=Lib.hid y1
 have HLN:=Lib.hid x1.1
 have HMN:=Lib.hid y1.1
 have HOX:=Lib.hid x2
 have HOY:=Lib.hid y2
 clear x1 x2 x4 y1 y2 y4
 by_cases hnn:n=n'
 ·subst hnn
  have g0:((n:Int) !=(n:Int))=false:=by simp
  have hra:Hid ((L.zip K).all sameT=r):=Lib.hid (by rw[←hr.out,prs_zip_all (HLN.out.trans HMN.out.symm)])
  have HZL:Hid ((L.zip K).length=n):=Lib.hid (by rw[List.length_zip,HLN.out,HMN.out];exact Nat.min_self _)
  have hst:SV1 w (L.zip K) n n (.int .i64 ((0:Nat):Int)) w:=⟨0,Nat.zero_le _,rfl,rfl,Below.refl _ _,by simp⟩
  have HST:=Lib.hid hst
  clear hst hr
  go_enter Tryz.func25,Tryz.ntmps25
  go_wp2_with fail
  go_loopg [5] n (fun gk s wr=>SV1 w (L.zip K) n gk s wr)
  case atStart=>exact HST.out
  case round =>
   clear HST
   obtain⟨i,hi,hgk,rfl,hB,hd⟩:=hrel
   have HGK:=Lib.hid hgk
   have HD:=Lib.hid hd
   clear hgk hd
   by_cases hlt:i<n
   ·obtain⟨b,off,rfl,hel⟩:=H.out.at Tm.cs_len (by omega) (by omega)
    obtain⟨b',off',rfl,hel'⟩:=H'.out.at Tm.cs_len (by omega) (by omega)
    obtain⟨x,ex⟩:∃x,L[i]?=some x:=⟨L[i]'(by rw[HLN.out];exact hlt),List.getElem?_eq_getElem _⟩
    obtain⟨y,ey⟩:∃y,K[i]?=some y:=⟨K[i]'(by rw[HMN.out];exact hlt),List.getElem?_eq_getElem _⟩
    have hnd:=hel i x ex
    have hnd':=hel' i y ey
    have HZI:Hid ((L.zip K)[i]?=some (x,y)):=Lib.hid (by rw[List.getElem?_zip_eq_some];exact⟨ex,ey⟩)
    have HRX:=Lib.hid (HOX.out x (List.mem_of_getElem? ex)).1
    have HRY:=Lib.hid (HOY.out y (List.mem_of_getElem? ey)).1
    have hlx0:=HOX.out.len x (List.mem_of_getElem? ex)
    have hly0:=HOY.out.len y (List.mem_of_getElem? ey)
    have hlx:x.x.l≤800000∧x.x.l'≤800000:=by omega
    have hly:y.x.l≤800000∧y.x.l'≤800000:=by omega
    have hsx:sz x.x.q+1≤M:=(HOX.out x (List.mem_of_getElem? ex)).2.2
    have hsy:sz y.x.q+1≤M':=(HOY.out y (List.mem_of_getElem? ey)).2.2
    have i1:(i:Int)<(n:Int):=by omega
    have i2:(0:Int)≤(i:Int):=by omega
    clear ex hel ey hel' hlx0 hly0
    by_cases hat:x.at_=y.at_
    ·have g1:(x.at_ != y.at_)=false:=by simpa using hat
     by_cases hq:x.x.q=y.x.q
     ·have HQ:Hid (decide (x.x.q=y.x.q)=true):=Lib.hid (decide_eq_true hq)
      have HP:Hid (sameT (x,y)=true):=Lib.hid (by unfold sameT;rw[decide_eq_true hat,decide_eq_true hq];rfl)
      clear hat hq
      have Bz:=Below.refl wr.heap.size wr
      have p50_0:=(hnd.below (zAa hB Bz)).c0 (u:=.int .i64 x.at_) rfl
      have p50_1:=(hnd.below (zAa hB Bz)).at 1 (.bool x.x.s) rfl
      have p50_2:=(hnd.below (zAa hB Bz)).at 2 (.slice x.x.A x.x.l x.x.c) rfl
      have p50_3:=(hnd.below (zAa hB Bz)).at 3 (.bool x.x.s') rfl
      have p50_4:=(hnd.below (zAa hB Bz)).at 4 (.slice x.x.A' x.x.l' x.x.c') rfl
      have p51_0:=(hnd'.below (zAa hB Bz)).c0 (u:=.int .i64 y.at_) rfl
      have p51_1:=(hnd'.below (zAa hB Bz)).at 1 (.bool y.x.s) rfl
      have p51_2:=(hnd'.below (zAa hB Bz)).at 2 (.slice y.x.A y.x.l y.x.c) rfl
      have p51_3:=(hnd'.below (zAa hB Bz)).at 3 (.bool y.x.s') rfl
      have p51_4:=(hnd'.below (zAa hB Bz)).at 4 (.slice y.x.A' y.x.l' y.x.c') rfl
      go_wp2_with fail
      (try simp only[List.append_eq,List.cons_append,List.nil_append])
      refine zAc (.take 0 (.take 1 (.take 2 (.take 3 (.take 4 (.take 5 (.take 6 (.take 7 (.take 8 (.take 9 (.take 10 (.take 11 (.take 12 (.take 13 (.take 14 (.take 15 (.take 16 (.take 17 (.take 18 (.take 19 (.take 20 (.take 21 (.only 22 (.take 23 (.take 24 .done))))))))))))))))))))))))) [] (fun w'=>w'.cell? ⟨b,off+i*5,none⟩=some (.int .i64 x.at_)∧w'.cell? ⟨b,off+i*5+1,none⟩=some (.bool x.x.s)∧w'.cell? ⟨b,off+i*5+2,none⟩=some (.slice x.x.A x.x.l x.x.c)∧w'.cell? ⟨b,off+i*5+3,none⟩=some (.bool x.x.s')∧w'.cell? ⟨b,off+i*5+4,none⟩=some (.slice x.x.A' x.x.l' x.x.c')∧w'.cell? ⟨b',off'+i*5,none⟩=some (.int .i64 y.at_)∧w'.cell? ⟨b',off'+i*5+1,none⟩=some (.bool y.x.s)∧w'.cell? ⟨b',off'+i*5+2,none⟩=some (.slice y.x.A y.x.l y.x.c)∧w'.cell? ⟨b',off'+i*5+3,none⟩=some (.bool y.x.s')∧w'.cell? ⟨b',off'+i*5+4,none⟩=some (.slice y.x.A' y.x.l' y.x.c')) (by kernel_rfl) (by kernel_rfl) ⟨p50_0,p50_1,p50_2,p50_3,p50_4,p51_0,p51_1,p51_2,p51_3,p51_4⟩ ?_
      iterate 22 (refine zAb (o:=⟨some _,_,_,_,_,_⟩) rfl rfl (fun w' ⟨p50_0,p50_1,p50_2,p50_3,p50_4,p51_0,p51_1,p51_2,p51_3,p51_4⟩=>by go_simp<;>with_reducible rfl) ?_;try simp only[pUt,pLt,pZt,pSt])
      refine zAd (o:=⟨some 39,_,_,_,_,_⟩) rfl rfl (fun K hK=>?_)
      go_simp
      with_reducible refine(sameRat_rn (HRX.out.below (zAa hB (zAa (b:=wr) Bz (by go_grown)))) (HRY.out.below (zAa hB (zAa (b:=wr) Bz (by go_grown)))) hlx hly true HQ).mono ?_
      rintro e w1 ⟨rfl,b1⟩
      replace b1:=zAa (a:=wr) (by go_grown) b1
      replace Bz:=zAa Bz b1
      clear b1
      clear p50_0 p50_1 p50_2 p50_3 p50_4 p51_0 p51_1 p51_2 p51_3 p51_4
      have p50_0:=(hnd.below (zAa hB Bz)).c0 (u:=.int .i64 x.at_) rfl
      have p50_1:=(hnd.below (zAa hB Bz)).at 1 (.bool x.x.s) rfl
      have p50_2:=(hnd.below (zAa hB Bz)).at 2 (.slice x.x.A x.x.l x.x.c) rfl
      have p50_3:=(hnd.below (zAa hB Bz)).at 3 (.bool x.x.s') rfl
      have p50_4:=(hnd.below (zAa hB Bz)).at 4 (.slice x.x.A' x.x.l' x.x.c') rfl
      have p51_0:=(hnd'.below (zAa hB Bz)).c0 (u:=.int .i64 y.at_) rfl
      have p51_1:=(hnd'.below (zAa hB Bz)).at 1 (.bool y.x.s) rfl
      have p51_2:=(hnd'.below (zAa hB Bz)).at 2 (.slice y.x.A y.x.l y.x.c) rfl
      have p51_3:=(hnd'.below (zAa hB Bz)).at 3 (.bool y.x.s') rfl
      have p51_4:=(hnd'.below (zAa hB Bz)).at 4 (.slice y.x.A' y.x.l' y.x.c') rfl
      refine hK.out _ _ ⟨p50_0,p50_1,p50_2,p50_3,p50_4,p51_0,p51_1,p51_2,p51_3,p51_4⟩ (fun _=>?_)
      try simp only[pUt,pLt,pZt,pSt]
      clear hK K
      iterate 2 (refine zAb (o:=⟨some _,_,_,_,_,_⟩) rfl rfl (fun w' ⟨p50_0,p50_1,p50_2,p50_3,p50_4,p51_0,p51_1,p51_2,p51_3,p51_4⟩=>by go_simp<;>with_reducible rfl) ?_;try simp only[pUt,pLt,pZt,pSt])
      refine zAe ?_
      go_wp2_with fail
      go_roundg (n-(i+1))
      case measure=>have:=HGK.out;omega
      case rel=>exact⟨i+1,by omega,rfl,by go_num,zAa (zAa hB Bz) (by go_grown),take_all HD.out HZI.out HP.out⟩
     ·have HQ:Hid (decide (x.x.q=y.x.q)=false):=Lib.hid (decide_eq_false hq)
      have HP:Hid (sameT (x,y)=false):=Lib.hid (by unfold sameT;rw[decide_eq_false hq,Bool.and_false])
      clear hat hq
      have Bz:=Below.refl wr.heap.size wr
      have p50_0:=(hnd.below (zAa hB Bz)).c0 (u:=.int .i64 x.at_) rfl
      have p50_1:=(hnd.below (zAa hB Bz)).at 1 (.bool x.x.s) rfl
      have p50_2:=(hnd.below (zAa hB Bz)).at 2 (.slice x.x.A x.x.l x.x.c) rfl
      have p50_3:=(hnd.below (zAa hB Bz)).at 3 (.bool x.x.s') rfl
      have p50_4:=(hnd.below (zAa hB Bz)).at 4 (.slice x.x.A' x.x.l' x.x.c') rfl
      have p51_0:=(hnd'.below (zAa hB Bz)).c0 (u:=.int .i64 y.at_) rfl
      have p51_1:=(hnd'.below (zAa hB Bz)).at 1 (.bool y.x.s) rfl
      have p51_2:=(hnd'.below (zAa hB Bz)).at 2 (.slice y.x.A y.x.l y.x.c) rfl
      have p51_3:=(hnd'.below (zAa hB Bz)).at 3 (.bool y.x.s') rfl
      have p51_4:=(hnd'.below (zAa hB Bz)).at 4 (.slice y.x.A' y.x.l' y.x.c') rfl
      go_wp2_with fail
      (try simp only[List.append_eq,List.cons_append,List.nil_append])
      refine zAc (.take 0 (.take 1 (.take 2 (.take 3 (.take 4 (.take 5 (.take 6 (.take 7 (.take 8 (.take 9 (.take 10 (.take 11 (.take 12 (.take 13 (.take 14 (.take 15 (.take 16 (.take 17 (.take 18 (.take 19 (.take 20 (.take 21 (.only 22 (.take 23 (.take 24 .done))))))))))))))))))))))))) [] (fun w'=>w'.cell? ⟨b,off+i*5,none⟩=some (.int .i64 x.at_)∧w'.cell? ⟨b,off+i*5+1,none⟩=some (.bool x.x.s)∧w'.cell? ⟨b,off+i*5+2,none⟩=some (.slice x.x.A x.x.l x.x.c)∧w'.cell? ⟨b,off+i*5+3,none⟩=some (.bool x.x.s')∧w'.cell? ⟨b,off+i*5+4,none⟩=some (.slice x.x.A' x.x.l' x.x.c')∧w'.cell? ⟨b',off'+i*5,none⟩=some (.int .i64 y.at_)∧w'.cell? ⟨b',off'+i*5+1,none⟩=some (.bool y.x.s)∧w'.cell? ⟨b',off'+i*5+2,none⟩=some (.slice y.x.A y.x.l y.x.c)∧w'.cell? ⟨b',off'+i*5+3,none⟩=some (.bool y.x.s')∧w'.cell? ⟨b',off'+i*5+4,none⟩=some (.slice y.x.A' y.x.l' y.x.c')) (by kernel_rfl) (by kernel_rfl) ⟨p50_0,p50_1,p50_2,p50_3,p50_4,p51_0,p51_1,p51_2,p51_3,p51_4⟩ ?_
      iterate 22 (refine zAb (o:=⟨some _,_,_,_,_,_⟩) rfl rfl (fun w' ⟨p50_0,p50_1,p50_2,p50_3,p50_4,p51_0,p51_1,p51_2,p51_3,p51_4⟩=>by go_simp<;>with_reducible rfl) ?_;try simp only[pUt,pLt,pZt,pSt])
      refine zAd (o:=⟨some 39,_,_,_,_,_⟩) rfl rfl (fun K hK=>?_)
      go_simp
      with_reducible refine(sameRat_rn (HRX.out.below (zAa hB (zAa (b:=wr) Bz (by go_grown)))) (HRY.out.below (zAa hB (zAa (b:=wr) Bz (by go_grown)))) hlx hly false HQ).mono ?_
      rintro e w1 ⟨rfl,b1⟩
      replace b1:=zAa (a:=wr) (by go_grown) b1
      replace Bz:=zAa Bz b1
      clear b1
      clear p50_0 p50_1 p50_2 p50_3 p50_4 p51_0 p51_1 p51_2 p51_3 p51_4
      have p50_0:=(hnd.below (zAa hB Bz)).c0 (u:=.int .i64 x.at_) rfl
      have p50_1:=(hnd.below (zAa hB Bz)).at 1 (.bool x.x.s) rfl
      have p50_2:=(hnd.below (zAa hB Bz)).at 2 (.slice x.x.A x.x.l x.x.c) rfl
      have p50_3:=(hnd.below (zAa hB Bz)).at 3 (.bool x.x.s') rfl
      have p50_4:=(hnd.below (zAa hB Bz)).at 4 (.slice x.x.A' x.x.l' x.x.c') rfl
      have p51_0:=(hnd'.below (zAa hB Bz)).c0 (u:=.int .i64 y.at_) rfl
      have p51_1:=(hnd'.below (zAa hB Bz)).at 1 (.bool y.x.s) rfl
      have p51_2:=(hnd'.below (zAa hB Bz)).at 2 (.slice y.x.A y.x.l y.x.c) rfl
      have p51_3:=(hnd'.below (zAa hB Bz)).at 3 (.bool y.x.s') rfl
      have p51_4:=(hnd'.below (zAa hB Bz)).at 4 (.slice y.x.A' y.x.l' y.x.c') rfl
      refine hK.out _ _ ⟨p50_0,p50_1,p50_2,p50_3,p50_4,p51_0,p51_1,p51_2,p51_3,p51_4⟩ (fun _=>?_)
      try simp only[pUt,pLt,pZt,pSt]
      clear hK K
      iterate 2 (refine zAb (o:=⟨some _,_,_,_,_,_⟩) rfl rfl (fun w' ⟨p50_0,p50_1,p50_2,p50_3,p50_4,p51_0,p51_1,p51_2,p51_3,p51_4⟩=>by go_simp<;>with_reducible rfl) ?_;try simp only[pUt,pLt,pZt,pSt])
      refine zAe ?_
      go_wp2_with fail
      go_ret
      have hF:=zAa (c:=w1) hB Bz
      obtain rfl:r=false:=by rw[←hra.out];exact all_no HZI.out HP.out
      exact⟨rfl,zAa (zAa hB Bz) (by go_grown)⟩
    ·have g1:(x.at_ != y.at_)=true:=by simpa using hat
     have HP:Hid (sameT (x,y)=false):=Lib.hid (by unfold sameT;rw[decide_eq_false hat,Bool.false_and])
     clear hat
     have Bz:=Below.refl wr.heap.size wr
     have p50_0:=(hnd.below (zAa hB Bz)).c0 (u:=.int .i64 x.at_) rfl
     have p51_0:=(hnd'.below (zAa hB Bz)).c0 (u:=.int .i64 y.at_) rfl
     go_wp2_with fail
     (try simp only[List.append_eq,List.cons_append,List.nil_append])
     refine zAc (.take 0 (.take 1 (.take 2 (.take 3 (.take 4 (.take 5 (.take 6 (.take 7 (.take 8 (.take 9 (.take 10 (.take 11 (.take 12 (.take 13 (.take 14 (.take 15 (.take 16 (.take 17 (.take 18 (.take 19 (.take 20 (.take 21 (.only 22 (.take 23 (.take 24 .done))))))))))))))))))))))))) [] (fun w'=>w'.cell? ⟨b,off+i*5,none⟩=some (.int .i64 x.at_)∧w'.cell? ⟨b',off'+i*5,none⟩=some (.int .i64 y.at_)) (by kernel_rfl) (by kernel_rfl) ⟨p50_0,p51_0⟩ ?_
     iterate 12 (refine zAb (o:=⟨some _,_,_,_,_,_⟩) rfl rfl (fun w' ⟨p50_0,p51_0⟩=>by go_simp<;>with_reducible rfl) ?_;try simp only[pUt,pLt,pZt,pSt])
     iterate 10 (refine wpPlan_skip (o:=⟨some _,_,_,_,_,_⟩) rfl rfl ?_;try simp only[pUt,pLt,pZt,pSt])
     refine wpPlan_pass (o:=⟨some 39,_,_,_,_,_⟩) rfl rfl ⟨p50_0,p51_0⟩ ?_
     try simp only[pUt,pLt,pZt,pSt]
     refine wpPlan_skip (o:=⟨some _,_,_,_,_,_⟩) rfl rfl ?_
     try simp only[pUt,pLt,pZt,pSt]
     refine zAb (o:=⟨some _,_,_,_,_,_⟩) rfl rfl (fun w' ⟨p50_0,p51_0⟩=>by go_simp<;>with_reducible rfl) ?_
     try simp only[pUt,pLt,pZt,pSt]
     refine zAe ?_
     go_wp2_with fail
     go_ret
     have hF:=zAa (c:=wr) hB Bz
     obtain rfl:r=false:=by rw[←hra.out];exact all_no HZI.out HP.out
     exact⟨rfl,zAa (zAa hB Bz) (by go_grown)⟩
   ·obtain rfl:i=n:=by omega
    have i1:¬(i:Int)<(i:Int):=by omega
    obtain rfl:r=true:=by rw[←hra.out];exact all_yes HZL.out HD.out
    go_wp2_with fail
    go_ret
    exact⟨rfl,hB⟩
 ·have g0:((n:Int) !=(n':Int))=true:=by simp;omega
  obtain rfl:r=false:=by rw[←hr.out];exact decide_eq_false (fun e=>hnn (by have e2:=congrArg List.length e;rw[prs_len,prs_len,HLN.out,HMN.out] at e2;exact e2))
  clear hr
  go_enter Tryz.func25,Tryz.ntmps25
  go_wp2_with fail
  go_ret
  exact⟨rfl,Below.refl _ _⟩
end Go.Proofs.YtldcfmangolkoaaGreatDoor
