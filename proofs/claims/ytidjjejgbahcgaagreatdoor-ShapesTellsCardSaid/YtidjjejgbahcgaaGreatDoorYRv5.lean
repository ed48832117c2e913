/-
  tripwireref05.Put, Dense, sameWords, Right. Written by wip/gen/rv5.py.
-/
import Derived.Test.YtidjjejgbahcgaaGreatDoorYPg
import Derived.Test.YtidjjejgbahcgaaGreatDoorYCp0
set_option maxHeartbeats 16000000
set_option maxRecDepth 100000
namespace Go.Proofs.YtidjjejgbahcgaaGreatDoor
open Go.RowKit Tw
theorem sameWordsR_any {w:World} {A A':Option Addr} {c c':Nat} {xs ys:List Nat} (h:Nums w A c xs) (h':Nums w A' c' ys) (hl:xs.length≤800000) (hl':ys.length≤800000) (t:Bool) (ht:decide (xs=ys)=t) :
  Calls Tryz.prog 63 #[.slice A xs.length c,.slice A' ys.length c'] w fun e w'=>e=.returned (.bool t)∧Below w.heap.size w w':=by
 by_cases hn:xs.length=ys.length
 ·obtain⟨n,hn1⟩:∃n,n=xs.length:=⟨_,rfl⟩;rw[←hn,←hn1];rw[←hn1] at hl;have g0:((n:Int) !=(n:Int))=false:=by simp
  have H:=zh h;have H':=zh h';have HN:=zh hn;have HN1:=zh hn1;have HT:=zh ht;have hst:EQ1 w xs ys n n (.int .i64 ((0:Nat):Int)) w:=⟨0,Nat.zero_le _,rfl,rfl,Below.refl _ _,fun j hj=>by omega⟩;have HST:=zh hst;clear h h' hn hn1 ht hst hl';go_enter Tryz.func63,Tryz.ntmps63
  go_wp2_with fail
  go_loopg [5] n (fun gk s wr=>EQ1 w xs ys n gk s wr)
  case atStart=>exact HST.out
  case round =>
   clear HST;obtain⟨i,hi,hgk,rfl,hB,hd⟩:=hrel;have HGK:=zh hgk;have HD:=zh hd;clear hgk hd;by_cases hlt:i<n
   ·obtain⟨b1,o1,rfl,e1⟩:=H.out.cells (by rw[←HN1.out];omega);obtain⟨b2,o2,rfl,e2⟩:=H'.out.cells (by rw[←HN.out,←HN1.out];omega);replace e1:=e1 i (by rw[←HN1.out];exact hlt);replace e2:=e2 i (by rw[←HN.out,←HN1.out];exact hlt);obtain⟨d1,h1⟩:∃d,d=dg xs i:=⟨_,rfl⟩;obtain⟨d2,h2⟩:∃d,d=dg ys i:=⟨_,rfl⟩;rw[←h1] at e1;rw[←h2] at e2;have D1:=zh h1;have D2:=zh h2;replace e1:=(hB.cell (World.block_lt_of_cell? w _ e1)).trans e1;replace e2:=(hB.cell (World.block_lt_of_cell? w _ e2)).trans e2;have i1:(i:Int)<(n:Int):=zo;have i2:(0:Int)≤(i:Int):=zo;clear h1 h2;by_cases he:d1=d2
    ·have g1:((d1:Int) !=(d2:Int))=false:=by simp[he]
     have HE:=zh he;clear he;have Bz:=zr wr;have pB0:=(Bz.cell (World.block_lt_of_cell? wr _ e1)).trans e1;have pC0:=(Bz.cell (World.block_lt_of_cell? wr _ e2)).trans e2;go_wp2_with fail
     (try simp only[vAa,vB,vC])
     refine zl (zz [0,1,2,3,4,5,6,7,8] .done) [] (zsa pB0 (zI pC0)) ?_;iterate 9 (refine zU ?_;try simp only[uW,uX,uY,uZ])
     refine wpPlan_done ?_;go_wp2_with fail
     go_roundg (n-(i+1))
     case measure=>have:=HGK.out;omega
     case rel=>exact⟨i+1,zo,rfl,by go_num,bT (bT hB Bz),fun j hj=>by
      rcases Nat.lt_or_ge j i with h1 | h1
      ·exact HD.out j h1
      ·obtain rfl:j=i:=zo;rw[←D1.out,←D2.out];exact HE.out⟩
    ·have g1:((d1:Int) !=(d2:Int))=true:=by simp;omega
     have HE:=zh he;clear he;have Bz:=zr wr;have pB0:=(Bz.cell (World.block_lt_of_cell? wr _ e1)).trans e1;have pC0:=(Bz.cell (World.block_lt_of_cell? wr _ e2)).trans e2;go_wp2_with fail
     (try simp only[vAa,vB,vC])
     refine zl (zz [0,1,2,3,4,5,6,7,8] .done) [] (zsa pB0 (zI pC0)) ?_;iterate 9 (refine zU ?_;try simp only[uW,uX,uY,uZ])
     refine wpPlan_done ?_;go_wp2_with fail
     go_ret
     have hF:=bT (c:=wr) hB Bz;obtain rfl:t=false:=by rw[←HT.out];simp;intro e;apply HE.out;rw[D1.out,D2.out,e]
     exact⟨rfl,bT (bT hB Bz)⟩
   ·obtain rfl:i=n:=zo;have i1:¬(i:Int)<(i:Int):=zo;obtain rfl:t=true:=by rw[←HT.out];simp;exact dg_ext HN.out (by rw[←HN1.out];exact HD.out)
    go_wp2_with fail
    go_ret
    exact⟨rfl,hB⟩
 ·obtain rfl:t=false:=by rw[←ht];simp;rintro rfl;exact hn rfl
  have g1:((xs.length:Int) !=(ys.length:Int))=true:=by simp;omega
  clear ht h h' hn;go_enter Tryz.func63,Tryz.ntmps63
  go_wp2_with fail
  go_ret
  exact⟨rfl,Below.refl _ _⟩
theorem sameWordsR_n {w:World} {A A':Option Addr} {c c' l l':Nat} {xs ys:List Nat} (h:Nx w A c l xs) (h':Nx w A' c' l' ys) (hl:l≤800000) (hl':l'≤800000) (t:Bool) (ht:Hid (decide (xs=ys)=t)) :
  Calls Tryz.prog 63 #[.slice A l c,.slice A' l' c'] w fun e w'=>e=.returned (.bool t)∧Below w.heap.size w w':=by
 obtain⟨h1,rfl⟩:=h;obtain⟨h2,rfl⟩:=h';exact sameWordsR_any h1 h2 hl hl' t ht.out
theorem I.inj {w:World} {b:Bool} {A:Option Addr} {c l:Nat} {y z:Int} (h:I w b A c l y) (k:I w b A c l z):y=z:=by
 obtain⟨n,⟨xs,h1,h2,h3⟩,rfl⟩:=h;obtain⟨m,⟨ys,k1,k2,k3⟩,rfl⟩:=k;rw[←h3,←k3,h1.inj k1 (h2.trans k2.symm)]
theorem R.inj {w:World} {s s':Bool} {A A':Option Addr} {c l c' l':Nat} {p q:Rat} {m m':Nat} (h:R w s A c l s' A' c' l' p m) (k:R w s A c l s' A' c' l' q m'):p=q:=by
 obtain⟨n,d,h1,h2,h3,_⟩:=h;obtain⟨n',d',k1,k2,k3,_⟩:=k;rw[h3,k3,h1.inj k1,h2.inj k2]
theorem j_dg {w:World} {b:Bool} {A:Option Addr} {c l:Nat} {z:Int} {xs:List Nat} (h:J w b A c l z) (k:Nx w A c l xs):xs=limbs z.natAbs:=k.1.inj h.1.1 (k.2.trans (by have:=h.1.2;rw[←this];rfl))
theorem rr_pass {w:World} {x y:Fr} {d e:Dg} {m:Nat} (hx:FrOk w m x) (hy:RN w y.s y.A y.c y.l y.s' y.A' y.c' y.l' y.q) (hd:FrD w d x) (he:FrD w e y) (h1:x.s=y.s) (h2:x.s'=y.s') (h3:d.xs=e.xs) (h4:d.xs'=e.xs'):x.ex=true∧x.q=y.q:=by
 have e1:=j_dg hy.1 he.2.2.1;have e2:=j_dg hy.2 he.2.2.2;have l1:x.l=y.l:=by rw[←hd.2.2.1.2,←he.2.2.1.2,h3]
 have l2:x.l'=y.l':=by rw[←hd.2.2.2.2,←he.2.2.2.2,h4]
 have hj:RN w x.s x.A x.c x.l x.s' x.A' x.c' x.l' y.q:=by
  refine⟨⟨⟨?_,?_⟩,?_⟩,⟨⟨?_,?_⟩,?_⟩⟩
  ·rw[←e1,←h3];exact hd.2.2.1.1
  ·rw[l1];exact hy.1.1.2
  ·rw[h1];exact hy.1.2
  ·rw[←e2,←h4];exact hd.2.2.2.1
  ·rw[l2];exact hy.2.1.2
  ·rw[h2];exact hy.2.2
 have hq:x.q=y.q:=hx.r.inj hj.r;refine⟨hx.rn.2 ?_,hq⟩;rw[hq];exact hj
theorem rr_same {w:World} {x y:Fr} {d e:Dg} {m:Nat} (hx:FrOk w m x) (hex:x.ex=true) (hy:RN w y.s y.A y.c y.l y.s' y.A' y.c' y.l' y.q) (hq:x.q=y.q) (hd:FrD w d x) (he:FrD w e y):x.s=y.s∧x.s'=y.s'∧d.xs=e.xs∧d.xs'=e.xs':=by
 have hn:=hx.rn.1 hex;rw[hq] at hn;exact⟨hn.1.2.trans hy.1.2.symm,hn.2.2.trans hy.2.2.symm,(j_dg hn.1 hd.2.2.1).trans (j_dg hy.1 he.2.2.1).symm,(j_dg hn.2 hd.2.2.2).trans (j_dg hy.2 he.2.2.2).symm⟩
def RRi (L Y:List Tm) (kn:Int) (i:Nat):Prop:=∀(j:Nat) x y,j<i→L[j]?=some x→Y[j]?=some y→x.at_=y.at_∧0≤x.at_∧x.at_<kn∧x.x.ex=true∧x.x.q=y.x.q
theorem RRi.step {L Y:List Tm} {kn:Int} {i:Nat} {x y:Tm} (h:RRi L Y kn i) (hx:L[i]?=some x) (hy:Y[i]?=some y) (ha:x.at_=y.at_∧0≤x.at_∧x.at_<kn∧x.x.ex=true∧x.x.q=y.x.q):RRi L Y kn (i+1):=fun j u v hj hu hv=>by
 rcases Nat.lt_or_ge j i with h1 | h1
 ·exact h j u v h1 hu hv
 ·obtain rfl:j=i:=zo;rw[hx,Option.some.injEq] at hu;rw[hy,Option.some.injEq] at hv;rw[←hu,←hv];exact ha
theorem rr_no {w:World} {L Y:List Tm} {kn:Int} {i m:Nat} {x y:Tm} {d e:Dg} {r:Bool} (hr:rightB L kn=r) (hY:prs Y=nrm (prs L)) (hx:L[i]?=some x) (hy:Y[i]?=some y) (fx:FrOk w m x.x) (fy:RN w y.x.s y.x.A y.x.c y.x.l y.x.s' y.x.A' y.x.c' y.x.l' y.x.q) (hd:FrD w d x.x) (he:FrD w e y.x)
  (hn:¬(x.at_=y.at_∧0≤x.at_∧x.at_<kn∧x.x.s=y.x.s∧x.x.s'=y.x.s'∧d.xs=e.xs∧d.xs'=e.xs')):r=false:=by
 rw[←hr];cases h:rightB L kn
 ·rfl
 ·have h1:=rightB_nrm h;have h2:prs Y=prs L:=hY.trans (nrm_eq h1.1 fun a=>rfl);have h3:(prs Y)[i]?=(prs L)[i]?:=by rw[h2]
  rw[prs_get hx,prs_get hy,Option.some.injEq,Prod.mk.injEq] at h3;have h4:=h1.2 x (List.mem_of_getElem? hx);exact absurd ⟨h3.1.symm,h4.1,h4.2.1,rr_same fx h4.2.2 fy h3.2.symm hd he⟩ hn
theorem rr_len {L:List Tm} {kn:Int} {n:Nat} {r:Bool} (hr:rightB L kn=r) (hl:(nrm (prs L)).length=n) (hn:n≠L.length):r=false:=by
 rw[←hr];cases h:rightB L kn
 ·rfl
 ·have h1:=rightB_nrm h;rw[nrm_eq h1.1 fun a=>rfl,prs_len] at hl;exact absurd hl.symm hn
theorem rr_yes {L Y:List Tm} {kn:Int} {i:Nat} {r:Bool} (hr:rightB L kn=r) (hY:prs Y=nrm (prs L)) (hl:L.length=i) (hl':Y.length=i) (h:RRi L Y kn i):r=true:=by
 have h1:prs L=prs Y:=by
  apply List.ext_getElem?
  intro j;rcases Nat.lt_or_ge j i with hj | hj
  ·have e1:L[j]?=some (L[j]'zo):=List.getElem?_eq_getElem _;have e2:Y[j]?=some (Y[j]'zo):=List.getElem?_eq_getElem _;have h2:=h j _ _ hj e1 e2;rw[prs_get e1,prs_get e2,h2.1,h2.2.2.2.2]
  ·rw[List.getElem?_eq_none (by rw[prs_len];omega),List.getElem?_eq_none (by rw[prs_len];omega)]
 rw[←hr];refine rightB_of (by rw[h1,hY];exact nrm_nrm _) fun t ht=>?_;obtain⟨j,hj⟩:=List.getElem?_of_mem ht;have hji:=(List.getElem?_eq_some_iff.1 hj).1;have e2:Y[j]?=some (Y[j]'zo):=List.getElem?_eq_getElem _;have h2:=h j _ _ zo hj e2;exact⟨h2.2.1,h2.2.2.1,h2.2.2.2.1⟩
def RR1 (w W:World) (L Y:List Tm) (kn:Int) (n gk:Nat) (s:Value) (wr:World):Prop:=∃i:Nat,i≤n∧n-i=gk∧s=.int .i64 (i:Int)∧RRi L Y kn i∧Below w.heap.size w wr∧Below W.heap.size W wr
theorem rightR_q {w:World} {X:Option Addr} {n cx M:Nat} {L:List Tm} {kn:Int} (h:GV w X n cx (prs L) M) (hs:Sl Tm.cs 5 w X n cx L) (hok:Hid (∀t∈L,FrOk w 800000 t.x)) (hM:M≤870) (hn:n≤1000) (r:Bool) (hr:Hid (rightB L kn=r)) (hT:Hid (Tab w)) :
  Calls Tryz.prog 42 #[.slice X n cx,.int .i64 kn] w fun e w'=>e=.returned (.bool r)∧Below w.heap.size w w':=by
 have HGX:=zh h;have HSX:=zh hs;have HLN:=zh hs.1;clear h hs;have hB:=Below.refl w.heap.size w;have Bz:=zr w;go_enter Tryz.func42,Tryz.ntmps42
 go_wp2_with fail
 with_reducible refine(normR_q (HGX.out.below (bT hB (bT (b:=w) Bz))) hM zo (zt hT hB Bz)).mono ?_
 rintro e w1 ⟨A1,n1,c1,rfl,h1,b1⟩;replace b1:=zq (a:=w) b1;replace Bz:=bT Bz b1;clear b1;have HV:=zh h1;clear h1;by_cases hnn:n1=n
 ·have hnn2:=hnn.symm;subst hnn2;have g0:((n:Int) !=(n:Int))=false:=by simp
  obtain⟨Y,y1,y2,y3,y4⟩:=HV.out;have HSY:=zh y1;have HLY:=zh y1.1;have HOY:=zh y2;have HYP:=zh y3;clear y1 y2 y3 y4 hnn;go_wp2_with fail
  have HB1:=zh (bT hB Bz);clear hB Bz HV;go_loopg [6] n (fun gk s wr=>RR1 w w1 L Y kn n gk s wr)
  case atStart=>exact⟨0,Nat.zero_le _,rfl,by go_num,(fun j x y hj=>by omega),bT HB1.out,by go_grown⟩
  case round =>
   clear HB1;obtain⟨i,hi,hgk,rfl,hrr,hB,hBW⟩:=hrel;have HGK:=zh hgk;have HRR:=zh hrr;clear hgk hrr;by_cases hlt:i<n
   ·obtain⟨b,off,rfl,hel⟩:=HSX.out.at Tm.cs_len zo zo;obtain⟨b',off',rfl,hel'⟩:=HSY.out.at Tm.cs_len zo zo;obtain⟨x,ex⟩:∃x,L[i]?=some x:=⟨L[i]'(by rw[HLN.out];exact hlt),List.getElem?_eq_getElem _⟩;obtain⟨y,ey⟩:∃y,Y[i]?=some y:=⟨Y[i]'(by rw[HLY.out];exact hlt),List.getElem?_eq_getElem _⟩;have hnd:=hel i x ex;have hnd':=hel' i y ey;have HEX:=zh ex;have HEY:=zh ey;have hfx0:=hok.out x (List.mem_of_getElem? ex);have hfy0:=(HOY.out y (List.mem_of_getElem? ey)).1;have hfy1:=(HOY.out.fr (fun _=>Nat.le_refl _)) y (List.mem_of_getElem? ey);have i1:(i:Int)<(n:Int):=zo;have i2:(0:Int)≤(i:Int):=zo;clear hel hel' ex ey;go_upto_region 7 with(fail)
    go_cut [7,8] (fun p q wx=>∃b7 b8:Nat,p=.pointer (some ⟨b7,0,none⟩)∧q=.pointer (some ⟨b8,0,none⟩)∧Bx wx b7 #[.bool x.x.s,.slice x.x.A x.x.l x.x.c,.bool x.x.s',.slice x.x.A' x.x.l' x.x.c'] 65∧Bx wx b8 #[.bool y.x.s,.slice y.x.A y.x.l y.x.c,.bool y.x.s',.slice y.x.A' y.x.l' y.x.c'] 65∧Below w.heap.size w wx∧Below w1.heap.size w1 wx∧b7≠b8)
    case first =>
     have Bz:=zr wr;obtain⟨-,pA1,pA2,pA3,pA4,-⟩:=(hnd.below (bT hB Bz)).ez;obtain⟨-,pB1,pB2,pB3,pB4,-⟩:=(hnd'.below (bT hBW Bz)).ez;go_wp2_with fail
     (try simp only[vAa,vB,vC])
     refine zl (.pure 0 (.pure 1 (.pure 2 (.pure 3 (.take 4 (.pure 5 (.pure 6 (.pure 7 (.pure 8 (.take 9 (.two 10 (.only 11 (.only 12 (.only 13 .done))) 11 (.only 10 (.only 12 (.only 13 .done)))))))))))))) [13] (zsa pA1 (zsa pA2 (zsa pA3 (zsa pA4 (zsa pB1 (zsa pB2 (zsa pB3 (zI pB4)))))))) ?_;iterate 4 (refine zV ?_;try simp only[uW,uX,uY,uZ])
     refine zU ?_;try simp only[uW,uX,uY,uZ]
     iterate 4 (refine zV ?_;try simp only[uW,uX,uY,uZ])
     refine zU ?_;try simp only[uW,uX,uY,uZ]
     refine wpPlan_two (o:=⟨some 7,_,_,_,_,_⟩) (o':=⟨some 8,_,_,_,_,_⟩) rfl rfl rfl rfl (fun K hK=>?_) (fun K hK=>?_)
     ·go_simp
      refine hK.out _ _ ⟨(zAa pA1),(zAa pA2),(zAa pA3),(zAa pA4),(zAa pB1),(zAa pB2),(zAa pB3),(zAa pB4)⟩ (fun _=>?_);try simp only[uW,uX,uY,uZ]
      clear hK K;refine zC 8 rfl rfl (fun K hK=>?_);go_simp
      refine hK.out _ _ ⟨(zAa (zAa pA1)),(zAa (zAa pA2)),(zAa (zAa pA3)),(zAa (zAa pA4)),(zAa (zAa pB1)),(zAa (zAa pB2)),(zAa (zAa pB3)),(zAa (zAa pB4))⟩ (fun _=>?_);try simp only[uW,uX,uY,uZ]
      clear hK K;refine wpPlan_call (o:=⟨none,_,_,_,_,_⟩) rfl rfl (fun K hK=>?_);go_simp
      refine hK.out _ _ ⟨(zAa (zAa pA1)),(zAa (zAa pA2)),(zAa (zAa pA3)),(zAa (zAa pA4)),(zAa (zAa pB1)),(zAa (zAa pB2)),(zAa (zAa pB3)),(zAa (zAa pB4))⟩ (fun _=>?_);try simp only[Act.put,uX,uY,uZ]
      clear hK K;refine wpPlan_late (o:=⟨none,_,_,_,_,_⟩) rfl rfl zd (fun K hK=>?_);go_simp
      refine hK.out _ _ ?_;try simp only[Act.put,uX,uY,uZ]
      clear hK K;refine wpPlan_done ?_;obtain⟨V11,hW,x0,x1,hN⟩:=zAh wr #[.bool x.x.s,.slice x.x.A x.x.l x.x.c,.bool x.x.s',.slice x.x.A' x.x.l' x.x.c'] 65 #[.bool y.x.s,.slice y.x.A y.x.l y.x.c,.bool y.x.s',.slice y.x.A' y.x.l' y.x.c'] 65;rw[←hW];clear hW;obtain⟨v1,hb1⟩:=ze (wr.heap.size+1);rw[←hb1] at x1 ⊢;obtain⟨v0,hb0⟩:=ze wr.heap.size;rw[←hb0] at x0 ⊢;have ow_0:w.heap.size≤v0:=zi (zw hB Bz);have o0_1:v0<v1:=zo;have ow_1:w.heap.size≤v1:=zi (zw hB Bz);replace hB:=bT (bT hB Bz) hN;replace hBW:=bT (bT hBW Bz) hN;have HX0:=zh x0;have HX1:=zh x1;clear x0 x1 hN Bz hb0 hb1;have Bz:=zr V11;clear pA1 pA2 pA3 pA4 pB1 pB2 pB3 pB4;go_wp2_with fail
      go_meet
      case rel=>exact⟨_,_,rfl,rfl,HX0.out.below (bT Bz),HX1.out.below (bT Bz),bT (bT hB Bz),bT (bT hBW Bz),zo⟩
     ·go_simp
      refine hK.out _ _ ⟨(zAa pA1),(zAa pA2),(zAa pA3),(zAa pA4),(zAa pB1),(zAa pB2),(zAa pB3),(zAa pB4)⟩ (fun _=>?_);try simp only[uW,uX,uY,uZ]
      clear hK K;refine zC 7 rfl rfl (fun K hK=>?_);go_simp
      refine hK.out _ _ ⟨(zAa (zAa pA1)),(zAa (zAa pA2)),(zAa (zAa pA3)),(zAa (zAa pA4)),(zAa (zAa pB1)),(zAa (zAa pB2)),(zAa (zAa pB3)),(zAa (zAa pB4))⟩ (fun _=>?_);try simp only[uW,uX,uY,uZ]
      clear hK K;refine wpPlan_call (o:=⟨none,_,_,_,_,_⟩) rfl rfl (fun K hK=>?_);go_simp
      refine hK.out _ _ ⟨(zAa (zAa pA1)),(zAa (zAa pA2)),(zAa (zAa pA3)),(zAa (zAa pA4)),(zAa (zAa pB1)),(zAa (zAa pB2)),(zAa (zAa pB3)),(zAa (zAa pB4))⟩ (fun _=>?_);try simp only[Act.put,uX,uY,uZ]
      clear hK K;refine wpPlan_late (o:=⟨none,_,_,_,_,_⟩) rfl rfl zd (fun K hK=>?_);go_simp
      refine hK.out _ _ ?_;try simp only[Act.put,uX,uY,uZ]
      clear hK K;refine wpPlan_done ?_;obtain⟨V11,hW,x0,x1,hN⟩:=zAh wr #[.bool y.x.s,.slice y.x.A y.x.l y.x.c,.bool y.x.s',.slice y.x.A' y.x.l' y.x.c'] 65 #[.bool x.x.s,.slice x.x.A x.x.l x.x.c,.bool x.x.s',.slice x.x.A' x.x.l' x.x.c'] 65;rw[←hW];clear hW;obtain⟨v1,hb1⟩:=ze (wr.heap.size+1);rw[←hb1] at x1 ⊢;obtain⟨v0,hb0⟩:=ze wr.heap.size;rw[←hb0] at x0 ⊢;have ow_0:w.heap.size≤v0:=zi (zw hB Bz);have o0_1:v0<v1:=zo;have ow_1:w.heap.size≤v1:=zi (zw hB Bz);replace hB:=bT (bT hB Bz) hN;replace hBW:=bT (bT hBW Bz) hN;have HX0:=zh x0;have HX1:=zh x1;clear x0 x1 hN Bz hb0 hb1;have Bz:=zr V11;clear pA1 pA2 pA3 pA4 pB1 pB2 pB3 pB4;go_wp2_with fail
      go_meet
      case rel=>exact⟨_,_,rfl,rfl,HX1.out.below (bT Bz),HX0.out.below (bT Bz),bT (bT hB Bz),bT (bT hBW Bz),zo⟩
    case rest =>
     obtain⟨b7,b8,rfl,rfl,hx7,hx8,hB2,hBW2,h78⟩:=hcut;obtain⟨wx,rfl,hB3⟩:∃wx,wx=_∧Below w.heap.size w wx:=⟨_,rfl,hB2⟩;replace hB:=hB3;replace hBW:=hBW2;clear hB2 hB3 hBW2;have HX0:=zh hx7;have HX1:=zh hx8;have hfx:=hfx0.below hB;have hfy:=hfy0.below hBW;obtain⟨d,hd⟩:=hfx.dg;obtain⟨e,he⟩:=(hfy1.below hBW).dg;have HDX:=zh hd;have HDY:=zh he;have HFX:=zh hfx;have HFY:=zh hfy;have q1:=hfx.r.len;have q2:=(hfy1.below hBW).r.len;clear hx7 hx8 hd he hfx hfy hfx0 hfy0 hfy1;by_cases hc:x.at_=y.at_
     rotate_left
     ·have HC:Hid (¬x.at_=y.at_):=zh hc;have g1:(x.at_ != y.at_)=true:=by simpa using hc
      clear hc;have Bz:=zr wx;have pA0:=(hnd.below (bT hB Bz)).c0 (u:=.int .i64 x.at_) rfl;have pB0:=(hnd'.below (bT hBW Bz)).c0 (u:=.int .i64 y.at_) rfl;go_wp2_with fail
      (try simp only[vAa,vB,vC])
      refine zl (zz [0,1,2,3,4,5,6,7,8,9,10,11,12,13,14,15,16,17,18,19,20,21,22,23,24,25,26,27,28,29,30,31,32,33,34,35,36,37,38,39,40,41,42,43,44,45,46,47,48,49,50,51,52] (.only 53 (zz [54,55,56,57,58,59,60,61,62] (.only 63 (zz [64,65] .done))))) [] (zsa pA0 (zI pB0)) ?_;iterate 12 (refine zU ?_;try simp only[uW,uX,uY,uZ])
      iterate 6 (refine zN rfl rfl ?_;try simp only[uW,uX,uY,uZ])
      iterate 2 (refine zU ?_;try simp only[uW,uX,uY,uZ])
      iterate 7 (refine zN rfl rfl ?_;try simp only[uW,uX,uY,uZ])
      iterate 2 (refine zU ?_;try simp only[uW,uX,uY,uZ])
      iterate 7 (refine zN rfl rfl ?_;try simp only[uW,uX,uY,uZ])
      iterate 2 (refine zU ?_;try simp only[uW,uX,uY,uZ])
      iterate 7 (refine zN rfl rfl ?_;try simp only[uW,uX,uY,uZ])
      iterate 2 (refine zU ?_;try simp only[uW,uX,uY,uZ])
      iterate 6 (refine zN rfl rfl ?_;try simp only[uW,uX,uY,uZ])
      refine wpPlan_pass (o:=⟨some 85,_,_,_,_,_⟩) rfl rfl ⟨pA0,pB0⟩ ?_;try simp only[uW,uX,uY,uZ]
      refine zN rfl rfl ?_;try simp only[uW,uX,uY,uZ]
      iterate 2 (refine zU ?_;try simp only[uW,uX,uY,uZ])
      iterate 6 (refine zN rfl rfl ?_;try simp only[uW,uX,uY,uZ])
      refine wpPlan_pass (o:=⟨some 95,_,_,_,_,_⟩) rfl rfl ⟨pA0,pB0⟩ ?_;try simp only[uW,uX,uY,uZ]
      refine zN rfl rfl ?_;try simp only[uW,uX,uY,uZ]
      refine zU ?_;try simp only[uW,uX,uY,uZ]
      refine wpPlan_done ?_;go_wp2_with fail
      go_ret
      have hF:=bT (c:=wx) hB Bz;obtain rfl:r=false:=rr_no hr.out HYP.out HEX.out HEY.out HFX.out HFY.out HDX.out HDY.out (fun h=>HC.out h.1);exact⟨rfl,bT hF⟩
     have HK0:=zh hc;have g1:(x.at_ != y.at_)=false:=by simpa using hc
     clear hc;by_cases hc:0≤x.at_
     rotate_left
     ·have HC:Hid (¬0≤x.at_):=zh hc;have g2:decide (x.at_<0)=true:=decide_eq_true zo;clear hc;have Bz:=zr wx;have pA0:=(hnd.below (bT hB Bz)).c0 (u:=.int .i64 x.at_) rfl;have pB0:=(hnd'.below (bT hBW Bz)).c0 (u:=.int .i64 y.at_) rfl;go_wp2_with fail
      (try simp only[vAa,vB,vC])
      refine zl (zz [0,1,2,3,4,5,6,7,8,9,10,11,12,13,14,15,16,17,18,19,20,21,22,23,24,25,26,27,28,29,30,31,32,33,34,35,36,37,38,39,40,41,42,43,44,45,46,47,48,49,50,51,52] (.only 53 (zz [54,55,56,57,58,59,60,61,62] (.only 63 (zz [64,65] .done))))) [] (zsa pA0 (zI pB0)) ?_;iterate 20 (refine zU ?_;try simp only[uW,uX,uY,uZ])
      iterate 7 (refine zN rfl rfl ?_;try simp only[uW,uX,uY,uZ])
      iterate 2 (refine zU ?_;try simp only[uW,uX,uY,uZ])
      iterate 7 (refine zN rfl rfl ?_;try simp only[uW,uX,uY,uZ])
      iterate 2 (refine zU ?_;try simp only[uW,uX,uY,uZ])
      iterate 7 (refine zN rfl rfl ?_;try simp only[uW,uX,uY,uZ])
      iterate 2 (refine zU ?_;try simp only[uW,uX,uY,uZ])
      iterate 6 (refine zN rfl rfl ?_;try simp only[uW,uX,uY,uZ])
      refine wpPlan_pass (o:=⟨some 85,_,_,_,_,_⟩) rfl rfl ⟨pA0,pB0⟩ ?_;try simp only[uW,uX,uY,uZ]
      refine zN rfl rfl ?_;try simp only[uW,uX,uY,uZ]
      iterate 2 (refine zU ?_;try simp only[uW,uX,uY,uZ])
      iterate 6 (refine zN rfl rfl ?_;try simp only[uW,uX,uY,uZ])
      refine wpPlan_pass (o:=⟨some 95,_,_,_,_,_⟩) rfl rfl ⟨pA0,pB0⟩ ?_;try simp only[uW,uX,uY,uZ]
      refine zN rfl rfl ?_;try simp only[uW,uX,uY,uZ]
      refine zU ?_;try simp only[uW,uX,uY,uZ]
      refine wpPlan_done ?_;go_wp2_with fail
      go_ret
      have hF:=bT (c:=wx) hB Bz;obtain rfl:r=false:=rr_no hr.out HYP.out HEX.out HEY.out HFX.out HFY.out HDX.out HDY.out (fun h=>absurd h.2.1 (zi HC.out));exact⟨rfl,bT hF⟩
     have HK1:=zh hc;have g2:decide (x.at_<0)=false:=decide_eq_false zo;clear hc;by_cases hc:x.at_<kn
     rotate_left
     ·have HC:Hid (¬x.at_<kn):=zh hc;have g3:decide (kn≤x.at_)=true:=decide_eq_true zo;clear hc;have Bz:=zr wx;have pA0:=(hnd.below (bT hB Bz)).c0 (u:=.int .i64 x.at_) rfl;have pB0:=(hnd'.below (bT hBW Bz)).c0 (u:=.int .i64 y.at_) rfl;go_wp2_with fail
      (try simp only[vAa,vB,vC])
      refine zl (zz [0,1,2,3,4,5,6,7,8,9,10,11,12,13,14,15,16,17,18,19,20,21,22,23,24,25,26,27,28,29,30,31,32,33,34,35,36,37,38,39,40,41,42,43,44,45,46,47,48,49,50,51,52] (.only 53 (zz [54,55,56,57,58,59,60,61,62] (.only 63 (zz [64,65] .done))))) [] (zsa pA0 (zI pB0)) ?_;iterate 29 (refine zU ?_;try simp only[uW,uX,uY,uZ])
      iterate 7 (refine zN rfl rfl ?_;try simp only[uW,uX,uY,uZ])
      iterate 2 (refine zU ?_;try simp only[uW,uX,uY,uZ])
      iterate 7 (refine zN rfl rfl ?_;try simp only[uW,uX,uY,uZ])
      iterate 2 (refine zU ?_;try simp only[uW,uX,uY,uZ])
      iterate 6 (refine zN rfl rfl ?_;try simp only[uW,uX,uY,uZ])
      refine wpPlan_pass (o:=⟨some 85,_,_,_,_,_⟩) rfl rfl ⟨pA0,pB0⟩ ?_;try simp only[uW,uX,uY,uZ]
      refine zN rfl rfl ?_;try simp only[uW,uX,uY,uZ]
      iterate 2 (refine zU ?_;try simp only[uW,uX,uY,uZ])
      iterate 6 (refine zN rfl rfl ?_;try simp only[uW,uX,uY,uZ])
      refine wpPlan_pass (o:=⟨some 95,_,_,_,_,_⟩) rfl rfl ⟨pA0,pB0⟩ ?_;try simp only[uW,uX,uY,uZ]
      refine zN rfl rfl ?_;try simp only[uW,uX,uY,uZ]
      refine zU ?_;try simp only[uW,uX,uY,uZ]
      refine wpPlan_done ?_;go_wp2_with fail
      go_ret
      have hF:=bT (c:=wx) hB Bz;obtain rfl:r=false:=rr_no hr.out HYP.out HEX.out HEY.out HFX.out HFY.out HDX.out HDY.out (fun h=>absurd h.2.2.1 (zi HC.out));exact⟨rfl,bT hF⟩
     have HK2:=zh hc;have g3:decide (kn≤x.at_)=false:=decide_eq_false zo;clear hc;by_cases hc:x.x.s=y.x.s
     rotate_left
     ·have HC:Hid (¬x.x.s=y.x.s):=zh hc;have g4:(x.x.s==y.x.s)=false:=by simpa using hc
      clear hc;have Bz:=zr wx;have pa0:=(zxb HX0 Bz).cell 0 (.bool x.x.s) rfl;have pb0:=(zxb HX1 Bz).cell 0 (.bool y.x.s) rfl;have pA0:=(hnd.below (bT hB Bz)).c0 (u:=.int .i64 x.at_) rfl;have pB0:=(hnd'.below (bT hBW Bz)).c0 (u:=.int .i64 y.at_) rfl;go_wp2_with fail
      (try simp only[vAa,vB,vC])
      refine zl (zz [0,1,2,3,4,5,6,7,8,9,10,11,12,13,14,15,16,17,18,19,20,21,22,23,24,25,26,27,28,29,30,31,32,33,34,35,36,37,38,39,40,41,42,43,44,45,46,47,48,49,50,51,52] (.only 53 (zz [54,55,56,57,58,59,60,61,62] (.only 63 (zz [64,65] .done))))) [] (zsa pa0 (zsa pb0 (zsa pA0 (zI pB0)))) ?_;iterate 38 (refine zU ?_;try simp only[uW,uX,uY,uZ])
      iterate 7 (refine zN rfl rfl ?_;try simp only[uW,uX,uY,uZ])
      iterate 2 (refine zU ?_;try simp only[uW,uX,uY,uZ])
      iterate 6 (refine zN rfl rfl ?_;try simp only[uW,uX,uY,uZ])
      refine wpPlan_pass (o:=⟨some 85,_,_,_,_,_⟩) rfl rfl ⟨pa0,pb0,pA0,pB0⟩ ?_;try simp only[uW,uX,uY,uZ]
      refine zN rfl rfl ?_;try simp only[uW,uX,uY,uZ]
      iterate 2 (refine zU ?_;try simp only[uW,uX,uY,uZ])
      iterate 6 (refine zN rfl rfl ?_;try simp only[uW,uX,uY,uZ])
      refine wpPlan_pass (o:=⟨some 95,_,_,_,_,_⟩) rfl rfl ⟨pa0,pb0,pA0,pB0⟩ ?_;try simp only[uW,uX,uY,uZ]
      refine zN rfl rfl ?_;try simp only[uW,uX,uY,uZ]
      refine zU ?_;try simp only[uW,uX,uY,uZ]
      refine wpPlan_done ?_;go_wp2_with fail
      go_ret
      have hF:=bT (c:=wx) hB Bz;obtain rfl:r=false:=rr_no hr.out HYP.out HEX.out HEY.out HFX.out HFY.out HDX.out HDY.out (fun h=>HC.out h.2.2.2.1);exact⟨rfl,bT hF⟩
     have HK3:=zh hc;rw[←hc] at HX1;clear hc;by_cases hc:x.x.s'=y.x.s'
     rotate_left
     ·have HC:Hid (¬x.x.s'=y.x.s'):=zh hc;have g5:(x.x.s'==y.x.s')=false:=by simpa using hc
      clear hc;have Bz:=zr wx;obtain⟨pa0,-,pa2,-⟩:=(zxb HX0 Bz).cz;obtain⟨pb0,-,pb2,-⟩:=(zxb HX1 Bz).cz;have pA0:=(hnd.below (bT hB Bz)).c0 (u:=.int .i64 x.at_) rfl;have pB0:=(hnd'.below (bT hBW Bz)).c0 (u:=.int .i64 y.at_) rfl;go_wp2_with fail
      (try simp only[vAa,vB,vC])
      refine zl (zz [0,1,2,3,4,5,6,7,8,9,10,11,12,13,14,15,16,17,18,19,20,21,22,23,24,25,26,27,28,29,30,31,32,33,34,35,36,37,38,39,40,41,42,43,44,45,46,47,48,49,50,51,52] (.only 53 (zz [54,55,56,57,58,59,60,61,62] (.only 63 (zz [64,65] .done))))) [] (zsa pa0 (zsa pa2 (zsa pb0 (zsa pb2 (zsa pA0 (zI pB0)))))) ?_;iterate 47 (refine zU ?_;try simp only[uW,uX,uY,uZ])
      iterate 6 (refine zN rfl rfl ?_;try simp only[uW,uX,uY,uZ])
      refine wpPlan_pass (o:=⟨some 85,_,_,_,_,_⟩) rfl rfl ⟨pa0,pa2,pb0,pb2,pA0,pB0⟩ ?_;try simp only[uW,uX,uY,uZ]
      refine zN rfl rfl ?_;try simp only[uW,uX,uY,uZ]
      iterate 2 (refine zU ?_;try simp only[uW,uX,uY,uZ])
      iterate 6 (refine zN rfl rfl ?_;try simp only[uW,uX,uY,uZ])
      refine wpPlan_pass (o:=⟨some 95,_,_,_,_,_⟩) rfl rfl ⟨pa0,pa2,pb0,pb2,pA0,pB0⟩ ?_;try simp only[uW,uX,uY,uZ]
      refine zN rfl rfl ?_;try simp only[uW,uX,uY,uZ]
      refine zU ?_;try simp only[uW,uX,uY,uZ]
      refine wpPlan_done ?_;go_wp2_with fail
      go_ret
      have hF:=bT (c:=wx) hB Bz;obtain rfl:r=false:=rr_no hr.out HYP.out HEX.out HEY.out HFX.out HFY.out HDX.out HDY.out (fun h=>HC.out h.2.2.2.2.1);exact⟨rfl,bT hF⟩
     have HK4:=zh hc;rw[←hc] at HX1;clear hc;by_cases hc:d.xs=e.xs
     rotate_left
     ·have HC:Hid (¬d.xs=e.xs):=zh hc;have HW1:Hid (decide (d.xs=e.xs)=false):=zh (decide_eq_false hc);clear hc;have Bz:=zr wx;obtain⟨pa0,pa1,pa2,-⟩:=(zxb HX0 Bz).cz;obtain⟨pb0,pb1,pb2,-⟩:=(zxb HX1 Bz).cz;have pA0:=(hnd.below (bT hB Bz)).c0 (u:=.int .i64 x.at_) rfl;have pB0:=(hnd'.below (bT hBW Bz)).c0 (u:=.int .i64 y.at_) rfl;go_wp2_with fail
      (try simp only[vAa,vB,vC])
      refine zl (zz [0,1,2,3,4,5,6,7,8,9,10,11,12,13,14,15,16,17,18,19,20,21,22,23,24,25,26,27,28,29,30,31,32,33,34,35,36,37,38,39,40,41,42,43,44,45,46,47,48,49,50,51,52] (.only 53 (zz [54,55,56,57,58,59,60,61,62] (.only 63 (zz [64,65] .done))))) [] (zsa pa0 (zsa pa1 (zsa pa2 (zsa pb0 (zsa pb1 (zsa pb2 (zsa pA0 (zI pB0)))))))) ?_;iterate 53 (refine zU ?_;try simp only[uW,uX,uY,uZ])
      refine zC 85 rfl rfl (fun K hK=>?_);go_simp
      with_reducible refine(sameWordsR_n (FrD.below HDX.out (bT Bz)).n1 (FrD.below HDY.out (bT Bz)).n1 zo zo false HW1).mono ?_
      rintro e w11 ⟨rfl,b11⟩;replace b11:=zq (a:=wx) b11;replace Bz:=bT Bz b11;clear b11;clear pa0 pa1 pa2 pb0 pb1 pb2 pA0 pB0;obtain⟨pa0,pa1,pa2,-⟩:=(zxb HX0 Bz).cz;obtain⟨pb0,pb1,pb2,-⟩:=(zxb HX1 Bz).cz;have pA0:=(hnd.below (bT hB Bz)).c0 (u:=.int .i64 x.at_) rfl;have pB0:=(hnd'.below (bT hBW Bz)).c0 (u:=.int .i64 y.at_) rfl;refine hK.out _ _ ⟨pa0,pa1,pa2,pb0,pb1,pb2,pA0,pB0⟩ (fun _=>?_);try simp only[uW,uX,uY,uZ]
      clear hK K;iterate 3 (refine zU ?_;try simp only[uW,uX,uY,uZ])
      iterate 6 (refine zN rfl rfl ?_;try simp only[uW,uX,uY,uZ])
      refine wpPlan_pass (o:=⟨some 95,_,_,_,_,_⟩) rfl rfl ⟨pa0,pa1,pa2,pb0,pb1,pb2,pA0,pB0⟩ ?_;try simp only[uW,uX,uY,uZ]
      refine zN rfl rfl ?_;try simp only[uW,uX,uY,uZ]
      refine zU ?_;try simp only[uW,uX,uY,uZ]
      refine wpPlan_done ?_;go_wp2_with fail
      go_ret
      have hF:=bT (c:=w11) hB Bz;obtain rfl:r=false:=rr_no hr.out HYP.out HEX.out HEY.out HFX.out HFY.out HDX.out HDY.out (fun h=>of_decide_eq_false HW1.out h.2.2.2.2.2.1);exact⟨rfl,bT hF⟩
     have HK5:=zh hc;have HW1:Hid (decide (d.xs=e.xs)=true):=zh (decide_eq_true hc);clear hc;by_cases hc:d.xs'=e.xs'
     rotate_left
     ·have HC:Hid (¬d.xs'=e.xs'):=zh hc;have HW2:Hid (decide (d.xs'=e.xs')=false):=zh (decide_eq_false hc);clear hc;have Bz:=zr wx;obtain⟨pa0,pa1,pa2,pa3,-⟩:=(zxb HX0 Bz).cz;obtain⟨pb0,pb1,pb2,pb3,-⟩:=(zxb HX1 Bz).cz;have pA0:=(hnd.below (bT hB Bz)).c0 (u:=.int .i64 x.at_) rfl;have pB0:=(hnd'.below (bT hBW Bz)).c0 (u:=.int .i64 y.at_) rfl;go_wp2_with fail
      (try simp only[vAa,vB,vC])
      refine zl (zz [0,1,2,3,4,5,6,7,8,9,10,11,12,13,14,15,16,17,18,19,20,21,22,23,24,25,26,27,28,29,30,31,32,33,34,35,36,37,38,39,40,41,42,43,44,45,46,47,48,49,50,51,52] (.only 53 (zz [54,55,56,57,58,59,60,61,62] (.only 63 (zz [64,65] .done))))) [] (zsa pa0 (zsa pa1 (zsa pa2 (zsa pa3 (zsa pb0 (zsa pb1 (zsa pb2 (zsa pb3 (zsa pA0 (zI pB0)))))))))) ?_;iterate 53 (refine zU ?_;try simp only[uW,uX,uY,uZ])
      refine zC 85 rfl rfl (fun K hK=>?_);go_simp
      with_reducible refine(sameWordsR_n (FrD.below HDX.out (bT Bz)).n1 (FrD.below HDY.out (bT Bz)).n1 zo zo true HW1).mono ?_
      rintro e w11 ⟨rfl,b11⟩;replace b11:=zq (a:=wx) b11;replace Bz:=bT Bz b11;clear b11;clear pa0 pa1 pa2 pa3 pb0 pb1 pb2 pb3 pA0 pB0;obtain⟨pa0,pa1,pa2,pa3,-⟩:=(zxb HX0 Bz).cz;obtain⟨pb0,pb1,pb2,pb3,-⟩:=(zxb HX1 Bz).cz;have pA0:=(hnd.below (bT hB Bz)).c0 (u:=.int .i64 x.at_) rfl;have pB0:=(hnd'.below (bT hBW Bz)).c0 (u:=.int .i64 y.at_) rfl;refine hK.out _ _ ⟨pa0,pa1,pa2,pa3,pb0,pb1,pb2,pb3,pA0,pB0⟩ (fun _=>?_);try simp only[uW,uX,uY,uZ]
      clear hK K;iterate 9 (refine zU ?_;try simp only[uW,uX,uY,uZ])
      refine zC 95 rfl rfl (fun K hK=>?_);go_simp
      with_reducible refine(sameWordsR_n (FrD.below HDX.out (bT Bz)).n2 (FrD.below HDY.out (bT Bz)).n2 zo zo false HW2).mono ?_
      rintro e w12 ⟨rfl,b12⟩;replace b12:=zq (a:=w11) b12;replace Bz:=bT Bz b12;clear b12;clear pa0 pa1 pa2 pa3 pb0 pb1 pb2 pb3 pA0 pB0;obtain⟨pa0,pa1,pa2,pa3,-⟩:=(zxb HX0 Bz).cz;obtain⟨pb0,pb1,pb2,pb3,-⟩:=(zxb HX1 Bz).cz;have pA0:=(hnd.below (bT hB Bz)).c0 (u:=.int .i64 x.at_) rfl;have pB0:=(hnd'.below (bT hBW Bz)).c0 (u:=.int .i64 y.at_) rfl;refine hK.out _ _ ⟨pa0,pa1,pa2,pa3,pb0,pb1,pb2,pb3,pA0,pB0⟩ (fun _=>?_);try simp only[uW,uX,uY,uZ]
      clear hK K;iterate 2 (refine zU ?_;try simp only[uW,uX,uY,uZ])
      refine wpPlan_done ?_;go_wp2_with fail
      go_ret
      have hF:=bT (c:=w12) hB Bz;obtain rfl:r=false:=rr_no hr.out HYP.out HEX.out HEY.out HFX.out HFY.out HDX.out HDY.out (fun h=>of_decide_eq_false HW2.out h.2.2.2.2.2.2);exact⟨rfl,bT hF⟩
     have HK6:=zh hc;have HW2:Hid (decide (d.xs'=e.xs')=true):=zh (decide_eq_true hc);clear hc;have HAL:=zh (And.intro HK0.out (And.intro HK1.out (And.intro HK2.out (rr_pass HFX.out HFY.out HDX.out HDY.out HK3.out HK4.out HK5.out HK6.out))));have Bz:=zr wx;obtain⟨pa0,pa1,pa2,pa3,-⟩:=(zxb HX0 Bz).cz;obtain⟨pb0,pb1,pb2,pb3,-⟩:=(zxb HX1 Bz).cz;have pA0:=(hnd.below (bT hB Bz)).c0 (u:=.int .i64 x.at_) rfl;have pB0:=(hnd'.below (bT hBW Bz)).c0 (u:=.int .i64 y.at_) rfl;go_wp2_with fail
     (try simp only[vAa,vB,vC])
     refine zl (zz [0,1,2,3,4,5,6,7,8,9,10,11,12,13,14,15,16,17,18,19,20,21,22,23,24,25,26,27,28,29,30,31,32,33,34,35,36,37,38,39,40,41,42,43,44,45,46,47,48,49,50,51,52] (.only 53 (zz [54,55,56,57,58,59,60,61,62] (.only 63 (zz [64,65] .done))))) [] (zsa pa0 (zsa pa1 (zsa pa2 (zsa pa3 (zsa pb0 (zsa pb1 (zsa pb2 (zsa pb3 (zsa pA0 (zI pB0)))))))))) ?_;iterate 53 (refine zU ?_;try simp only[uW,uX,uY,uZ])
     refine zC 85 rfl rfl (fun K hK=>?_);go_simp
     with_reducible refine(sameWordsR_n (FrD.below HDX.out (bT Bz)).n1 (FrD.below HDY.out (bT Bz)).n1 zo zo true HW1).mono ?_
     rintro e w11 ⟨rfl,b11⟩;replace b11:=zq (a:=wx) b11;replace Bz:=bT Bz b11;clear b11;clear pa0 pa1 pa2 pa3 pb0 pb1 pb2 pb3 pA0 pB0;obtain⟨pa0,pa1,pa2,pa3,-⟩:=(zxb HX0 Bz).cz;obtain⟨pb0,pb1,pb2,pb3,-⟩:=(zxb HX1 Bz).cz;have pA0:=(hnd.below (bT hB Bz)).c0 (u:=.int .i64 x.at_) rfl;have pB0:=(hnd'.below (bT hBW Bz)).c0 (u:=.int .i64 y.at_) rfl;refine hK.out _ _ ⟨pa0,pa1,pa2,pa3,pb0,pb1,pb2,pb3,pA0,pB0⟩ (fun _=>?_);try simp only[uW,uX,uY,uZ]
     clear hK K;iterate 9 (refine zU ?_;try simp only[uW,uX,uY,uZ])
     refine zC 95 rfl rfl (fun K hK=>?_);go_simp
     with_reducible refine(sameWordsR_n (FrD.below HDX.out (bT Bz)).n2 (FrD.below HDY.out (bT Bz)).n2 zo zo true HW2).mono ?_
     rintro e w12 ⟨rfl,b12⟩;replace b12:=zq (a:=w11) b12;replace Bz:=bT Bz b12;clear b12;clear pa0 pa1 pa2 pa3 pb0 pb1 pb2 pb3 pA0 pB0;obtain⟨pa0,pa1,pa2,pa3,-⟩:=(zxb HX0 Bz).cz;obtain⟨pb0,pb1,pb2,pb3,-⟩:=(zxb HX1 Bz).cz;have pA0:=(hnd.below (bT hB Bz)).c0 (u:=.int .i64 x.at_) rfl;have pB0:=(hnd'.below (bT hBW Bz)).c0 (u:=.int .i64 y.at_) rfl;refine hK.out _ _ ⟨pa0,pa1,pa2,pa3,pb0,pb1,pb2,pb3,pA0,pB0⟩ (fun _=>?_);try simp only[uW,uX,uY,uZ]
     clear hK K;iterate 2 (refine zU ?_;try simp only[uW,uX,uY,uZ])
     refine wpPlan_done ?_;go_wp2_with fail
     go_roundg (n-(i+1))
     case measure=>have:=HGK.out;omega
     case rel=>exact⟨i+1,zo,rfl,by go_num,HRR.out.step HEX.out HEY.out HAL.out,bT (bT hB Bz),bT (bT hBW Bz)⟩
   ·obtain rfl:i=n:=zo;have i1:¬(i:Int)<(i:Int):=zo;obtain rfl:r=true:=rr_yes hr.out HYP.out HLN.out HLY.out HRR.out;have Bz:=zr wr;go_wp2_with fail
    go_ret
    have hF:=bT (c:=wr) hB Bz;exact⟨rfl,bT hF⟩
 ·have g0:((n1:Int) !=(n:Int))=true:=by simp;omega
  obtain rfl:r=false:=rr_len hr.out HV.out.len (by rw[HLN.out];exact hnn);go_wp2_with fail
  go_ret
  have hF:=bT (c:=w1) hB Bz;exact⟨rfl,bT hF⟩
open Go.RowKit Tw
theorem sameWords10_any {w:World} {A A':Option Addr} {c c':Nat} {xs ys:List Nat} (h:Nums w A c xs) (h':Nums w A' c' ys) (hl:xs.length≤800000) (hl':ys.length≤800000) (t:Bool) (ht:decide (xs=ys)=t) :
  Calls Tryz.prog 52 #[.slice A xs.length c,.slice A' ys.length c'] w fun e w'=>e=.returned (.bool t)∧Below w.heap.size w w':=by
 by_cases hn:xs.length=ys.length
 ·obtain⟨n,hn1⟩:∃n,n=xs.length:=⟨_,rfl⟩;rw[←hn,←hn1];rw[←hn1] at hl;have g0:((n:Int) !=(n:Int))=false:=by simp
  have H:=zh h;have H':=zh h';have HN:=zh hn;have HN1:=zh hn1;have HT:=zh ht;have hst:EQ1 w xs ys n n (.int .i64 ((0:Nat):Int)) w:=⟨0,Nat.zero_le _,rfl,rfl,Below.refl _ _,fun j hj=>by omega⟩;have HST:=zh hst;clear h h' hn hn1 ht hst hl';go_enter Tryz.func52,Tryz.ntmps52
  go_wp2_with fail
  go_loopg [5] n (fun gk s wr=>EQ1 w xs ys n gk s wr)
  case atStart=>exact HST.out
  case round =>
   clear HST;obtain⟨i,hi,hgk,rfl,hB,hd⟩:=hrel;have HGK:=zh hgk;have HD:=zh hd;clear hgk hd;by_cases hlt:i<n
   ·obtain⟨b1,o1,rfl,e1⟩:=H.out.cells (by rw[←HN1.out];omega);obtain⟨b2,o2,rfl,e2⟩:=H'.out.cells (by rw[←HN.out,←HN1.out];omega);replace e1:=e1 i (by rw[←HN1.out];exact hlt);replace e2:=e2 i (by rw[←HN.out,←HN1.out];exact hlt);obtain⟨d1,h1⟩:∃d,d=dg xs i:=⟨_,rfl⟩;obtain⟨d2,h2⟩:∃d,d=dg ys i:=⟨_,rfl⟩;rw[←h1] at e1;rw[←h2] at e2;have D1:=zh h1;have D2:=zh h2;replace e1:=(hB.cell (World.block_lt_of_cell? w _ e1)).trans e1;replace e2:=(hB.cell (World.block_lt_of_cell? w _ e2)).trans e2;have i1:(i:Int)<(n:Int):=zo;have i2:(0:Int)≤(i:Int):=zo;clear h1 h2;by_cases he:d1=d2
    ·have g1:((d1:Int) !=(d2:Int))=false:=by simp[he]
     have HE:=zh he;clear he;have Bz:=zr wr;have pB0:=(Bz.cell (World.block_lt_of_cell? wr _ e1)).trans e1;have pC0:=(Bz.cell (World.block_lt_of_cell? wr _ e2)).trans e2;go_wp2_with fail
     (try simp only[vAa,vB,vC])
     refine zl (zz [0,1,2,3,4,5,6,7,8] .done) [] (zsa pB0 (zI pC0)) ?_;iterate 9 (refine zU ?_;try simp only[uW,uX,uY,uZ])
     refine wpPlan_done ?_;go_wp2_with fail
     go_roundg (n-(i+1))
     case measure=>have:=HGK.out;omega
     case rel=>exact⟨i+1,zo,rfl,by go_num,bT (bT hB Bz),fun j hj=>by
      rcases Nat.lt_or_ge j i with h1 | h1
      ·exact HD.out j h1
      ·obtain rfl:j=i:=zo;rw[←D1.out,←D2.out];exact HE.out⟩
    ·have g1:((d1:Int) !=(d2:Int))=true:=by simp;omega
     have HE:=zh he;clear he;have Bz:=zr wr;have pB0:=(Bz.cell (World.block_lt_of_cell? wr _ e1)).trans e1;have pC0:=(Bz.cell (World.block_lt_of_cell? wr _ e2)).trans e2;go_wp2_with fail
     (try simp only[vAa,vB,vC])
     refine zl (zz [0,1,2,3,4,5,6,7,8] .done) [] (zsa pB0 (zI pC0)) ?_;iterate 9 (refine zU ?_;try simp only[uW,uX,uY,uZ])
     refine wpPlan_done ?_;go_wp2_with fail
     go_ret
     have hF:=bT (c:=wr) hB Bz;obtain rfl:t=false:=by rw[←HT.out];simp;intro e;apply HE.out;rw[D1.out,D2.out,e]
     exact⟨rfl,bT (bT hB Bz)⟩
   ·obtain rfl:i=n:=zo;have i1:¬(i:Int)<(i:Int):=zo;obtain rfl:t=true:=by rw[←HT.out];simp;exact dg_ext HN.out (by rw[←HN1.out];exact HD.out)
    go_wp2_with fail
    go_ret
    exact⟨rfl,hB⟩
 ·obtain rfl:t=false:=by rw[←ht];simp;rintro rfl;exact hn rfl
  have g1:((xs.length:Int) !=(ys.length:Int))=true:=by simp;omega
  clear ht h h' hn;go_enter Tryz.func52,Tryz.ntmps52
  go_wp2_with fail
  go_ret
  exact⟨rfl,Below.refl _ _⟩
theorem sameWords10_n {w:World} {A A':Option Addr} {c c' l l':Nat} {xs ys:List Nat} (h:Nx w A c l xs) (h':Nx w A' c' l' ys) (hl:l≤800000) (hl':l'≤800000) (t:Bool) (ht:Hid (decide (xs=ys)=t)) :
  Calls Tryz.prog 52 #[.slice A l c,.slice A' l' c'] w fun e w'=>e=.returned (.bool t)∧Below w.heap.size w w':=by
 obtain⟨h1,rfl⟩:=h;obtain⟨h2,rfl⟩:=h';exact sameWords10_any h1 h2 hl hl' t ht.out
theorem fm_no {w:World} {x y:Fr} {d e:Dg} {m:Nat} (hx:FrOk w m x) (hy:RN w y.s y.A y.c y.l y.s' y.A' y.c' y.l' y.q∧x.q=y.q) (hd:FrD w d x) (he:FrD w e y) (hn:¬(x.s=y.s∧x.s'=y.s'∧d.xs=e.xs∧d.xs'=e.xs')):x.ex=false:=by
 cases h:x.ex
 ·rfl
 ·exact absurd (rr_same hx h hy.1 hy.2 hd he) hn
theorem zAi {w:World} {A:Option Addr} {n c m:Nat} {L:List Fr} (h:Sl Fr.cs 4 w A n c L) (hok:Hid (∀x∈L,FrOk w m x)) (hm:m≤1900) (hn:n≤9223372036854775807) (r:Bool) (hr:Hid ((L.all fun x=>x.ex)=r)) :
  Calls Tryz.prog 33 #[.slice A n c] w fun e w'=>e=.returned (.bool r)∧Below w.heap.size w w':=by
 have HS:=zh h;have HLN:=zh h.1;clear h;go_enter Tryz.func33,Tryz.ntmps33
 go_wp2_with fail
 go_loopg [3] n (fun gk s wr=>AL1 w L (fun x=>x.ex) n gk s wr)
 case atStart=>exact⟨0,Nat.zero_le _,rfl,rfl,Below.refl _ _,rfl⟩
 case round =>
  obtain⟨i,hi,hgk,rfl,hB,hd⟩:=hrel;have HGK:=zh hgk;have HD:=zh hd;clear hgk hd;by_cases hlt:i<n
  ·obtain⟨b,off,rfl,hel⟩:=HS.out.at Fr.cs_len zo zo;obtain⟨x,hx⟩:∃x,L[i]?=some x:=⟨L[i]'(by rw[HLN.out];exact hlt),List.getElem?_eq_getElem _⟩;have hnd:=hel i x hx;have HEX:=zh hx;have hfx0:=hok.out x (List.mem_of_getElem? hx);have hrx:=(hfx0.below hB).r;have hl0:=hfx0.r.len;have i1:(i:Int)<(n:Int):=zo;have i2:(0:Int)≤(i:Int):=zo;clear hel hx;go_upto_region 4 with(fail)
   go_cut [4] (fun p wx=>∃(b4:Nat) (sy:Bool) (Ay:Option Addr) (cy ly:Nat) (sy':Bool) (Ay':Option Addr) (cy' ly':Nat),p=.pointer (some ⟨b4,0,none⟩)∧Bx wx b4 #[.bool sy,.slice Ay ly cy,.bool sy',.slice Ay' ly' cy'] 65∧RN wx sy Ay cy ly sy' Ay' cy' ly' x.q∧Below w.heap.size w wx)
   case first =>
    have Bz:=zr wr;obtain⟨pA0,pA1,pA2,pA3,-⟩:=(hnd.below (bT hB Bz)).ez;go_wp2_with fail
    with_reducible refine(norm_r4 (R.below hrx) zo).mono ?_
    rintro e w12 ⟨s12,A12,c12,l12,s12r,A12r,c12r,l12r,rfl,h12,b12⟩;replace b12:=zq (a:=wr) b12;replace Bz:=bT Bz b12;clear b12;clear pA0 pA1 pA2 pA3;go_wp2_with fail
    obtain⟨V11,hW,x0,hN⟩:=zAc w12 #[.bool s12,.slice A12 l12 c12,.bool s12r,.slice A12r l12r c12r] 65;rw[←hW];clear hW;obtain⟨v0,hb0⟩:=ze w12.heap.size;rw[←hb0] at x0 ⊢;have ow_0:w.heap.size≤v0:=zi (zw hB Bz);replace h12:=h12.below hN;replace hB:=bT (bT hB Bz) hN;have HX0:=zh x0;clear x0 hN Bz hb0;have Bz:=zr V11;go_wp2_with fail
    go_meet
    case rel=>exact⟨v0,_,_,_,_,_,_,_,_,rfl,HX0.out.below (bT Bz),RN.below h12,bT (bT hB Bz)⟩
   case rest =>
    obtain⟨b4,sy,Ay,cy,ly,sy',Ay',cy',ly',rfl,hx4,hry,hB2⟩:=hcut;obtain⟨wx,rfl,hB3⟩:∃wx,wx=_∧Below w.heap.size w wx:=⟨_,rfl,hB2⟩;clear hB hB2 hrx;have hB:=hB3;clear hB3;have HX0:=zh hx4;have hfx:=hfx0.below hB;have hry2:=hry.len;have hszx:=hfx0.r.sz;have hlx:=hfx0.r.len;obtain⟨d,hdx⟩:=hfx.dg;obtain⟨e,hdy⟩:=(hry.fr (m:=m+2) zo).dg;have HDX:=zh hdx;have HDY:Hid (FrD wx e ⟨sy,Ay,cy,ly,sy',Ay',cy',ly',x.q,true⟩):=zh hdy;have HFX:=zh hfx;have HFY:Hid (RN wx sy Ay cy ly sy' Ay' cy' ly' x.q):=zh hry;clear hx4 hry hfx hfx0 hdx hdy;by_cases hc:x.s=sy
    rotate_left
    ·have HC:Hid (¬x.s=sy):=zh hc;have g1:(sy==x.s)=false:=by simpa using fun e=>hc e.symm
     clear hc;have Bz:=zr wx;have pa0:=(zxb HX0 Bz).cell 0 (.bool sy) rfl;have pA0:=(hnd.below (bT hB Bz)).c0 (u:=.bool x.s) rfl;go_wp2_with fail
     (try simp only[vAa,vB,vC])
     refine zl (zz [0,1,2,3,4,5,6,7,8,9,10,11,12,13,14,15,16,17,18,19,20,21,22,23,24,25,26,27,28,29,30,31] (.only 32 (zz [33,34,35,36,37,38,39,40,41,42,43,44] (.only 45 (zz [46,47] .done))))) [] (zsa pa0 (zI pA0)) ?_;iterate 11 (refine zU ?_;try simp only[uW,uX,uY,uZ])
     iterate 10 (refine zN rfl rfl ?_;try simp only[uW,uX,uY,uZ])
     iterate 2 (refine zU ?_;try simp only[uW,uX,uY,uZ])
     iterate 9 (refine zN rfl rfl ?_;try simp only[uW,uX,uY,uZ])
     refine wpPlan_pass (o:=⟨some 48,_,_,_,_,_⟩) rfl rfl ⟨pa0,pA0⟩ ?_;try simp only[uW,uX,uY,uZ]
     refine zN rfl rfl ?_;try simp only[uW,uX,uY,uZ]
     iterate 2 (refine zU ?_;try simp only[uW,uX,uY,uZ])
     iterate 9 (refine zN rfl rfl ?_;try simp only[uW,uX,uY,uZ])
     refine wpPlan_pass (o:=⟨some 61,_,_,_,_,_⟩) rfl rfl ⟨pa0,pA0⟩ ?_;try simp only[uW,uX,uY,uZ]
     refine zN rfl rfl ?_;try simp only[uW,uX,uY,uZ]
     refine zU ?_;try simp only[uW,uX,uY,uZ]
     refine wpPlan_done ?_;go_wp2_with fail
     go_ret
     have hF:=bT (c:=wx) hB Bz;obtain rfl:r=false:=by rw[←hr.out];exact all_no HEX.out (fm_no (y:=⟨sy,Ay,cy,ly,sy',Ay',cy',ly',x.q,true⟩) HFX.out ⟨HFY.out,rfl⟩ HDX.out HDY.out (fun h=>HC.out h.1))
     exact⟨rfl,bT hF⟩
    have HK0:=zh hc;rw[←hc] at HX0;clear hc;by_cases hc:x.s'=sy'
    rotate_left
    ·have HC:Hid (¬x.s'=sy'):=zh hc;have g2:(sy'==x.s')=false:=by simpa using fun e=>hc e.symm
     clear hc;have Bz:=zr wx;obtain⟨pa0,-,pa2,-⟩:=(zxb HX0 Bz).cz;obtain⟨pA0,-,pA2,-⟩:=(hnd.below (bT hB Bz)).ez;go_wp2_with fail
     (try simp only[vAa,vB,vC])
     refine zl (zz [0,1,2,3,4,5,6,7,8,9,10,11,12,13,14,15,16,17,18,19,20,21,22,23,24,25,26,27,28,29,30,31] (.only 32 (zz [33,34,35,36,37,38,39,40,41,42,43,44] (.only 45 (zz [46,47] .done))))) [] (zsa pa0 (zsa pa2 (zsa pA0 (zI pA2)))) ?_;iterate 23 (refine zU ?_;try simp only[uW,uX,uY,uZ])
     iterate 9 (refine zN rfl rfl ?_;try simp only[uW,uX,uY,uZ])
     refine wpPlan_pass (o:=⟨some 48,_,_,_,_,_⟩) rfl rfl ⟨pa0,pa2,pA0,pA2⟩ ?_;try simp only[uW,uX,uY,uZ]
     refine zN rfl rfl ?_;try simp only[uW,uX,uY,uZ]
     iterate 2 (refine zU ?_;try simp only[uW,uX,uY,uZ])
     iterate 9 (refine zN rfl rfl ?_;try simp only[uW,uX,uY,uZ])
     refine wpPlan_pass (o:=⟨some 61,_,_,_,_,_⟩) rfl rfl ⟨pa0,pa2,pA0,pA2⟩ ?_;try simp only[uW,uX,uY,uZ]
     refine zN rfl rfl ?_;try simp only[uW,uX,uY,uZ]
     refine zU ?_;try simp only[uW,uX,uY,uZ]
     refine wpPlan_done ?_;go_wp2_with fail
     go_ret
     have hF:=bT (c:=wx) hB Bz;obtain rfl:r=false:=by rw[←hr.out];exact all_no HEX.out (fm_no (y:=⟨sy,Ay,cy,ly,sy',Ay',cy',ly',x.q,true⟩) HFX.out ⟨HFY.out,rfl⟩ HDX.out HDY.out (fun h=>HC.out h.2.1))
     exact⟨rfl,bT hF⟩
    have HK1:=zh hc;rw[←hc] at HX0;clear hc;by_cases hc:e.xs=d.xs
    rotate_left
    ·have HC:Hid (¬e.xs=d.xs):=zh hc;have HW1:Hid (decide (e.xs=d.xs)=false):=zh (decide_eq_false hc);clear hc;have Bz:=zr wx;obtain⟨pa0,pa1,pa2,-⟩:=(zxb HX0 Bz).cz;obtain⟨pA0,pA1,pA2,-⟩:=(hnd.below (bT hB Bz)).ez;go_wp2_with fail
     (try simp only[vAa,vB,vC])
     refine zl (zz [0,1,2,3,4,5,6,7,8,9,10,11,12,13,14,15,16,17,18,19,20,21,22,23,24,25,26,27,28,29,30,31] (.only 32 (zz [33,34,35,36,37,38,39,40,41,42,43,44] (.only 45 (zz [46,47] .done))))) [] (zsa pa0 (zsa pa1 (zsa pa2 (zsa pA0 (zsa pA1 (zI pA2)))))) ?_;iterate 32 (refine zU ?_;try simp only[uW,uX,uY,uZ])
     refine zC 48 rfl rfl (fun K hK=>?_);go_simp
     with_reducible refine(sameWords10_n (FrD.below HDY.out (bT Bz)).n1 (FrD.below HDX.out (bT Bz)).n1 (by show ly≤800000;omega) zo false HW1).mono ?_
     rintro e w21 ⟨rfl,b21⟩;replace b21:=zq (a:=wx) b21;replace Bz:=bT Bz b21;clear b21;clear pa0 pa1 pa2 pA0 pA1 pA2;obtain⟨pa0,pa1,pa2,-⟩:=(zxb HX0 Bz).cz;obtain⟨pA0,pA1,pA2,-⟩:=(hnd.below (bT hB Bz)).ez;refine hK.out _ _ ⟨pa0,pa1,pa2,pA0,pA1,pA2⟩ (fun _=>?_);try simp only[uW,uX,uY,uZ]
     clear hK K;iterate 3 (refine zU ?_;try simp only[uW,uX,uY,uZ])
     iterate 9 (refine zN rfl rfl ?_;try simp only[uW,uX,uY,uZ])
     refine wpPlan_pass (o:=⟨some 61,_,_,_,_,_⟩) rfl rfl ⟨pa0,pa1,pa2,pA0,pA1,pA2⟩ ?_;try simp only[uW,uX,uY,uZ]
     refine zN rfl rfl ?_;try simp only[uW,uX,uY,uZ]
     refine zU ?_;try simp only[uW,uX,uY,uZ]
     refine wpPlan_done ?_;go_wp2_with fail
     go_ret
     have hF:=bT (c:=w21) hB Bz;obtain rfl:r=false:=by rw[←hr.out];exact all_no HEX.out (fm_no (y:=⟨sy,Ay,cy,ly,sy',Ay',cy',ly',x.q,true⟩) HFX.out ⟨HFY.out,rfl⟩ HDX.out HDY.out (fun h=>of_decide_eq_false HW1.out h.2.2.1.symm))
     exact⟨rfl,bT hF⟩
    have HK2:=zh hc;have HW1:Hid (decide (e.xs=d.xs)=true):=zh (decide_eq_true hc);clear hc;by_cases hc:e.xs'=d.xs'
    rotate_left
    ·have HC:Hid (¬e.xs'=d.xs'):=zh hc;have HW2:Hid (decide (e.xs'=d.xs')=false):=zh (decide_eq_false hc);clear hc;have Bz:=zr wx;obtain⟨pa0,pa1,pa2,pa3,-⟩:=(zxb HX0 Bz).cz;obtain⟨pA0,pA1,pA2,pA3,-⟩:=(hnd.below (bT hB Bz)).ez;go_wp2_with fail
     (try simp only[vAa,vB,vC])
     refine zl (zz [0,1,2,3,4,5,6,7,8,9,10,11,12,13,14,15,16,17,18,19,20,21,22,23,24,25,26,27,28,29,30,31] (.only 32 (zz [33,34,35,36,37,38,39,40,41,42,43,44] (.only 45 (zz [46,47] .done))))) [] (zsa pa0 (zsa pa1 (zsa pa2 (zsa pa3 (zsa pA0 (zsa pA1 (zsa pA2 (zI pA3)))))))) ?_;iterate 32 (refine zU ?_;try simp only[uW,uX,uY,uZ])
     refine zC 48 rfl rfl (fun K hK=>?_);go_simp
     with_reducible refine(sameWords10_n (FrD.below HDY.out (bT Bz)).n1 (FrD.below HDX.out (bT Bz)).n1 (by show ly≤800000;omega) zo true HW1).mono ?_
     rintro e w21 ⟨rfl,b21⟩;replace b21:=zq (a:=wx) b21;replace Bz:=bT Bz b21;clear b21;clear pa0 pa1 pa2 pa3 pA0 pA1 pA2 pA3;obtain⟨pa0,pa1,pa2,pa3,-⟩:=(zxb HX0 Bz).cz;obtain⟨pA0,pA1,pA2,pA3,-⟩:=(hnd.below (bT hB Bz)).ez;refine hK.out _ _ ⟨pa0,pa1,pa2,pa3,pA0,pA1,pA2,pA3⟩ (fun _=>?_);try simp only[uW,uX,uY,uZ]
     clear hK K;iterate 12 (refine zU ?_;try simp only[uW,uX,uY,uZ])
     refine zC 61 rfl rfl (fun K hK=>?_);go_simp
     with_reducible refine(sameWords10_n (FrD.below HDY.out (bT Bz)).n2 (FrD.below HDX.out (bT Bz)).n2 (by show ly'≤800000;omega) zo false HW2).mono ?_
     rintro e w22 ⟨rfl,b22⟩;replace b22:=zq (a:=w21) b22;replace Bz:=bT Bz b22;clear b22;clear pa0 pa1 pa2 pa3 pA0 pA1 pA2 pA3;obtain⟨pa0,pa1,pa2,pa3,-⟩:=(zxb HX0 Bz).cz;obtain⟨pA0,pA1,pA2,pA3,-⟩:=(hnd.below (bT hB Bz)).ez;refine hK.out _ _ ⟨pa0,pa1,pa2,pa3,pA0,pA1,pA2,pA3⟩ (fun _=>?_);try simp only[uW,uX,uY,uZ]
     clear hK K;iterate 2 (refine zU ?_;try simp only[uW,uX,uY,uZ])
     refine wpPlan_done ?_;go_wp2_with fail
     go_ret
     have hF:=bT (c:=w22) hB Bz;obtain rfl:r=false:=by rw[←hr.out];exact all_no HEX.out (fm_no (y:=⟨sy,Ay,cy,ly,sy',Ay',cy',ly',x.q,true⟩) HFX.out ⟨HFY.out,rfl⟩ HDX.out HDY.out (fun h=>of_decide_eq_false HW2.out h.2.2.2.symm))
     exact⟨rfl,bT hF⟩
    have HK3:=zh hc;have HW2:Hid (decide (e.xs'=d.xs')=true):=zh (decide_eq_true hc);clear hc;have HOK:Hid (x.ex=true):=zh (rr_pass (y:=⟨sy,Ay,cy,ly,sy',Ay',cy',ly',x.q,true⟩) HFX.out HFY.out HDX.out HDY.out HK0.out HK1.out HK2.out.symm HK3.out.symm).1;have Bz:=zr wx;obtain⟨pa0,pa1,pa2,pa3,-⟩:=(zxb HX0 Bz).cz;obtain⟨pA0,pA1,pA2,pA3,-⟩:=(hnd.below (bT hB Bz)).ez;go_wp2_with fail
    (try simp only[vAa,vB,vC])
    refine zl (zz [0,1,2,3,4,5,6,7,8,9,10,11,12,13,14,15,16,17,18,19,20,21,22,23,24,25,26,27,28,29,30,31] (.only 32 (zz [33,34,35,36,37,38,39,40,41,42,43,44] (.only 45 (zz [46,47] .done))))) [] (zsa pa0 (zsa pa1 (zsa pa2 (zsa pa3 (zsa pA0 (zsa pA1 (zsa pA2 (zI pA3)))))))) ?_;iterate 32 (refine zU ?_;try simp only[uW,uX,uY,uZ])
    refine zC 48 rfl rfl (fun K hK=>?_);go_simp
    with_reducible refine(sameWords10_n (FrD.below HDY.out (bT Bz)).n1 (FrD.below HDX.out (bT Bz)).n1 (by show ly≤800000;omega) zo true HW1).mono ?_
    rintro e w21 ⟨rfl,b21⟩;replace b21:=zq (a:=wx) b21;replace Bz:=bT Bz b21;clear b21;clear pa0 pa1 pa2 pa3 pA0 pA1 pA2 pA3;obtain⟨pa0,pa1,pa2,pa3,-⟩:=(zxb HX0 Bz).cz;obtain⟨pA0,pA1,pA2,pA3,-⟩:=(hnd.below (bT hB Bz)).ez;refine hK.out _ _ ⟨pa0,pa1,pa2,pa3,pA0,pA1,pA2,pA3⟩ (fun _=>?_);try simp only[uW,uX,uY,uZ]
    clear hK K;iterate 12 (refine zU ?_;try simp only[uW,uX,uY,uZ])
    refine zC 61 rfl rfl (fun K hK=>?_);go_simp
    with_reducible refine(sameWords10_n (FrD.below HDY.out (bT Bz)).n2 (FrD.below HDX.out (bT Bz)).n2 (by show ly'≤800000;omega) zo true HW2).mono ?_
    rintro e w22 ⟨rfl,b22⟩;replace b22:=zq (a:=w21) b22;replace Bz:=bT Bz b22;clear b22;clear pa0 pa1 pa2 pa3 pA0 pA1 pA2 pA3;obtain⟨pa0,pa1,pa2,pa3,-⟩:=(zxb HX0 Bz).cz;obtain⟨pA0,pA1,pA2,pA3,-⟩:=(hnd.below (bT hB Bz)).ez;refine hK.out _ _ ⟨pa0,pa1,pa2,pa3,pA0,pA1,pA2,pA3⟩ (fun _=>?_);try simp only[uW,uX,uY,uZ]
    clear hK K;iterate 2 (refine zU ?_;try simp only[uW,uX,uY,uZ])
    refine wpPlan_done ?_;go_wp2_with fail
    go_roundg (n-(i+1))
    case measure=>have:=HGK.out;omega
    case rel=>exact⟨i+1,zo,rfl,by go_num,bT (bT hB Bz),take_all HD.out HEX.out HOK.out⟩
  ·obtain rfl:i=n:=zo;have i1:¬(i:Int)<(i:Int):=zo;obtain rfl:r=true:=by rw[←hr.out];exact all_yes HLN.out HD.out
   have Bz:=zr wr;go_wp2_with fail
   go_ret
   have hF:=bT (c:=wr) hB Bz;exact⟨rfl,bT hF⟩
theorem zAr {w:World} (k:Int) (r:Bool) (hr:Hid ((decide (1≤k)&&decide (k≤256))=r)):Calls Tryz.prog 64 #[.int .i64 k] w fun e w'=>e=.returned (.bool r)∧Below w.heap.size w w':=by
 by_cases g1:1≤k
 ·by_cases g2:k≤256
  ·obtain rfl:r=true:=by rw[←hr.out,decide_eq_true g1,decide_eq_true g2];rfl
   clear hr;go_enter Tryz.func64,Tryz.ntmps64
   go_wp2_with fail
   go_ret
   exact⟨rfl,Below.refl _ _⟩
  ·obtain rfl:r=false:=by rw[←hr.out,decide_eq_false g2,Bool.and_false]
   clear hr;go_enter Tryz.func64,Tryz.ntmps64
   go_wp2_with fail
   go_ret
   exact⟨rfl,Below.refl _ _⟩
 ·obtain rfl:r=false:=by rw[←hr.out,decide_eq_false g1];rfl
  clear hr;go_enter Tryz.func64,Tryz.ntmps64
  go_wp2_with fail
  go_ret
  exact⟨rfl,Below.refl _ _⟩
end Go.Proofs.YtidjjejgbahcgaaGreatDoor
