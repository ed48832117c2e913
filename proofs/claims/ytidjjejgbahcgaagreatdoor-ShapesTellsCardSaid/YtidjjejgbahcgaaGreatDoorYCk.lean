/-
  tripwireref10.Check. Written by wip/gen/ck.py.
-/
import Derived.Test.YtidjjejgbahcgaaGreatDoorYBh
set_option maxHeartbeats 4000000
set_option maxRecDepth 100000
namespace Go.Proofs.YtidjjejgbahcgaaGreatDoor
open Go.RowKit Tw
def GVs (w:World) (L:List Ly):Prop:=∀y∈L,∀v∈y.rows,GV w v.A v.n v.c (prs v.L) 870∧v.n≤1000
theorem GVs.below {w w':World} {L:List Ly} (h:GVs w L) (hb:Below w.heap.size w w':=by go_grown):GVs w' L:=fun y hy v hv=>⟨(h y hy v hv).1.below hb,(h y hy v hv).2⟩
theorem TB2.none {w w':World} {f:Option (Int×Int)} {e:Ending} (h:TB2 w f e w') (hf:f=none):∃a b:Int,e=.returned (.tuple #[.int .i64 a,.int .i64 b,.bool false])∧Below w.heap.size w w':=by
 subst hf;obtain⟨a,b,h1,_,h3⟩:=h;exact⟨a,b,h1,h3⟩
theorem TB2.some {w w':World} {f:Option (Int×Int)} {e:Ending} {u t:Int} (h:TB2 w f e w') (hf:f=some (u,t)):e=.returned (.tuple #[.int .i64 u,.int .i64 t,.bool true])∧Below w.heap.size w w':=by
 obtain⟨a,b,h1,h2,h3⟩:=h;obtain⟨rfl,rfl⟩:=h2 u t hf;subst hf;exact⟨h1,h3⟩
def CK1 (w:World) (cs:Array Value) (L:List Ly) (inp:Int) (n gk:Nat) (s4 s5 s6 s7:Value) (wr:World):Prop :=
 ∃(i:Nat) (pre:List Int) (cur s:Int) (H:Option Addr) (cap:Nat),i≤n∧n-i=gk∧s7=.int .i64 (i:Int)∧pre.length=i∧s4=.slice H (i+1) cap∧OwnR wr (w.heap.size+1) 3 1 (.slice H (i+1) cap) (i+1) (flat ics (pre++[cur]))∧s5=.int .i64 cur∧s6=.int .i64 s∧0≤s∧s≤16384∧1≤cur∧cur≤256∧
  stepsF L inp 0=(stepsF (L.drop i) cur s).map (pre++·)∧Bx wr w.heap.size cs 24∧Below w.heap.size w wr
theorem checkR_0 {w:World} {inp:Int} {lA:Option Addr} {ln lc:Nat} {L:List Ly} (g1:inp<1) (HA:Hid (zAg inp L=.error 25)) :
  Calls Tryz.prog 9 #[.agg #[.int .i64 inp,.slice lA ln lc]] w (TellsZs w (zAg inp L)):=by
 obtain⟨W,hW,x0,hB⟩:=zAc w #[.int .i64 inp,.slice lA ln lc] 24;have HX0:=zh x0;clear x0;have Bz:=zr W;have pa0:=(zxb HX0 Bz).cell 0 (.int .i64 inp) rfl;go_enter Tryz.func9,Tryz.ntmps9
 go_wp2_with fail
 rw[←hW];clear hW;go_wp2_with fail
 go_ret2
 have hF:=bT (c:=W) hB Bz;rw[HA.out];exact⟨rfl,bT hF⟩
theorem checkR_1 {w:World} {inp:Int} {lA:Option Addr} {ln lc:Nat} {L:List Ly} (g1:¬inp<1) (g2:64<inp) (HA:Hid (zAg inp L=.error 25)) :
  Calls Tryz.prog 9 #[.agg #[.int .i64 inp,.slice lA ln lc]] w (TellsZs w (zAg inp L)):=by
 obtain⟨W,hW,x0,hB⟩:=zAc w #[.int .i64 inp,.slice lA ln lc] 24;have HX0:=zh x0;clear x0;have Bz:=zr W;have pa0:=(zxb HX0 Bz).cell 0 (.int .i64 inp) rfl;go_enter Tryz.func9,Tryz.ntmps9
 go_wp2_with fail
 rw[←hW];clear hW;go_wp2_with fail
 go_ret2
 have hF:=bT (c:=W) hB Bz;rw[HA.out];exact⟨rfl,bT hF⟩
theorem checkR_2 {w:World} {inp:Int} {lA:Option Addr} {ln lc:Nat} {L:List Ly} (g1:¬inp<1) (g2:¬64<inp) (g3:16<ln) (HA:Hid (zAg inp L=.error 25)) :
  Calls Tryz.prog 9 #[.agg #[.int .i64 inp,.slice lA ln lc]] w (TellsZs w (zAg inp L)):=by
 obtain⟨W,hW,x0,hB⟩:=zAc w #[.int .i64 inp,.slice lA ln lc] 24;have HX0:=zh x0;clear x0;have Bz:=zr W;obtain⟨pa0,pa1,-⟩:=(zxb HX0 Bz).cz;go_enter Tryz.func9,Tryz.ntmps9
 go_wp2_with fail
 rw[←hW];clear hW;go_wp2_with fail
 go_ret2
 have hF:=bT (c:=W) hB Bz;rw[HA.out];exact⟨rfl,bT hF⟩
theorem checkR_ok {w:World} {m:Nat} {inp:Int} {lA:Option Addr} {ln lc:Nat} {L:List Ly} (h:Sl Ly.cs 13 w lA ln lc L) (hok:Hid (∀y∈L,LyOk w m y)) (hg:Hid (GVs w L)) (hm:m≤1900) (hln:ln≤9223372036854775807) (g1:¬inp<1) (g2:¬64<inp) (g3:¬16<ln) (hT:Hid (Tab w)) :
  Calls Tryz.prog 9 #[.agg #[.int .i64 inp,.slice lA ln lc]] w (TellsZs w (zAg inp L)):=by
 have HSZE:Hid (zAg inp L=stepsF L inp 0):=zh (by unfold zAg;rw[if_neg g1,if_neg g2,if_neg (zi h.1)]);have H0:=zh h;have HLN:=zh h.1;clear h;obtain⟨W,hW,x0,hB⟩:=zAc w #[.int .i64 inp,.slice lA ln lc] 24;have HX0:=zh x0;clear x0;have Bz:=zr W;obtain⟨pa0,pa1,-⟩:=(zxb HX0 Bz).cz;go_enter Tryz.func9,Tryz.ntmps9
 go_upto_region 1 with(fail)
 rw[←hW];clear hW;go_upto_region 4 with(fail)
 obtain⟨V1,hW,x1,hN⟩:=zAc W #[.int .i64 inp] 3;rw[←hW];clear hW;obtain⟨v1,hb1⟩:=ze W.heap.size;rw[←hb1] at x1 ⊢;have o0_1:w.heap.size<v1:=zi (zxb HX0 Bz).lt;have ow_1:w.heap.size≤v1:=zi (zw hB Bz);replace hB:=bT (bT hB Bz) hN;replace HX0:=zba HX0 Bz hN;have HX1:=zh x1;clear x1 hN Bz hb1;have Bz:=zr V1;clear pa0 pa1;have pa0:=(zxb HX0 Bz).cell 0 (.int .i64 inp) rfl;go_wp2_with fail
 have HB0:=zh (bT hB Bz);have XX0:=zh (zxb HX0 Bz);have HO0:Hid (OwnR V1 (w.heap.size+1) 3 1 (.slice (some ⟨v1,0,none⟩) 1 1) 1 (flat ics [inp])):=zh (OwnR.lit1 elt_int (zxb HX1 Bz) zo inp rfl);clear hB Bz HX0 HX1;go_loopg [4,5,6,7] ln (fun gk s4 s5 s6 s7 wr=>CK1 w #[.int .i64 inp,.slice lA ln lc] L inp ln gk s4 s5 s6 s7 wr)
 case atStart=>exact⟨0,[],inp,0,_,_,Nat.zero_le _,rfl,rfl,rfl,rfl,HO0.out,rfl,rfl,zo,zo,zo,zo,by rw[List.drop_zero];cases stepsF L inp 0<;>rfl,XX0.out,HB0.out⟩
 case round =>
  clear HB0 HO0 XX0;obtain⟨i,pre,cur,s,H,cap,hi,hgk,rfl,hpl,rfl,how,rfl,rfl,hs0,hs1,hc0,hc1,hst,hx0,hB⟩:=hrel;have HGK:=zh hgk;have HST:=zh hst;have HPL:=zh hpl;have HX0:=zh hx0;clear hgk hst hpl hx0;have hcap:i+1≤cap:=by obtain⟨H',c',e,_,_,h3,_⟩:=how.slice;cases e;exact h3
  by_cases hlt:i<ln
  ·obtain⟨b,off,rfl,hel⟩:=H0.out.at Ly.cs_len zo zo;obtain⟨y,hy⟩:∃y,L[i]?=some y:=⟨L[i]'(by rw[HLN.out];exact hlt),List.getElem?_eq_getElem _⟩;have hnd:=hel i y hy;have HTI:=zh hy;have HY:=zh (hok.out y (List.mem_of_getElem? hy));have HGY:=zh (hg.out y (List.mem_of_getElem? hy));have i1:(i:Int)<(ln:Int):=zo;have i2:(0:Int)≤(i:Int):=zo;clear hy hel;cases hf:zAd y cur with
   | none =>
    have HF:=zh hf;clear hf how;have HSZ:Hid (zAg inp L=.error 22):=zh (by rw[HSZE.out,HST.out,steps_at HTI.out,HF.out];rfl);have Bz:=zr wr;have pa1:=(zxb HX0 Bz).cell 1 (.slice (some ⟨b,off,none⟩) ln lc) rfl;obtain⟨pA0,pA1,pA2,pA3,pA4,pA5,pA6,pA7,pA8,pA9,pAa,pAb,pAc,-⟩:=(hnd.below (bT hB Bz)).ez;go_wp2_with fail
    with_reducible refine((behindR_q (HY.out.below (bT hB (bT (b:=wr) Bz))) (zh fun v hv=>⟨GV.below (HGY.out v hv).1 (bT hB (bT (b:=wr) Bz)),(HGY.out v hv).2⟩) hm (zt hT hB Bz)).mono fun _ _ hx=>TB2.none hx HF.out).mono ?_
    rintro e w11 ⟨ua11,ub11,rfl,b11⟩;replace b11:=zq (a:=wr) b11;replace Bz:=bT Bz b11;clear b11;clear pa1 pA0 pA1 pA2 pA3 pA4 pA5 pA6 pA7 pA8 pA9 pAa pAb pAc;go_wp2_with fail
    go_ret2
    have hF:=bT (c:=w11) hB Bz;rw[HSZ.out];exact⟨rfl,bT hF⟩
   | some p =>
    obtain⟨u,t⟩:=p;have HF:=zh hf;have hbd:=behind_bd HY.out hc0 hc1 hf;obtain⟨d1,d2,d3,d4⟩:=hbd;clear hf;by_cases hu:256<u
    ·have HSZ:Hid (zAg inp L=.error 25):=zh (by rw[HSZE.out,HST.out,steps_at HTI.out,HF.out];simp only;rw[if_pos hu];rfl);clear how;have Bz:=zr wr;have pa1:=(zxb HX0 Bz).cell 1 (.slice (some ⟨b,off,none⟩) ln lc) rfl;obtain⟨pA0,pA1,pA2,pA3,pA4,pA5,pA6,pA7,pA8,pA9,pAa,pAb,pAc,-⟩:=(hnd.below (bT hB Bz)).ez;go_wp2_with fail
     with_reducible refine((behindR_q (HY.out.below (bT hB (bT (b:=wr) Bz))) (zh fun v hv=>⟨GV.below (HGY.out v hv).1 (bT hB (bT (b:=wr) Bz)),(HGY.out v hv).2⟩) hm (zt hT hB Bz)).mono fun _ _ hx=>TB2.some hx HF.out).mono ?_
     rintro e w11 ⟨rfl,b11⟩;replace b11:=zq (a:=wr) b11;replace Bz:=bT Bz b11;clear b11;clear pa1 pA0 pA1 pA2 pA3 pA4 pA5 pA6 pA7 pA8 pA9 pAa pAb pAc;go_wp2_with fail
     go_ret2
     have hF:=bT (c:=w11) hB Bz;rw[HSZ.out];exact⟨rfl,bT hF⟩
    ·by_cases ht:16384<s+t
     ·have HSZ:Hid (zAg inp L=.error 25):=zh (by rw[HSZE.out,HST.out,steps_at HTI.out,HF.out];simp only;rw[if_neg hu,if_pos ht];rfl);clear how;have Bz:=zr wr;have pa1:=(zxb HX0 Bz).cell 1 (.slice (some ⟨b,off,none⟩) ln lc) rfl;obtain⟨pA0,pA1,pA2,pA3,pA4,pA5,pA6,pA7,pA8,pA9,pAa,pAb,pAc,-⟩:=(hnd.below (bT hB Bz)).ez;go_wp2_with fail
      with_reducible refine((behindR_q (HY.out.below (bT hB (bT (b:=wr) Bz))) (zh fun v hv=>⟨GV.below (HGY.out v hv).1 (bT hB (bT (b:=wr) Bz)),(HGY.out v hv).2⟩) hm (zt hT hB Bz)).mono fun _ _ hx=>TB2.some hx HF.out).mono ?_
      rintro e w11 ⟨rfl,b11⟩;replace b11:=zq (a:=wr) b11;replace Bz:=bT Bz b11;clear b11;clear pa1 pA0 pA1 pA2 pA3 pA4 pA5 pA6 pA7 pA8 pA9 pAa pAb pAc;go_wp2_with fail
      go_ret2
      have hF:=bT (c:=w11) hB Bz;rw[HSZ.out];exact⟨rfl,bT hF⟩
     ·have HNX:Hid (stepsF (L.drop i) cur s=(stepsF (L.drop (i+1)) u (s+t)).map (cur :: ·)):=zh (by rw[steps_at HTI.out,HF.out];simp only;rw[if_neg hu,if_neg ht]);have Bz:=zr wr;have pa1:=(zxb HX0 Bz).cell 1 (.slice (some ⟨b,off,none⟩) ln lc) rfl;obtain⟨pA0,pA1,pA2,pA3,pA4,pA5,pA6,pA7,pA8,pA9,pAa,pAb,pAc,-⟩:=(hnd.below (bT hB Bz)).ez;go_wp2_with fail
      with_reducible refine((behindR_q (HY.out.below (bT hB (bT (b:=wr) Bz))) (zh fun v hv=>⟨GV.below (HGY.out v hv).1 (bT hB (bT (b:=wr) Bz)),(HGY.out v hv).2⟩) hm (zt hT hB Bz)).mono fun _ _ hx=>TB2.some hx HF.out).mono ?_
      rintro e w11 ⟨rfl,b11⟩;replace b11:=zq (a:=wr) b11;replace how:=how.below b11;replace Bz:=bT Bz b11;clear b11;clear pa1 pA0 pA1 pA2 pA3 pA4 pA5 pA6 pA7 pA8 pA9 pAa pAb pAc;go_wp2_with (at_builtin;refine And.left (b:=True) ?_)
      refine⟨?_,trivial⟩;obtain⟨V11,hW,x1,hN⟩:=zAc w11 #[.int .i64 u] 3;rw[←hW];clear hW;obtain⟨v1,hb1⟩:=ze w11.heap.size;rw[←hb1] at x1 ⊢;have o0_1:w.heap.size<v1:=zi (zxb HX0 Bz).lt;have ow_1:w.heap.size≤v1:=zi (zw hB Bz);replace how:=how.below hN;replace hB:=bT (bT hB Bz) hN;replace HX0:=zba HX0 Bz hN;have HX1:=zh x1;clear x1 hN Bz hb1;have Bz:=zr V11;have hdr:V11.drew.heap.size=V11.heap.size:=rfl;have hdr2:V11.drew.drew.heap.size=V11.heap.size:=rfl;refine Elt.app elt_int rfl _ _ rfl (w.heap.size+1) (.slice H (i+1) cap) (i+1) (pre++[cur]) rfl how (.slice (some ⟨v1,0,none⟩) 1 1) (1) ([u]) rfl (From.one (HX1.out.below (bT Bz)) (u) rfl (elt_int.len _)) zo (zi (zxb HX0 Bz).lt) ?_;intro H12 c12 w12 ho12 hg12;replace hB:=(bT (bT hB Bz)).trans (hg12.below (zi (zw hB Bz)) (fun g hg=>by have:=how.base g hg;omega));replace HX0:=zh (hg12.bx (zxb HX0 Bz) (how.off zo));clear HX1;clear hdr hdr2;clear hg12 Bz;have Bz:=zr w12;go_wp2_with fail
      go_roundg (ln-(i+1))
      case measure=>have:=HGK.out;omega
      case rel=>exact⟨i+1,pre++[cur],u,s+t,_,_,zo,rfl,by go_num,by have:=HPL.out;simp;omega,rfl,ho12,rfl,rfl,zo,zo,zo,zo,by rw[HST.out,HNX.out,map_map_cons],HX0.out.below Bz,bT hB Bz⟩
  ·obtain rfl:i=ln:=zo;have i1:¬(i:Int)<(i:Int):=zo;have HSZ:Hid (zAg inp L=.ok (pre++[cur])):=zh (by rw[HSZE.out,HST.out,List.drop_of_length_le (by rw[HLN.out];exact Nat.le_refl _)];rfl);have HO:=zh how;have Bz:=zr wr;clear how;have Bz:=zr wr;have pa1:=(zxb HX0 Bz).cell 1 (.slice lA i lc) rfl;go_wp2_with fail
   go_ret2
   have hF:=bT (c:=wr) hB Bz;rw[HSZ.out];exact⟨_,_,_,rfl,(OwnR.below HO.out).sl' elt_int (by have:=HPL.out;simp;omega),hcap,bT hF⟩
theorem checkR_q {w:World} {m:Nat} {inp:Int} {lA:Option Addr} {ln lc:Nat} {L:List Ly} (h:Sl Ly.cs 13 w lA ln lc L) (hok:Hid (∀y∈L,LyOk w m y)) (hg:Hid (GVs w L)) (hm:m≤1900) (hln:ln≤9223372036854775807) (hT:Hid (Tab w)) :
  Calls Tryz.prog 9 #[.agg #[.int .i64 inp,.slice lA ln lc]] w (TellsZs w (zAg inp L)):=by
 have hl:=h.1;by_cases g1:inp<1
 ·exact checkR_0 g1 (zh (by unfold zAg;rw[if_pos g1]))
 ·by_cases g2:64<inp
  ·exact checkR_1 g1 g2 (zh (by unfold zAg;rw[if_neg g1,if_pos g2]))
  ·by_cases g3:16<ln
   ·exact checkR_2 g1 g2 g3 (zh (by unfold zAg;rw[if_neg g1,if_neg g2,if_pos (show 16<L.length by omega)]))
   ·exact checkR_ok h hok hg hm hln g1 g2 g3 hT
open Go.RowKit Tw
theorem copy_w {w:World} {A:Option Addr} {c l:Nat} {xs:List Nat} (h:Nx w A c l xs) (hl:l≤800000) :
  Calls Tryz.prog 61 #[.slice A l c] w (TellsX w l xs):=by
 by_cases hc:A=none→c=0
 ·exact copy_v h hl hc
 ·have hA:A=none:=Classical.byContradiction fun e=>hc fun e2=>absurd e2 e;have h0:xs.length=0:=by
   rcases Nat.eq_zero_or_pos xs.length with h1 | h1
   ·exact h1
   ·obtain⟨b,off,e,_⟩:=h.1.cells h1;rw[hA] at e;cases e
  obtain rfl:xs=[]:=List.eq_nil_of_length_eq_zero h0;obtain rfl:0=l:=h.2;subst hA;clear h h0 hc;go_enter Tryz.func61,Tryz.ntmps61
  go_wp2_with fail
  go_ret
  exact⟨none,0,rfl,⟨Nums.nil _ _ _,rfl⟩,Below.refl _ _⟩
def TellsCp (w:World) (x:Fr) (d:Dg) (e:Ending) (w':World):Prop:=∃A c A' c',e=.returned (.agg #[.bool x.s,.slice A x.l c,.bool x.s',.slice A' x.l' c'])∧Nx w' A c x.l d.xs∧Nx w' A' c' x.l' d.xs'∧Below w.heap.size w w'
theorem copyRat_q {w:World} {x:Fr} {d:Dg} (h:FrD w d x) (hl:x.l≤800000) (hl':x.l'≤800000) :
  Calls Tryz.prog 41 #[.agg #[.bool x.s,.slice x.A x.l x.c,.bool x.s',.slice x.A' x.l' x.c']] w (TellsCp w x d):=by
 have h1:=h.2.2.1;have h2:=h.2.2.2;clear h;obtain⟨W,hW,x0,x1,hB⟩:=zAh w #[.bool x.s,.slice x.A x.l x.c,.bool x.s',.slice x.A' x.l' x.c'] 65 #[.bool false,.slice none 0 0,.bool false,.slice none 0 0] 65;replace h1:=h1.below hB;replace h2:=h2.below hB;have HX0:=zh x0;have HX1:=zh x1;clear x0 x1;have Bz:=zr W;obtain⟨pa0,pa1,pa2,pa3,-⟩:=(zxb HX0 Bz).cz;obtain⟨pb0,pb1,pb2,pb3,-⟩:=(zxb HX1 Bz).cz;have fb0:=(zxb HX1 Bz).frozen 0;have fb1:=(zxb HX1 Bz).frozen 1;have fb2:=(zxb HX1 Bz).frozen 2;have fb3:=(zxb HX1 Bz).frozen 3;have y1:=(zxb HX1 Bz).lt;go_enter Tryz.func41,Tryz.ntmps41
 go_wp2_with fail
 rw[←hW];clear hW;go_wp2_with fail
 (try simp only[vAa,vB,vC])
 refine zl (.pure 0 (.pure 1 (.take 2 (.pure 3 (.pure 4 (.take 5 (.pure 8 (.pure 9 (.take 10 (.pure 11 (.pure 12 (.take 13 (.only 6 (.pure 7 (.only 14 (.pure 15 (.pure 16 (.only 17 .done)))))))))))))))))) [17] (zsa pa0 (zsa pa1 (zsa pa2 (zI pa3)))) ?_;iterate 2 (refine zV ?_;try simp only[uW,uX,uY,uZ])
 refine zU ?_;try simp only[uW,uX,uY,uZ]
 iterate 2 (refine zV ?_;try simp only[uW,uX,uY,uZ])
 refine zU ?_;try simp only[uW,uX,uY,uZ]
 iterate 2 (refine zV ?_;try simp only[uW,uX,uY,uZ])
 refine zU ?_;try simp only[uW,uX,uY,uZ]
 iterate 2 (refine zV ?_;try simp only[uW,uX,uY,uZ])
 refine zU ?_;try simp only[uW,uX,uY,uZ]
 refine zC 9 rfl rfl (fun K hK=>?_);go_simp
 with_reducible refine(copy_w (Nx.below h1) hl).mono ?_
 rintro e w1 ⟨A1,c1,rfl,h1,b1⟩;replace b1:=zq (a:=W) b1;replace h2:=h2.below b1;replace Bz:=bT Bz b1;clear b1;clear pa0 pa1 pa2 pa3 pb0 pb1 pb2 pb3 fb0 fb1 fb2 fb3 y1;obtain⟨pa0,pa1,pa2,pa3,-⟩:=(zxb HX0 Bz).cz;obtain⟨pb0,pb1,pb2,pb3,-⟩:=(zxb HX1 Bz).cz;have fb0:=(zxb HX1 Bz).frozen 0;have fb1:=(zxb HX1 Bz).frozen 1;have fb2:=(zxb HX1 Bz).frozen 2;have fb3:=(zxb HX1 Bz).frozen 3;have y1:=(zxb HX1 Bz).lt;refine hK.out _ _ ⟨pa0,pa1,pa2,pa3⟩ (fun _=>?_);try simp only[uW,uX,uY,uZ]
 clear hK K;refine zV ?_;try simp only[uW,uX,uY,uZ]
 refine zC 17 rfl rfl (fun K hK=>?_);go_simp
 with_reducible refine(copy_w (Nx.below h2) hl').mono ?_
 rintro e w2 ⟨A2,c2,rfl,h2,b2⟩;replace b2:=zq (a:=w1) b2;replace h1:=h1.below b2;replace Bz:=bT Bz b2;clear b2;clear pa0 pa1 pa2 pa3 pb0 pb1 pb2 pb3 fb0 fb1 fb2 fb3 y1;obtain⟨pa0,pa1,pa2,pa3,-⟩:=(zxb HX0 Bz).cz;obtain⟨pb0,pb1,pb2,pb3,-⟩:=(zxb HX1 Bz).cz;have fb0:=(zxb HX1 Bz).frozen 0;have fb1:=(zxb HX1 Bz).frozen 1;have fb2:=(zxb HX1 Bz).frozen 2;have fb3:=(zxb HX1 Bz).frozen 3;have y1:=(zxb HX1 Bz).lt;refine hK.out _ _ ⟨pa0,pa1,pa2,pa3⟩ (fun _=>?_);try simp only[uW,uX,uY,uZ]
 clear hK K;iterate 2 (refine zV ?_;try simp only[uW,uX,uY,uZ])
 refine wpPlan_late (o:=⟨none,_,_,_,_,_⟩) rfl rfl zd (fun K hK=>?_);go_simp
 refine hK.out _ _ ?_;try simp only[Act.put,uX,uY,uZ]
 clear hK K;refine wpPlan_done ?_;go_wp2_with fail
 (try simp only[Exit.inBlock,Exit.then])
 refine bodyPost_ret (by simp[results,Tryz.results41,go_sem,pb0,pb1,pb2,pb3];try rfl) rfl ?_;obtain⟨V1,hW,x,kk,far,bel⟩:=store4 (.bool x.s) (.slice A1 x.l c1) (.bool x.s') (.slice A2 x.l' c2) (zxb HX1 Bz) nofun nofun nofun nofun;rw[←hW];clear hW;replace h1:=h1.k kk;replace h2:=h2.k kk;replace hB:=bel w.heap.size w zo (bT hB Bz);replace HX0:=zf far HX0 Bz;replace HX1:=zh x;clear x kk far bel Bz;have Bz:=zr V1;have hF:=bT (c:=V1) hB Bz;exact⟨_,_,_,_,rfl,Nx.below h1,Nx.below h2,bT hF⟩
def CV1 (w:World) (D:List (Int×Dg)) (n gk:Nat) (s3 s4:Value) (wr:World):Prop :=
 ∃(i:Nat) (H:Option Addr) (hc:Nat) (O:List Tm),s3=.slice H i hc∧s4=.int .i64 (i:Int)∧i≤n∧n-i=gk∧OwnR wr w.heap.size 79 5 (.slice H i hc) i (flat Tm.cs O)∧TsD wr O (D.take i)∧Below w.heap.size w wr
theorem copyVec_q {w:World} {A:Option Addr} {n c:Nat} {D:List (Int×Dg)} (h:VcD w A n c D) (hn:n≤1000000) :
  Calls Tryz.prog 40 #[.slice A n c] w fun e w'=>∃H hc,e=.returned (.slice H n hc)∧VcD w' H n hc D∧Below w.heap.size w w':=by
 have HLD:=zh h.len;obtain⟨⟨L,h1,h2⟩,h3⟩:=h;have HS:=zh h1;have HLN:=zh h1.1;have HTS:=zh h2;have HLE:=zh h3;clear h1 h2 h3;go_enter Tryz.func40,Tryz.ntmps40
 go_wp2_with fail
 go_loopg [3,4] n (fun gk s3 s4 wr=>CV1 w D n gk s3 s4 wr)
 case atStart=>exact⟨0,none,0,[],rfl,rfl,Nat.zero_le _,rfl,OwnR.nil _ _ _ _,All2.nil,Below.refl _ _⟩
 case round =>
  obtain⟨i,H,hc,O,rfl,rfl,hi,hgk,ho,hts,hB⟩:=hrel;have HGK:=zh hgk;clear hgk;by_cases hlt:i<n
  ·obtain⟨b,off,rfl,hel⟩:=HS.out.at Tm.cs_len zo zo;obtain⟨x,d,hx,hd,hxd⟩:=HTS.out.has (i:=i) (by rw[HLN.out];exact hlt);have hnd:=hel i x hx;have hfd:=hxd.2.below hB;have HD:=zh hd;have hle:=HLE.out d (List.mem_of_getElem? hd);have hl1:x.x.l=d.2.xs.length:=hxd.2.2.2.1.2.symm;have hl2:x.x.l'=d.2.xs'.length:=hxd.2.2.2.2.2.symm;have hq1:x.x.l≤800000:=zo;have hq2:x.x.l'≤800000:=zo;have HAT:=zh (And.intro hxd.1 (And.intro hxd.2.1 hxd.2.2.1));have i1:(i:Int)<(n:Int):=zo;have i2:(0:Int)≤(i:Int):=zo;clear hel hx hd hxd hle hl1 hl2;have Bz:=zr wr;obtain⟨pA0,pA1,pA2,pA3,pA4,-⟩:=(hnd.below (bT hB Bz)).ez;go_wp2_with fail
   (try simp only[vAa,vB,vC])
   refine zl (.pure 0 (.pure 1 (.pure 2 (.pure 3 (.pure 4 (.take 5 (.pure 6 (.pure 7 (.pure 8 (.pure 9 (.take 10 (.only 11 (.pure 12 (.only 13 (.only 14 (.pure 15 .done)))))))))))))))) [14] (zsa pA0 (zsa pA1 (zsa pA2 (zsa pA3 (zI pA4))))) ?_;iterate 5 (refine zV ?_;try simp only[uW,uX,uY,uZ])
   refine zU ?_;try simp only[uW,uX,uY,uZ]
   iterate 4 (refine zV ?_;try simp only[uW,uX,uY,uZ])
   refine zU ?_;try simp only[uW,uX,uY,uZ]
   refine zC 22 rfl rfl (fun K hK=>?_);go_simp
   with_reducible refine(copyRat_q (FrD.below hfd) zo zo).mono ?_
   rintro e w11 ⟨A11,c11,A11r,c11r,rfl,h11,h11r,b11⟩;replace b11:=zq (a:=wr) b11;replace ho:=ho.below b11;replace hts:=hts.below b11;replace Bz:=bT Bz b11;clear b11;clear pA0 pA1 pA2 pA3 pA4;obtain⟨pA0,pA1,pA2,pA3,pA4,-⟩:=(hnd.below (bT hB Bz)).ez;refine hK.out _ _ ⟨pA0,pA1,pA2,pA3,pA4⟩ (fun _=>?_);try simp only[uW,uX,uY,uZ]
   clear hK K;refine zV ?_;try simp only[uW,uX,uY,uZ]
   refine zC 24 rfl rfl (fun K hK=>?_);go_simp
   refine hK.out _ _ ⟨(zAa pA0),(zAa pA1),(zAa pA2),(zAa pA3),(zAa pA4)⟩ (fun _=>?_);try simp only[uW,uX,uY,uZ]
   clear hK K;refine wpPlan_late (o:=⟨some 25,_,_,_,_,_⟩) rfl rfl zd (fun K hK=>?_);obtain⟨V11,hW,x0,hN⟩:=zAc w11 #[.int .i64 x.at_,.bool x.x.s,.slice A11 x.x.l c11,.bool x.x.s',.slice A11r x.x.l' c11r] 79;rw[←hW];clear hW;obtain⟨v0,hb0⟩:=ze w11.heap.size;rw[←hb0] at x0 ⊢;have ow_0:w.heap.size≤v0:=zi (zw hB Bz);have nv0_own:=OwnR.off' (b:=v0) ho zo;replace h11:=h11.below hN;replace h11r:=h11r.below hN;replace ho:=ho.below hN;replace hts:=hts.below hN;replace hB:=bT (bT hB Bz) hN;have HX0:=zh x0;clear x0 hN Bz hb0;have Bz:=zr V11;clear pA0 pA1 pA2 pA3 pA4;have hdr:V11.drew.heap.size=V11.heap.size:=rfl;have hdr2:V11.drew.drew.heap.size=V11.heap.size:=rfl;refine Elt.wp elt_term _ _ rfl (w.heap.size) (.slice H i hc) (i) (O) rfl ho (.slice (some ⟨v0,0,none⟩) 1 1) (1) ([⟨x.at_,⟨x.x.s,A11,c11,x.x.l,x.x.s',A11r,c11r,x.x.l',x.x.q,x.x.ex⟩⟩]) rfl (From.one (HX0.out.below (bT Bz)) (⟨x.at_,⟨x.x.s,A11,c11,x.x.l,x.x.s',A11r,c11r,x.x.l',x.x.q,x.x.ex⟩⟩) rfl (elt_term.len _)) zo (zi (zw hB Bz)) ?_;intro H12 c12 w12 ho12 hg12;refine hK.out _ _ ?_;try simp only[uW,uX,uY,uZ]
   clear hK K;replace hB:=(bT (bT hB Bz)).trans (hg12.below (zi (zw hB Bz)) (fun g hg=>by have:=ho.base g hg;omega));clear HX0;clear hdr hdr2;replace h11:=h11.k hg12.k;replace h11r:=h11r.k hg12.k;replace hts:=hts.k hg12.k;clear hg12 Bz;have Bz:=zr w12;obtain⟨pA0,pA1,pA2,pA3,pA4,-⟩:=(hnd.below (bT hB Bz)).ez;refine zV ?_;try simp only[uW,uX,uY,uZ]
   refine wpPlan_done ?_;go_wp2_with fail
   go_roundg (n-(i+1))
   case measure=>have:=HGK.out;omega
   case rel=>exact⟨i+1,_,_,_,rfl,by go_num,zo,rfl,OwnR.below ho12,All2.take (TsD.below hts) HD.out ⟨HAT.out.1,HAT.out.2.1,HAT.out.2.2,Nx.below h11,Nx.below h11r⟩,bT (bT hB Bz)⟩
  ·obtain rfl:i=n:=zo;have i1:¬(i:Int)<(i:Int):=zo;have HV:Hid (VcD wr H i hc D):=zh ⟨⟨O,ho.sl' elt_term (ho.eltn elt_term zo),All2.full hts (by rw[HLD.out];exact Nat.le_refl _)⟩,HLE.out⟩;clear ho hts;go_wp2_with fail
   go_ret
   exact⟨H,hc,rfl,HV.out,hB⟩
theorem sameInt_d {w:World} {b:Bool} {A A':Option Addr} {l l' c c':Nat} {xs:List Nat} (h1:Nx w A c l xs) (h2:Nx w A' c' l' xs) (hl:l≤800000) :
  Calls Tryz.prog 85 #[.agg #[.bool b,.slice A l c],.agg #[.bool b,.slice A' l' c']] w fun e w'=>e=.returned (.bool true)∧Below w.heap.size w w':=by
 have g1:(b==b)=true:=by simp
 obtain⟨W,hW,x0,x1,hB⟩:=zAh w #[.bool b,.slice A l c] 63 #[.bool b,.slice A' l' c'] 63;replace h1:=h1.below hB;replace h2:=h2.below hB;have HX0:=zh x0;have HX1:=zh x1;clear x0 x1;have Bz:=zr W;obtain⟨pa0,pa1,-⟩:=(zxb HX0 Bz).cz;obtain⟨pb0,pb1,-⟩:=(zxb HX1 Bz).cz;go_enter Tryz.func85,Tryz.ntmps85
 go_wp2_with fail
 rw[←hW];clear hW;go_wp2_with fail
 with_reducible refine(same_n (Nx.below h1) (Nx.below h2) hl).mono ?_
 rintro e w1 ⟨rfl,b1⟩;replace b1:=zq (a:=W) b1;replace Bz:=bT Bz b1;clear b1;clear pa0 pa1 pb0 pb1;go_wp2_with fail
 go_ret
 have hF:=bT (c:=w1) hB Bz;exact⟨rfl,bT hF⟩
theorem sameRat_d {w:World} {x y:Fr} {d:Dg} (h:FrD w d x) (h':FrD w d y) (hl:x.l≤800000) (hl':x.l'≤800000) :
  Calls Tryz.prog 58 #[.agg #[.bool x.s,.slice x.A x.l x.c,.bool x.s',.slice x.A' x.l' x.c'],.agg #[.bool y.s,.slice y.A y.l y.c,.bool y.s',.slice y.A' y.l' y.c']] w fun e w'=>e=.returned (.bool true)∧Below w.heap.size w w':=by
 obtain⟨e1,e2,h1,h2⟩:=h;obtain⟨e3,e4,k1,k2⟩:=h';rw[e3,e4,←e1,←e2];clear e1 e2 e3 e4;obtain⟨W,hW,x0,x1,hB⟩:=zAh w #[.bool x.s,.slice x.A x.l x.c,.bool x.s',.slice x.A' x.l' x.c'] 65 #[.bool x.s,.slice y.A y.l y.c,.bool x.s',.slice y.A' y.l' y.c'] 65;replace k1:=k1.below hB;replace k2:=k2.below hB;replace h1:=h1.below hB;replace h2:=h2.below hB;have HX0:=zh x0;have HX1:=zh x1;clear x0 x1;have Bz:=zr W;obtain⟨pa0,pa1,-⟩:=(zxb HX0 Bz).cz;obtain⟨pb0,pb1,-⟩:=(zxb HX1 Bz).cz;go_enter Tryz.func58,Tryz.ntmps58
 go_wp2_with fail
 rw[←hW];clear hW;go_wp2_with fail
 with_reducible refine(sameInt_d (Nx.below h1) (Nx.below k1) zo).mono ?_
 rintro e w1 ⟨rfl,b1⟩;replace b1:=zq (a:=W) b1;replace k2:=k2.below b1;replace h2:=h2.below b1;replace Bz:=bT Bz b1;clear b1;clear pa0 pa1 pb0 pb1;obtain⟨-,-,pa2,pa3,-⟩:=(zxb HX0 Bz).cz;obtain⟨-,-,pb2,pb3,-⟩:=(zxb HX1 Bz).cz;go_wp2_with fail
 with_reducible refine(sameInt_d (Nx.below h2) (Nx.below k2) zo).mono ?_
 rintro e w2 ⟨rfl,b2⟩;replace b2:=zq (a:=w1) b2;replace Bz:=bT Bz b2;clear b2;clear pa2 pa3 pb2 pb3;go_wp2_with fail
 go_ret
 have hF:=bT (c:=w2) hB Bz;exact⟨rfl,bT hF⟩
def LK1 (w:World) (n gk:Nat) (s:Value) (wr:World):Prop:=∃i:Nat,i≤n∧n-i=gk∧s=.int .i64 (i:Int)∧Below w.heap.size w wr
theorem sameVec_d {w:World} {A A':Option Addr} {n c n' c':Nat} {D:List (Int×Dg)} (h:VcD w A n c D) (h':VcD w A' n' c' D) (hn:n≤1000000) :
  Calls Tryz.prog 84 #[.slice A n c,.slice A' n' c'] w fun e w'=>e=.returned (.bool true)∧Below w.heap.size w w':=by
 obtain rfl:n=n':=by have h1:=h.len;have h2:=h'.len;omega
 obtain⟨⟨L,h1,h2⟩,h3⟩:=h;obtain⟨⟨L',h1',h2'⟩,_⟩:=h';have HS:=zh h1;have HS':=zh h1';have HLN:=zh h1.1;have HLN':=zh h1'.1;have HTS:=zh h2;have HTS':=zh h2';have HLE:=zh h3;have g0:((n:Int) !=(n:Int))=false:=by simp
 clear h1 h2 h3 h1' h2';go_enter Tryz.func84,Tryz.ntmps84
 go_wp2_with fail
 go_loopg [5] n (fun gk s wr=>LK1 w n gk s wr)
 case atStart=>exact⟨0,Nat.zero_le _,rfl,rfl,Below.refl _ _⟩
 case round =>
  obtain⟨i,hi,hgk,rfl,hB⟩:=hrel;have HGK:=zh hgk;clear hgk;by_cases hlt:i<n
  ·obtain⟨b,off,rfl,hel⟩:=HS.out.at Tm.cs_len zo zo;obtain⟨b',off',rfl,hel'⟩:=HS'.out.at Tm.cs_len zo zo;obtain⟨x,d,hx,hd,hxd⟩:=HTS.out.has (i:=i) (by rw[HLN.out];exact hlt);obtain⟨y,hy⟩:∃y,L'[i]?=some y:=⟨L'[i]'(by rw[HLN'.out];exact hlt),List.getElem?_eq_getElem _⟩;have hyd:=HTS'.out.2 i y d hy hd;have hnd:=hel i x hx;have hnd':ElA w b' (off'+i*5) [.int .i64 x.at_,.bool y.x.s,.slice y.x.A y.x.l y.x.c,.bool y.x.s',.slice y.x.A' y.x.l' y.x.c']:=by rw[hxd.1,←hyd.1];exact hel' i y hy
   have hfx:=hxd.2.below hB;have hfy:=hyd.2.below hB;have hle:=HLE.out d (List.mem_of_getElem? hd);have hl1:x.x.l=d.2.xs.length:=hxd.2.2.2.1.2.symm;have hl2:x.x.l'=d.2.xs'.length:=hxd.2.2.2.2.2.symm;have hq1:x.x.l≤800000:=zo;have hq2:x.x.l'≤800000:=zo;have i1:(i:Int)<(n:Int):=zo;have i2:(0:Int)≤(i:Int):=zo;have g1:(x.at_ != x.at_)=false:=by simp
   clear hel hel' hx hy hd hxd hyd hle hl1 hl2;have Bz:=zr wr;obtain⟨pA0,pA1,pA2,pA3,pA4,-⟩:=(hnd.below (bT hB Bz)).ez;obtain⟨pB0,pB1,pB2,pB3,pB4,-⟩:=(hnd'.below (bT hB Bz)).ez;go_wp2_with fail
   (try simp only[vAa,vB,vC])
   refine zl (zz [0,1,2,3,4,5,6,7,8,9,10,11,12,13,14,15,16,17,18,19,20,21] (.only 22 (zz [23,24] .done))) [] (zsa pA0 (zsa pA1 (zsa pA2 (zsa pA3 (zsa pA4 (zsa pB0 (zsa pB1 (zsa pB2 (zsa pB3 (zI pB4)))))))))) ?_;iterate 22 (refine zU ?_;try simp only[uW,uX,uY,uZ])
   refine zC 39 rfl rfl (fun K hK=>?_);go_simp
   with_reducible refine(sameRat_d (FrD.below hfx) (FrD.below hfy) zo zo).mono ?_
   rintro e w11 ⟨rfl,b11⟩;replace b11:=zq (a:=wr) b11;replace Bz:=bT Bz b11;clear b11;clear pA0 pA1 pA2 pA3 pA4 pB0 pB1 pB2 pB3 pB4;obtain⟨pA0,pA1,pA2,pA3,pA4,-⟩:=(hnd.below (bT hB Bz)).ez;obtain⟨pB0,pB1,pB2,pB3,pB4,-⟩:=(hnd'.below (bT hB Bz)).ez;refine hK.out _ _ ⟨pA0,pA1,pA2,pA3,pA4,pB0,pB1,pB2,pB3,pB4⟩ (fun _=>?_);try simp only[uW,uX,uY,uZ]
   clear hK K;iterate 2 (refine zU ?_;try simp only[uW,uX,uY,uZ])
   refine wpPlan_done ?_;go_wp2_with fail
   go_roundg (n-(i+1))
   case measure=>have:=HGK.out;omega
   case rel=>exact⟨i+1,zo,rfl,by go_num,bT (bT hB Bz)⟩
  ·obtain rfl:i=n:=zo;have i1:¬(i:Int)<(i:Int):=zo;go_wp2_with fail
   go_ret
   exact⟨rfl,hB⟩
theorem VcD.k {w w':World} {A:Option Addr} {n c:Nat} {D:List (Int×Dg)} (h:VcD w A n c D) (hk:K64 w w') (hs:∀L,Sl Tm.cs 5 w A n c L→Sl Tm.cs 5 w' A n c L):VcD w' A n c D:=by
 obtain⟨⟨L,h1,h2⟩,h3⟩:=h;exact⟨⟨L,hs L h1,h2.k hk⟩,h3⟩
open Go.RowKit Tw
theorem copyVecF_q {w:World} {A:Option Addr} {n c:Nat} {D:List (Int×Dg)} (h:VcD w A n c D) (hn:n≤1000000) :
  Calls Tryz.prog 40 #[.slice A n c] w fun e w'=>∃H hc,e=.returned (.slice H n hc)∧VcD w' H n hc D∧(∀a,H=some a→w.heap.size≤a.block∧a.block<w'.heap.size)∧Below w.heap.size w w':=by
 have HLD:=zh h.len;obtain⟨⟨L,h1,h2⟩,h3⟩:=h;have HS:=zh h1;have HLN:=zh h1.1;have HTS:=zh h2;have HLE:=zh h3;clear h1 h2 h3;go_enter Tryz.func40,Tryz.ntmps40
 go_wp2_with fail
 go_loopg [3,4] n (fun gk s3 s4 wr=>CV1 w D n gk s3 s4 wr)
 case atStart=>exact⟨0,none,0,[],rfl,rfl,Nat.zero_le _,rfl,OwnR.nil _ _ _ _,All2.nil,Below.refl _ _⟩
 case round =>
  obtain⟨i,H,hc,O,rfl,rfl,hi,hgk,ho,hts,hB⟩:=hrel;have HGK:=zh hgk;clear hgk;by_cases hlt:i<n
  ·obtain⟨b,off,rfl,hel⟩:=HS.out.at Tm.cs_len zo zo;obtain⟨x,d,hx,hd,hxd⟩:=HTS.out.has (i:=i) (by rw[HLN.out];exact hlt);have hnd:=hel i x hx;have hfd:=hxd.2.below hB;have HD:=zh hd;have hle:=HLE.out d (List.mem_of_getElem? hd);have hl1:x.x.l=d.2.xs.length:=hxd.2.2.2.1.2.symm;have hl2:x.x.l'=d.2.xs'.length:=hxd.2.2.2.2.2.symm;have hq1:x.x.l≤800000:=zo;have hq2:x.x.l'≤800000:=zo;have HAT:=zh (And.intro hxd.1 (And.intro hxd.2.1 hxd.2.2.1));have i1:(i:Int)<(n:Int):=zo;have i2:(0:Int)≤(i:Int):=zo;clear hel hx hd hxd hle hl1 hl2;have Bz:=zr wr;obtain⟨pA0,pA1,pA2,pA3,pA4,-⟩:=(hnd.below (bT hB Bz)).ez;go_wp2_with fail
   (try simp only[vAa,vB,vC])
   refine zl (.pure 0 (.pure 1 (.pure 2 (.pure 3 (.pure 4 (.take 5 (.pure 6 (.pure 7 (.pure 8 (.pure 9 (.take 10 (.only 11 (.pure 12 (.only 13 (.only 14 (.pure 15 .done)))))))))))))))) [14] (zsa pA0 (zsa pA1 (zsa pA2 (zsa pA3 (zI pA4))))) ?_;iterate 5 (refine zV ?_;try simp only[uW,uX,uY,uZ])
   refine zU ?_;try simp only[uW,uX,uY,uZ]
   iterate 4 (refine zV ?_;try simp only[uW,uX,uY,uZ])
   refine zU ?_;try simp only[uW,uX,uY,uZ]
   refine zC 22 rfl rfl (fun K hK=>?_);go_simp
   with_reducible refine(copyRat_q (FrD.below hfd) zo zo).mono ?_
   rintro e w11 ⟨A11,c11,A11r,c11r,rfl,h11,h11r,b11⟩;replace b11:=zq (a:=wr) b11;replace ho:=ho.below b11;replace hts:=hts.below b11;replace Bz:=bT Bz b11;clear b11;clear pA0 pA1 pA2 pA3 pA4;obtain⟨pA0,pA1,pA2,pA3,pA4,-⟩:=(hnd.below (bT hB Bz)).ez;refine hK.out _ _ ⟨pA0,pA1,pA2,pA3,pA4⟩ (fun _=>?_);try simp only[uW,uX,uY,uZ]
   clear hK K;refine zV ?_;try simp only[uW,uX,uY,uZ]
   refine zC 24 rfl rfl (fun K hK=>?_);go_simp
   refine hK.out _ _ ⟨(zAa pA0),(zAa pA1),(zAa pA2),(zAa pA3),(zAa pA4)⟩ (fun _=>?_);try simp only[uW,uX,uY,uZ]
   clear hK K;refine wpPlan_late (o:=⟨some 25,_,_,_,_,_⟩) rfl rfl zd (fun K hK=>?_);obtain⟨V11,hW,x0,hN⟩:=zAc w11 #[.int .i64 x.at_,.bool x.x.s,.slice A11 x.x.l c11,.bool x.x.s',.slice A11r x.x.l' c11r] 79;rw[←hW];clear hW;obtain⟨v0,hb0⟩:=ze w11.heap.size;rw[←hb0] at x0 ⊢;have ow_0:w.heap.size≤v0:=zi (zw hB Bz);have nv0_own:=OwnR.off' (b:=v0) ho zo;replace h11:=h11.below hN;replace h11r:=h11r.below hN;replace ho:=ho.below hN;replace hts:=hts.below hN;replace hB:=bT (bT hB Bz) hN;have HX0:=zh x0;clear x0 hN Bz hb0;have Bz:=zr V11;clear pA0 pA1 pA2 pA3 pA4;have hdr:V11.drew.heap.size=V11.heap.size:=rfl;have hdr2:V11.drew.drew.heap.size=V11.heap.size:=rfl;refine Elt.wp elt_term _ _ rfl (w.heap.size) (.slice H i hc) (i) (O) rfl ho (.slice (some ⟨v0,0,none⟩) 1 1) (1) ([⟨x.at_,⟨x.x.s,A11,c11,x.x.l,x.x.s',A11r,c11r,x.x.l',x.x.q,x.x.ex⟩⟩]) rfl (From.one (HX0.out.below (bT Bz)) (⟨x.at_,⟨x.x.s,A11,c11,x.x.l,x.x.s',A11r,c11r,x.x.l',x.x.q,x.x.ex⟩⟩) rfl (elt_term.len _)) zo (zi (zw hB Bz)) ?_;intro H12 c12 w12 ho12 hg12;refine hK.out _ _ ?_;try simp only[uW,uX,uY,uZ]
   clear hK K;replace hB:=(bT (bT hB Bz)).trans (hg12.below (zi (zw hB Bz)) (fun g hg=>by have:=ho.base g hg;omega));clear HX0;clear hdr hdr2;replace h11:=h11.k hg12.k;replace h11r:=h11r.k hg12.k;replace hts:=hts.k hg12.k;clear hg12 Bz;have Bz:=zr w12;obtain⟨pA0,pA1,pA2,pA3,pA4,-⟩:=(hnd.below (bT hB Bz)).ez;refine zV ?_;try simp only[uW,uX,uY,uZ]
   refine wpPlan_done ?_;go_wp2_with fail
   go_roundg (n-(i+1))
   case measure=>have:=HGK.out;omega
   case rel=>exact⟨i+1,_,_,_,rfl,by go_num,zo,rfl,OwnR.below ho12,All2.take (TsD.below hts) HD.out ⟨HAT.out.1,HAT.out.2.1,HAT.out.2.2,Nx.below h11,Nx.below h11r⟩,bT (bT hB Bz)⟩
  ·obtain rfl:i=n:=zo;have i1:¬(i:Int)<(i:Int):=zo;have HV:Hid (VcD wr H i hc D):=zh ⟨⟨O,ho.sl' elt_term (ho.eltn elt_term zo),All2.full hts (by rw[HLD.out];exact Nat.le_refl _)⟩,HLE.out⟩;have HBA:Hid (∀a,H=some a→w.heap.size≤a.block∧a.block<wr.heap.size):=zh (fun a ha=>by subst ha;exact⟨ho.base a.block rfl,ho.lt a.block rfl⟩);clear ho hts;go_wp2_with fail
   go_ret
   exact⟨H,hc,rfl,HV.out,HBA.out,hB⟩
def VcN (w:World) (X:Value) (v:Vc) (D:List (Int×Dg)):Prop:=VcD w v.A v.n v.c D∧∀a,v.A=some a→a.block<w.heap.size∧some a.block≠X.ownBlock
theorem VcN.below {w w':World} {X:Value} {v:Vc} {D:List (Int×Dg)} (h:VcN w X v D) (hb:Below w.heap.size w w':=by go_grown):VcN w' X v D:=⟨h.1.below hb,fun a ha=>⟨Nat.lt_of_lt_of_le (h.2 a ha).1 hb.size,(h.2 a ha).2⟩⟩
def VsN (w:World) (X:Value) (O:List Vc) (E:List (List (Int×Dg))):Prop:=All2 (VcN w X) O E
theorem VsN.below {w w':World} {X:Value} {O:List Vc} {E:List (List (Int×Dg))} (h:VsN w X O E) (hb:Below w.heap.size w w':=by go_grown):VsN w' X O E:=All2.mono h fun _ _ hx=>hx.below hb
def RowsD (w:World) (A:Option Addr) (n c:Nat) (E:List (List (Int×Dg))):Prop:=(∃CL:List Vc,Sl Vc.cs 1 w A n c CL∧All2 (fun v D=>VcD w v.A v.n v.c D) CL E)∧∀D∈E,D.length≤1000000
theorem RowsD.below {w w':World} {A:Option Addr} {n c:Nat} {E:List (List (Int×Dg))} (h:RowsD w A n c E) (hb:Below w.heap.size w w':=by go_grown):RowsD w' A n c E:=by
 obtain⟨⟨CL,h1,h2⟩,h3⟩:=h;exact⟨⟨CL,h1.below hb,All2.mono h2 fun _ _ hx=>hx.below hb⟩,h3⟩
theorem RowsD.len {w:World} {A:Option Addr} {n c:Nat} {E:List (List (Int×Dg))} (h:RowsD w A n c E):E.length=n:=by
 obtain⟨⟨CL,h1,h2⟩,_⟩:=h;rw[←h2.1,h1.1]
def CW1 (w:World) (E:List (List (Int×Dg))) (n gk:Nat) (s3 s4:Value) (wr:World):Prop :=
 ∃(i:Nat) (H:Option Addr) (hc:Nat) (O:List Vc),s3=.slice H i hc∧s4=.int .i64 (i:Int)∧i≤n∧n-i=gk∧OwnR wr w.heap.size 75 1 (.slice H i hc) i (flat Vc.cs O)∧VsN wr (.slice H i hc) O (E.take i)∧Below w.heap.size w wr
theorem sameVecs_d {w:World} {A A':Option Addr} {n c n' c':Nat} {E:List (List (Int×Dg))} (h:RowsD w A n c E) (h':RowsD w A' n' c' E) (hn:n≤1000000) :
  Calls Tryz.prog 56 #[.slice A n c,.slice A' n' c'] w fun e w'=>e=.returned (.bool true)∧Below w.heap.size w w':=by
 obtain rfl:n=n':=by have h1:=h.len;have h2:=h'.len;omega
 obtain⟨⟨L,h1,h2⟩,h3⟩:=h;obtain⟨⟨L',h1',h2'⟩,_⟩:=h';have HS:=zh h1;have HS':=zh h1';have HLN:=zh h1.1;have HLN':=zh h1'.1;have HVS:=zh h2;have HVS':=zh h2';have HEL:=zh h3;have g0:((n:Int) !=(n:Int))=false:=by simp
 clear h1 h2 h3 h1' h2';go_enter Tryz.func56,Tryz.ntmps56
 go_wp2_with fail
 go_loopg [5] n (fun gk s wr=>LK1 w n gk s wr)
 case atStart=>exact⟨0,Nat.zero_le _,rfl,rfl,Below.refl _ _⟩
 case round =>
  obtain⟨i,hi,hgk,rfl,hB⟩:=hrel;have HGK:=zh hgk;clear hgk;by_cases hlt:i<n
  ·obtain⟨b,off,rfl,hel⟩:=HS.out.at Vc.cs_len zo zo;obtain⟨b',off',rfl,hel'⟩:=HS'.out.at Vc.cs_len zo zo;obtain⟨u,d,hu,hd,hud⟩:=HVS.out.has (i:=i) (by rw[HLN.out];exact hlt);obtain⟨v,hv⟩:∃v,L'[i]?=some v:=⟨L'[i]'(by rw[HLN'.out];exact hlt),List.getElem?_eq_getElem _⟩;have hvd0:=HVS'.out.2 i v d hv hd;have hnd:ElA w b (off+i) (Vc.cs u):=by have:=hel i u hu;rwa [Nat.mul_one] at this
   have hnd':ElA w b' (off'+i) (Vc.cs v):=by have:=hel' i v hv;rwa [Nat.mul_one] at this
   have hvx:=VcD.below hud hB;have hvy:=VcD.below hvd0 hB;have hvn:u.n≤1000000:=by have h1:=VcD.len hud;have h2:=HEL.out d (List.mem_of_getElem? hd);omega
   have i1:(i:Int)<(n:Int):=zo;have i2:(0:Int)≤(i:Int):=zo;clear hel hel' hu hv hd hud hvd0;have Bz:=zr wr;have pA0:=(hnd.below (bT hB Bz)).c0 (u:=.slice u.A u.n u.c) rfl;have pB0:=(hnd'.below (bT hB Bz)).c0 (u:=.slice v.A v.n v.c) rfl;go_wp2_with fail
   (try simp only[vAa,vB,vC])
   refine zl (zz [0,1,2,3,4,5,6,7] (.only 8 (.take 9 .done))) [] (zsa pA0 (zI pB0)) ?_;iterate 8 (refine zU ?_;try simp only[uW,uX,uY,uZ])
   refine zC 25 rfl rfl (fun K hK=>?_);go_simp
   with_reducible refine(sameVec_d (VcD.below hvx) (VcD.below hvy) hvn).mono ?_
   rintro e w11 ⟨rfl,b11⟩;replace b11:=zq (a:=wr) b11;replace Bz:=bT Bz b11;clear b11;clear pA0 pB0;have pA0:=(hnd.below (bT hB Bz)).c0 (u:=.slice u.A u.n u.c) rfl;have pB0:=(hnd'.below (bT hB Bz)).c0 (u:=.slice v.A v.n v.c) rfl;refine hK.out _ _ ⟨pA0,pB0⟩ (fun _=>?_);try simp only[uW,uX,uY,uZ]
   clear hK K;refine zU ?_;try simp only[uW,uX,uY,uZ]
   refine wpPlan_done ?_;go_wp2_with fail
   go_roundg (n-(i+1))
   case measure=>have:=HGK.out;omega
   case rel=>exact⟨i+1,zo,rfl,by go_num,bT (bT hB Bz)⟩
  ·obtain rfl:i=n:=zo;have i1:¬(i:Int)<(i:Int):=zo;go_wp2_with fail
   go_ret
   exact⟨rfl,hB⟩
open Go.RowKit Tw
def FsR (w:World) (L:List Fr) (D:List Dg):Prop:=All2 (fun x d=>FrD w d x) L D
theorem FsR.below {w w':World} {L:List Fr} {D:List Dg} (h:FsR w L D) (hb:Below w.heap.size w w':=by go_grown):FsR w' L D:=All2.mono h fun _ _ hx=>hx.below hb
theorem FsR.k {w w':World} {L:List Fr} {D:List Dg} (h:FsR w L D) (hb:K64 w w'):FsR w' L D:=All2.mono h fun _ _ hx=>hx.k hb
def FsD (w:World) (A:Option Addr) (n c:Nat) (D:List Dg):Prop:=(∃L,Sl Fr.cs 4 w A n c L∧FsR w L D)∧∀d∈D,d.xs.length≤800000∧d.xs'.length≤800000
theorem FsD.below {w w':World} {A:Option Addr} {n c:Nat} {D:List Dg} (h:FsD w A n c D) (hb:Below w.heap.size w w':=by go_grown):FsD w' A n c D:=by
 obtain⟨⟨L,h1,h2⟩,h3⟩:=h;exact⟨⟨L,h1.below hb,h2.below hb⟩,h3⟩
theorem FsD.len {w:World} {A:Option Addr} {n c:Nat} {D:List Dg} (h:FsD w A n c D):D.length=n:=by
 obtain⟨⟨L,h1,h2⟩,_⟩:=h;rw[←h2.1,h1.1]
theorem fsd_of {w:World} {A:Option Addr} {n c m:Nat} {L:List Fr} (h:Sl Fr.cs 4 w A n c L) (hm:m≤800000) (hi:∀t∈L,FrOk w m t∧t.l≤m∧t.l'≤m):∃D,FsD w A n c D:=by
 obtain⟨D,hD⟩:=All2.of (R:=fun x d=>FrD w d x) (L:=L) fun t ht=>(hi t ht).1.dg;refine⟨D,⟨L,h,hD⟩,fun d hd=>?_⟩;obtain⟨i,hid⟩:=List.getElem?_of_mem hd;have hi2:i<L.length:=by rw[hD.1];exact(List.getElem?_eq_some_iff.1 hid).1
 have h1:=hD.2 i _ d (List.getElem?_eq_getElem hi2) hid;have h2:=hi _ (List.getElem_mem hi2);rw[h1.2.2.1.2,h1.2.2.2.2];omega
def CF1 (w:World) (D:List Dg) (n gk:Nat) (s3 s4:Value) (wr:World):Prop :=
 ∃(i:Nat) (H:Option Addr) (hc:Nat) (O:List Fr),s3=.slice H i hc∧s4=.int .i64 (i:Int)∧i≤n∧n-i=gk∧OwnR wr w.heap.size 65 4 (.slice H i hc) i (flat Fr.cs O)∧FsR wr O (D.take i)∧Below w.heap.size w wr
theorem copyRats_q {w:World} {A:Option Addr} {n c:Nat} {D:List Dg} (h:FsD w A n c D) (hn:n≤1000000) :
  Calls Tryz.prog 23 #[.slice A n c] w fun e w'=>∃H hc,e=.returned (.slice H n hc)∧FsD w' H n hc D∧(∀a,H=some a→w.heap.size≤a.block∧a.block<w'.heap.size)∧Below w.heap.size w w':=by
 have HLD:=zh h.len;obtain⟨⟨L,h1,h2⟩,h3⟩:=h;have HS:=zh h1;have HLN:=zh h1.1;have HTS:=zh h2;have HLE:=zh h3;clear h1 h2 h3;go_enter Tryz.func23,Tryz.ntmps23
 go_wp2_with fail
 go_loopg [3,4] n (fun gk s3 s4 wr=>CF1 w D n gk s3 s4 wr)
 case atStart=>exact⟨0,none,0,[],rfl,rfl,Nat.zero_le _,rfl,OwnR.nil _ _ _ _,All2.nil,Below.refl _ _⟩
 case round =>
  obtain⟨i,H,hc,O,rfl,rfl,hi,hgk,ho,hts,hB⟩:=hrel;have HGK:=zh hgk;clear hgk;by_cases hlt:i<n
  ·obtain⟨b,off,rfl,hel⟩:=HS.out.at Fr.cs_len zo zo;obtain⟨x,d,hx,hd,hxd⟩:=HTS.out.has (i:=i) (by rw[HLN.out];exact hlt);have hnd:=hel i x hx;have hfd:=hxd.below hB;have HD:=zh hd;have hle:=HLE.out d (List.mem_of_getElem? hd);have hl1:x.l=d.xs.length:=hxd.2.2.1.2.symm;have hl2:x.l'=d.xs'.length:=hxd.2.2.2.2.symm;have hq1:x.l≤800000:=zo;have hq2:x.l'≤800000:=zo;have HAT:=zh (And.intro hxd.1 hxd.2.1);have i1:(i:Int)<(n:Int):=zo;have i2:(0:Int)≤(i:Int):=zo;clear hel hx hd hxd hle hl1 hl2;have Bz:=zr wr;obtain⟨pA0,pA1,pA2,pA3,-⟩:=(hnd.below (bT hB Bz)).ez;go_wp2_with fail
   with_reducible refine(copyRat_q (FrD.below hfd) zo zo).mono ?_
   rintro e w11 ⟨A11,c11,A11r,c11r,rfl,h11,h11r,b11⟩;replace b11:=zq (a:=wr) b11;replace hts:=hts.below b11;replace ho:=ho.below b11;replace Bz:=bT Bz b11;clear b11;clear pA0 pA1 pA2 pA3;go_wp2_with (at_builtin;refine And.left (b:=True) ?_)
   refine⟨?_,trivial⟩;obtain⟨V11,hW,x0,hN⟩:=zAc w11 #[.bool x.s,.slice A11 x.l c11,.bool x.s',.slice A11r x.l' c11r] 65;rw[←hW];clear hW;obtain⟨v0,hb0⟩:=ze w11.heap.size;rw[←hb0] at x0 ⊢;have ow_0:w.heap.size≤v0:=zi (zw hB Bz);have nv0_own:=OwnR.off' (b:=v0) ho zo;replace hts:=hts.below hN;replace h11:=h11.below hN;replace h11r:=h11r.below hN;replace ho:=ho.below hN;replace hB:=bT (bT hB Bz) hN;have HX0:=zh x0;clear x0 hN Bz hb0;have Bz:=zr V11;have hdr:V11.drew.heap.size=V11.heap.size:=rfl;have hdr2:V11.drew.drew.heap.size=V11.heap.size:=rfl;refine Elt.app elt_frs rfl _ _ rfl (w.heap.size) (.slice H i hc) (i) (O) rfl ho (.slice (some ⟨v0,0,none⟩) 1 1) (1) ([⟨x.s,A11,c11,x.l,x.s',A11r,c11r,x.l',x.q,x.ex⟩]) rfl (From.one (HX0.out.below (bT Bz)) (⟨x.s,A11,c11,x.l,x.s',A11r,c11r,x.l',x.q,x.ex⟩) rfl (elt_frs.len _)) zo (zi (zw hB Bz)) ?_;intro H12 c12 w12 ho12 hg12;replace hB:=(bT (bT hB Bz)).trans (hg12.below (zi (zw hB Bz)) (fun g hg=>by have:=ho.base g hg;omega));clear HX0;clear hdr hdr2;replace hts:=hts.k hg12.k;replace h11:=h11.k hg12.k;replace h11r:=h11r.k hg12.k;clear hg12 Bz;have Bz:=zr w12;go_wp2_with fail
   go_roundg (n-(i+1))
   case measure=>have:=HGK.out;omega
   case rel=>exact⟨i+1,_,_,_,rfl,by go_num,zo,rfl,OwnR.below ho12,All2.take (FsR.below hts) HD.out ⟨HAT.out.1,HAT.out.2,Nx.below h11,Nx.below h11r⟩,bT (bT hB Bz)⟩
  ·obtain rfl:i=n:=zo;have i1:¬(i:Int)<(i:Int):=zo;have HV:Hid (FsD wr H i hc D):=zh ⟨⟨O,ho.sl' elt_frs (ho.eltn elt_frs zo),All2.full hts (by rw[HLD.out];exact Nat.le_refl _)⟩,HLE.out⟩;have HBA:Hid (∀a,H=some a→w.heap.size≤a.block∧a.block<wr.heap.size):=zh (fun a ha=>by subst ha;exact⟨ho.base a.block rfl,ho.lt a.block rfl⟩);clear ho hts;go_wp2_with fail
   go_ret
   exact⟨H,hc,rfl,HV.out,HBA.out,hB⟩
theorem sameRats_d {w:World} {A A':Option Addr} {n c n' c':Nat} {D:List Dg} (h:FsD w A n c D) (h':FsD w A' n' c' D) (hn:n≤1000000) :
  Calls Tryz.prog 36 #[.slice A n c,.slice A' n' c'] w fun e w'=>e=.returned (.bool true)∧Below w.heap.size w w':=by
 obtain rfl:n=n':=by have h1:=h.len;have h2:=h'.len;omega
 obtain⟨⟨L,h1,h2⟩,h3⟩:=h;obtain⟨⟨L',h1',h2'⟩,_⟩:=h';have HS:=zh h1;have HS':=zh h1';have HLN:=zh h1.1;have HLN':=zh h1'.1;have HTS:=zh h2;have HTS':=zh h2';have HLE:=zh h3;have g0:((n:Int) !=(n:Int))=false:=by simp
 clear h1 h2 h3 h1' h2';go_enter Tryz.func36,Tryz.ntmps36
 go_wp2_with fail
 go_loopg [5] n (fun gk s wr=>LK1 w n gk s wr)
 case atStart=>exact⟨0,Nat.zero_le _,rfl,rfl,Below.refl _ _⟩
 case round =>
  obtain⟨i,hi,hgk,rfl,hB⟩:=hrel;have HGK:=zh hgk;clear hgk;by_cases hlt:i<n
  ·obtain⟨b,off,rfl,hel⟩:=HS.out.at Fr.cs_len zo zo;obtain⟨b',off',rfl,hel'⟩:=HS'.out.at Fr.cs_len zo zo;obtain⟨x,d,hx,hd,hxd⟩:=HTS.out.has (i:=i) (by rw[HLN.out];exact hlt);obtain⟨y,hy⟩:∃y,L'[i]?=some y:=⟨L'[i]'(by rw[HLN'.out];exact hlt),List.getElem?_eq_getElem _⟩;have hyd:=HTS'.out.2 i y d hy hd;have hnd:=hel i x hx;have hnd':=hel' i y hy;have hfx:=hxd.below hB;have hfy:=FrD.below hyd hB;have hle:=HLE.out d (List.mem_of_getElem? hd);have hl1:x.l=d.xs.length:=hxd.2.2.1.2.symm;have hl2:x.l'=d.xs'.length:=hxd.2.2.2.2.symm;have hq1:x.l≤800000:=zo;have hq2:x.l'≤800000:=zo;have i1:(i:Int)<(n:Int):=zo;have i2:(0:Int)≤(i:Int):=zo;clear hel hel' hx hy hd hxd hyd hle hl1 hl2;have Bz:=zr wr;obtain⟨pA0,pA1,pA2,pA3,-⟩:=(hnd.below (bT hB Bz)).ez;obtain⟨pB0,pB1,pB2,pB3,-⟩:=(hnd'.below (bT hB Bz)).ez;go_wp2_with fail
   (try simp only[vAa,vB,vC])
   refine zl (zz [0,1,2,3,4,5,6,7] (.only 8 (.take 9 .done))) [] (zsa pA0 (zsa pA1 (zsa pA2 (zsa pA3 (zsa pB0 (zsa pB1 (zsa pB2 (zI pB3)))))))) ?_;iterate 8 (refine zU ?_;try simp only[uW,uX,uY,uZ])
   refine zC 25 rfl rfl (fun K hK=>?_);go_simp
   with_reducible refine(sameRat_d (FrD.below hfx) (FrD.below hfy) zo zo).mono ?_
   rintro e w11 ⟨rfl,b11⟩;replace b11:=zq (a:=wr) b11;replace Bz:=bT Bz b11;clear b11;clear pA0 pA1 pA2 pA3 pB0 pB1 pB2 pB3;obtain⟨pA0,pA1,pA2,pA3,-⟩:=(hnd.below (bT hB Bz)).ez;obtain⟨pB0,pB1,pB2,pB3,-⟩:=(hnd'.below (bT hB Bz)).ez;refine hK.out _ _ ⟨pA0,pA1,pA2,pA3,pB0,pB1,pB2,pB3⟩ (fun _=>?_);try simp only[uW,uX,uY,uZ]
   clear hK K;refine zU ?_;try simp only[uW,uX,uY,uZ]
   refine wpPlan_done ?_;go_wp2_with fail
   go_roundg (n-(i+1))
   case measure=>have:=HGK.out;omega
   case rel=>exact⟨i+1,zo,rfl,by go_num,bT (bT hB Bz)⟩
  ·obtain rfl:i=n:=zo;have i1:¬(i:Int)<(i:Int):=zo;go_wp2_with fail
   go_ret
   exact⟨rfl,hB⟩
def GsD (w:World) (A:Option Addr) (n c:Nat) (E:List (List Int)):Prop:=(∃CL:List Gp,Sl Gp.cs 1 w A n c CL∧All2 (fun v D=>Sl ics 1 w v.A v.n v.c D) CL E)∧∀D∈E,D.length≤1000000
theorem GsD.below {w w':World} {A:Option Addr} {n c:Nat} {E:List (List Int)} (h:GsD w A n c E) (hb:Below w.heap.size w w':=by go_grown):GsD w' A n c E:=by
 obtain⟨⟨CL,h1,h2⟩,h3⟩:=h;exact⟨⟨CL,h1.below hb,All2.mono h2 fun _ _ hx=>hx.below hb⟩,h3⟩
theorem GsD.len {w:World} {A:Option Addr} {n c:Nat} {E:List (List Int)} (h:GsD w A n c E):E.length=n:=by
 obtain⟨⟨CL,h1,h2⟩,_⟩:=h;rw[←h2.1,h1.1]
theorem sameGroups_d {w:World} {A A':Option Addr} {n c n' c':Nat} {E:List (List Int)} (h:GsD w A n c E) (h':GsD w A' n' c' E) (hn:n≤1000000) :
  Calls Tryz.prog 57 #[.slice A n c,.slice A' n' c'] w fun e w'=>e=.returned (.bool true)∧Below w.heap.size w w':=by
 obtain rfl:n=n':=by have h1:=h.len;have h2:=h'.len;omega
 obtain⟨⟨L,h1,h2⟩,h3⟩:=h;obtain⟨⟨L',h1',h2'⟩,_⟩:=h';have HS:=zh h1;have HS':=zh h1';have HLN:=zh h1.1;have HLN':=zh h1'.1;have HVS:=zh h2;have HVS':=zh h2';have HEL:=zh h3;have g0:((n:Int) !=(n:Int))=false:=by simp
 clear h1 h2 h3 h1' h2';go_enter Tryz.func57,Tryz.ntmps57
 go_wp2_with fail
 go_loopg [5] n (fun gk s wr=>LK1 w n gk s wr)
 case atStart=>exact⟨0,Nat.zero_le _,rfl,rfl,Below.refl _ _⟩
 case round =>
  obtain⟨i,hi,hgk,rfl,hB⟩:=hrel;have HGK:=zh hgk;clear hgk;by_cases hlt:i<n
  ·obtain⟨b,off,rfl,hel⟩:=HS.out.at Gp.cs_len zo zo;obtain⟨b',off',rfl,hel'⟩:=HS'.out.at Gp.cs_len zo zo;obtain⟨u,d,hu,hd,hud⟩:=HVS.out.has (i:=i) (by rw[HLN.out];exact hlt);obtain⟨v,hv⟩:∃v,L'[i]?=some v:=⟨L'[i]'(by rw[HLN'.out];exact hlt),List.getElem?_eq_getElem _⟩;have hvd0:Sl ics 1 w v.A v.n v.c d:=HVS'.out.2 i v d hv hd;have hnd:ElA w b (off+i) (Gp.cs u):=by have:=hel i u hu;rwa [Nat.mul_one] at this
   have hnd':ElA w b' (off'+i) (Gp.cs v):=by have:=hel' i v hv;rwa [Nat.mul_one] at this
   have hvx:=hud.below hB;have hvy:=hvd0.below hB;have hvn:u.n≤1000000∧v.n≤1000000:=by have h1:=hud.1;have h2:=HEL.out d (List.mem_of_getElem? hd);have h3:=hvd0.1;omega
   have i1:(i:Int)<(n:Int):=zo;have i2:(0:Int)≤(i:Int):=zo;clear hel hel' hu hv hd hud hvd0;have Bz:=zr wr;have pA0:=(hnd.below (bT hB Bz)).c0 (u:=.slice u.A u.n u.c) rfl;have pB0:=(hnd'.below (bT hB Bz)).c0 (u:=.slice v.A v.n v.c) rfl;go_wp2_with fail
   (try simp only[vAa,vB,vC])
   refine zl (zz [0,1,2,3,4,5,6,7] (.only 8 (.take 9 .done))) [] (zsa pA0 (zI pB0)) ?_;iterate 8 (refine zU ?_;try simp only[uW,uX,uY,uZ])
   refine zC 25 rfl rfl (fun K hK=>?_);go_simp
   with_reducible refine(sameInts_q (Sl.below hvx) (Sl.below hvy) zo zo true (zh (decide_eq_true rfl))).mono ?_
   rintro e w11 ⟨rfl,b11⟩;replace b11:=zq (a:=wr) b11;replace Bz:=bT Bz b11;clear b11;clear pA0 pB0;have pA0:=(hnd.below (bT hB Bz)).c0 (u:=.slice u.A u.n u.c) rfl;have pB0:=(hnd'.below (bT hB Bz)).c0 (u:=.slice v.A v.n v.c) rfl;refine hK.out _ _ ⟨pA0,pB0⟩ (fun _=>?_);try simp only[uW,uX,uY,uZ]
   clear hK K;refine zU ?_;try simp only[uW,uX,uY,uZ]
   refine wpPlan_done ?_;go_wp2_with fail
   go_roundg (n-(i+1))
   case measure=>have:=HGK.out;omega
   case rel=>exact⟨i+1,zo,rfl,by go_num,bT (bT hB Bz)⟩
  ·obtain rfl:i=n:=zo;have i1:¬(i:Int)<(i:Int):=zo;go_wp2_with fail
   go_ret
   exact⟨rfl,hB⟩
open Go.RowKit Tw
structure Rob (w:World) (s e:Nat) (P:World→Prop):Prop where
 le:e≤w.heap.size
 on:∀w',K64 w w'→(∀b j,s≤b→b<e→w'.cell? ⟨b,j,none⟩=w.cell? ⟨b,j,none⟩)→P w'
section
variable {w w':World} {s e:Nat} {P Q:World→Prop}
theorem Rob.here (h:Rob w s e P):P w:=h.on w (K64.refl w) fun _ _ _ _=>rfl
theorem Rob.below (h:Rob w s e P) (hb:Below w.heap.size w w':=by go_grown):Rob w' s e P :=
 ⟨Nat.le_trans h.le hb.size,fun v hk hc=>h.on v ((K64.below hb).trans hk) fun b j h1 h2=>(hc b j h1 h2).trans (hb.cell (p:=⟨b,j,none⟩) (Nat.lt_of_lt_of_le h2 h.le))⟩
theorem Rob.off {b:Nat} (h:Rob w s e P) (ho:∀(k j:Nat),k≠b→w'.cell? ⟨k,j,none⟩=w.cell? ⟨k,j,none⟩) (hk:K64 w w') (hz:w.heap.size≤w'.heap.size) (hn:b<s∨e≤b):Rob w' s e P :=
 ⟨Nat.le_trans h.le hz,fun v hk' hc=>h.on v (hk.trans hk') fun b' j h1 h2=>(hc b' j h1 h2).trans (ho b' j zo)⟩
theorem Rob.grow {X X':Value} (h:Rob w s e P) (hg:Grew w w' X X') (hn:∀g,X.ownBlock=some g→g<s∨e≤g):Rob w' s e P :=
 ⟨Nat.le_trans h.le hg.size,fun v hk hc=>h.on v (hg.k.trans hk) fun b j h1 h2=>(hc b j h1 h2).trans (World.cell?_of_block (hg.by_.block b (Nat.lt_of_lt_of_le h2 h.le) (fun c=>by have:=hn b c.symm;omega)))⟩
theorem Rob.wide {s' e':Nat} (h:Rob w s e P) (hs:s'≤s) (he:e≤e') (hl:e'≤w.heap.size):Rob w s' e' P :=
 ⟨hl,fun v hk hc=>h.on v hk fun b j h1 h2=>hc b j zo zo⟩
theorem Rob.and (h:Rob w s e P) (k:Rob w s e Q):Rob w s e (fun u=>P u∧Q u):=⟨h.le,fun v hk hc=>⟨h.on v hk hc,k.on v hk hc⟩⟩
theorem Rob.imp (h:Rob w s e P) (hi:∀u,P u→Q u):Rob w s e Q:=⟨h.le,fun v hk hc=>hi v (h.on v hk hc)⟩
end
theorem Sl.rob {α:Type} {f:α→List Value} {k:Nat} {w:World} {n c s e:Nat} {A:Option Addr} {L:List α} (h:Sl f k w A n c L) (hA:∀a,A=some a→s≤a.block∧a.block<e) (he:e≤w.heap.size):Rob w s e (fun u=>Sl f k u A n c L):=by
 obtain⟨h1,h2,A',c',e',h3,h4⟩:=h;cases e';refine⟨he,fun v _ hc=>⟨h1,h2,A,c,rfl,h3,fun a ha j u hu=>?_⟩⟩;have h5:=h4 a ha j u hu;have h6:=World.cell?_spot h5;have h7:(a.add j).block=a.block:=by unfold Addr.add;split<;>rfl
 rw[←h5];have h8:a.add j=⟨a.block,(a.add j).off,none⟩:=by
  rw[←h7,←h6]
 rw[h8];exact hc _ _ (hA a ha).1 (hA a ha).2
theorem VcD.rob {w:World} {A:Option Addr} {n c s e:Nat} {D:List (Int×Dg)} (h:VcD w A n c D) (hA:∀a,A=some a→s≤a.block∧a.block<e) (he:e≤w.heap.size):Rob w s e (fun u=>VcD u A n c D):=by
 obtain⟨⟨L,h1,h2⟩,h3⟩:=h;exact⟨he,fun v hk hc=>⟨⟨L,(h1.rob hA he).on v hk hc,h2.k hk⟩,h3⟩⟩
theorem FsD.rob {w:World} {A:Option Addr} {n c s e:Nat} {D:List Dg} (h:FsD w A n c D) (hA:∀a,A=some a→s≤a.block∧a.block<e) (he:e≤w.heap.size):Rob w s e (fun u=>FsD u A n c D):=by
 obtain⟨⟨L,h1,h2⟩,h3⟩:=h;exact⟨he,fun v hk hc=>⟨⟨L,(h1.rob hA he).on v hk hc,h2.k hk⟩,h3⟩⟩
def LR1 {α β:Type} (R:World→α→β→Prop) (w:World) (X:Value) (b:Nat) (x:α) (d:β):Prop:=∃s e,b≤s∧(∀g,X.ownBlock=some g→g<s∨e≤g)∧Rob w s e (fun u=>R u x d)
def LR {α β:Type} (R:World→α→β→Prop) (w:World) (X:Value) (b:Nat) (O:List α) (E:List β):Prop:=All2 (LR1 R w X b) O E
section
variable {α β:Type} {R:World→α→β→Prop} {w w':World} {X X':Value} {b:Nat} {O:List α} {E:List β} {x:α} {d:β}
theorem LR1.below (h:LR1 R w X b x d) (hb:Below w.heap.size w w':=by go_grown):LR1 R w' X b x d:=by
 obtain⟨s,e,h1,h2,h3⟩:=h;exact⟨s,e,h1,h2,h3.below hb⟩
theorem LR1.grow (h:LR1 R w X b x d) (hg:Grew w w' X X'):LR1 R w' X' b x d:=by
 obtain⟨s,e,h1,h2,h3⟩:=h;refine⟨s,e,h1,fun g hg'=>?_,h3.grow hg h2⟩;rcases hg.new with e1 | ⟨g1,e1,hg1⟩
 ·exact h2 g (e1 ▸ hg')
 ·rw[e1] at hg';cases hg';exact .inr (Nat.le_trans h3.le hg1)
theorem LR1.off {b':Nat} (h:LR1 R w X b x d) (ho:∀(k j:Nat),k≠b'→w'.cell? ⟨k,j,none⟩=w.cell? ⟨k,j,none⟩) (hk:K64 w w') (hz:w.heap.size≤w'.heap.size) (hn:b'<b):LR1 R w' X b x d:=by
 obtain⟨s,e,h1,h2,h3⟩:=h;exact⟨s,e,h1,h2,h3.off ho hk hz (.inl zo)⟩
theorem LR.below (h:LR R w X b O E) (hb:Below w.heap.size w w':=by go_grown):LR R w' X b O E:=All2.mono h fun _ _ hx=>LR1.below hx hb
theorem LR.grow (h:LR R w X b O E) (hg:Grew w w' X X'):LR R w' X' b O E:=All2.mono h fun _ _ hx=>LR1.grow hx hg
theorem LR.off {b':Nat} (h:LR R w X b O E) (ho:∀(k j:Nat),k≠b'→w'.cell? ⟨k,j,none⟩=w.cell? ⟨k,j,none⟩) (hk:K64 w w') (hz:w.heap.size≤w'.heap.size) (hn:b'<b):LR R w' X b O E:=All2.mono h fun _ _ hx=>LR1.off hx ho hk hz hn
theorem LR.nil:LR R w X b [] ([]:List β):=All2.nil
theorem LR.rob (h:LR R w X b O E):Rob w b w.heap.size (fun u=>All2 (R u) O E) :=
 ⟨Nat.le_refl _,fun v hk hc=>⟨h.1,fun i y e hy he=>by
  obtain⟨s,t,h1,_,h3⟩:=h.2 i y e hy he;exact h3.on v hk fun b' j h4 h5=>hc b' j zo (Nat.lt_of_lt_of_le h5 h3.le)⟩⟩
end
theorem OwnR.rob {α:Type} {f:α→List Value} {k:Nat} {t te:TypeId} (E:Elt f k t te) {w:World} {B n:Nat} {H:Option Addr} {cap:Nat} {L:List α} (ho:OwnR w B te k (.slice H n cap) n (flat f L)) (hl:L.length=n):Rob w B w.heap.size (fun u=>Sl f k u H n cap L) :=
 (ho.sl' E hl).rob (fun a ha=>by subst ha;exact⟨ho.base a.block rfl,ho.lt a.block rfl⟩) (Nat.le_refl _)
def VcU (u:World) (v:Vc) (D:List (Int×Dg)):Prop:=VcD u v.A v.n v.c D
def GpU (u:World) (v:Gp) (D:List Int):Prop:=Sl ics 1 u v.A v.n v.c D
theorem rows_rob {w:World} {B n:Nat} {H:Option Addr} {cap:Nat} {X:Value} {O:List Vc} {E:List (List (Int×Dg))} (h:Rob w B w.heap.size (fun u=>Sl Vc.cs 1 u H n cap O)) (hl:LR VcU w X B O E) (hE:∀D∈E,D.length≤1000000):Rob w B w.heap.size (fun u=>RowsD u H n cap E) :=
 (h.and hl.rob).imp fun _ k=>⟨⟨O,k.1,k.2⟩,hE⟩
theorem groups_rob {w:World} {B n:Nat} {H:Option Addr} {cap:Nat} {X:Value} {O:List Gp} {E:List (List Int)} (h:Rob w B w.heap.size (fun u=>Sl Gp.cs 1 u H n cap O)) (hl:LR GpU w X B O E) (hE:∀D∈E,D.length≤1000000):Rob w B w.heap.size (fun u=>GsD u H n cap E) :=
 (h.and hl.rob).imp fun _ k=>⟨⟨O,k.1,k.2⟩,hE⟩
theorem copyRatsR_q {w:World} {A:Option Addr} {n c:Nat} {D:List Dg} (h:FsD w A n c D) (hn:n≤1000000) :
  Calls Tryz.prog 23 #[.slice A n c] w fun e w'=>∃H hc,e=.returned (.slice H n hc)∧Rob w' w.heap.size w'.heap.size (fun u=>FsD u H n hc D)∧Below w.heap.size w w' :=
 (copyRats_q h hn).mono fun _ _ ⟨H,hc,h1,h2,h3,h4⟩=>⟨H,hc,h1,h2.rob h3 (Nat.le_refl _),h4⟩
theorem copyVecR_q {w:World} {A:Option Addr} {n c:Nat} {D:List (Int×Dg)} (h:VcD w A n c D) (hn:n≤1000000) :
  Calls Tryz.prog 40 #[.slice A n c] w fun e w'=>∃H hc,e=.returned (.slice H n hc)∧Rob w' w.heap.size w'.heap.size (fun u=>VcD u H n hc D)∧Below w.heap.size w w' :=
 (copyVecF_q h hn).mono fun _ _ ⟨H,hc,h1,h2,h3,h4⟩=>⟨H,hc,h1,h2.rob h3 (Nat.le_refl _),h4⟩
structure LyG where
 kind:Int
 rows:List (List (Int×Dg))
 bias:List Dg
 ns:List Int
 kern:List Dg
 groups:List (List Int)
structure LyD (u:World) (y:Ly) (d:LyG):Prop where
 kind:y.kind=d.kind
 rows:RowsD u y.rA y.rn y.rc d.rows
 bias:FsD u y.bA y.bn y.bc d.bias
 ns:nums y=d.ns
 kern:FsD u y.kA y.kn y.kc d.kern
 groups:GsD u y.gA y.gn y.gc d.groups
theorem LyD.below {w w':World} {y:Ly} {d:LyG} (h:LyD w y d) (hb:Below w.heap.size w w':=by go_grown):LyD w' y d:=⟨h.kind,h.rows.below hb,h.bias.below hb,h.ns,h.kern.below hb,h.groups.below hb⟩
end Go.Proofs.YtidjjejgbahcgaaGreatDoor
