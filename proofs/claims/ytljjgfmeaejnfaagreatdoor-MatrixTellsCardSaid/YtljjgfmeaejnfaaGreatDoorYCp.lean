/-
  Copies of fractions, vectors, rows of vectors, whole numbers; and looking at them as they stand. Written by wip/gen/cp.py.
-/
import Derived.Test.YtljjgfmeaejnfaaGreatDoorYCp0
import Derived.Test.YtljjgfmeaejnfaaGreatDoorYMx2
set_option maxHeartbeats 4000000
set_option maxRecDepth 100000
namespace Go.Proofs.YtljjgfmeaejnfaaGreatDoor
open Go.RowKit Tw
theorem copy_w {w:World} {A:Option Addr} {c l:Nat} {xs:List Nat} (h:Nx w A c l xs) (hl:l≤800000) :
  Calls Tryz.prog 126 #[.slice A l c] w (TellsX w l xs):=by
 by_cases hc:A=none→c=0
 ·exact copy_v h hl hc
 ·have hA:A=none:=Classical.byContradiction fun e=>hc fun e2=>absurd e2 e;have h0:xs.length=0:=by
   rcases Nat.eq_zero_or_pos xs.length with h1 | h1
   ·exact h1
   ·obtain⟨b,off,e,_⟩:=h.1.cells h1;rw[hA] at e;cases e
  obtain rfl:xs=[]:=List.eq_nil_of_length_eq_zero h0;obtain rfl:0=l:=h.2;subst hA;clear h h0 hc;go_enter Tryz.func126,Tryz.ntmps126
  go_wp2_with fail
  go_ret
  exact⟨none,0,rfl,⟨Nums.nil _ _ _,rfl⟩,Below.refl _ _⟩
def TellsCp (w:World) (x:Fr) (d:Dg) (e:Ending) (w':World):Prop:=∃A c A' c',e=.returned (.agg #[.bool x.s,.slice A x.l c,.bool x.s',.slice A' x.l' c'])∧Nx w' A c x.l d.xs∧Nx w' A' c' x.l' d.xs'∧Below w.heap.size w w'
theorem copyRat_q {w:World} {x:Fr} {d:Dg} (h:FrD w d x) (hl:x.l≤800000) (hl':x.l'≤800000) :
  Calls Tryz.prog 83 #[.agg #[.bool x.s,.slice x.A x.l x.c,.bool x.s',.slice x.A' x.l' x.c']] w (TellsCp w x d):=by
 have h1:=h.2.2.1;have h2:=h.2.2.2;clear h;obtain⟨W,hW,x0,x1,hB⟩:=boxes2 w #[.bool x.s,.slice x.A x.l x.c,.bool x.s',.slice x.A' x.l' x.c'] 50 #[.bool false,.slice none 0 0,.bool false,.slice none 0 0] 50;replace h1:=h1.below hB;replace h2:=h2.below hB;have HX0:=zh x0;have HX1:=zh x1;clear x0 x1;have Bz:=Below.refl W.heap.size W;obtain⟨pa0,pa1,pa2,pa3,-⟩:=(zxb HX0 Bz).cz;obtain⟨pb0,pb1,pb2,pb3,-⟩:=(zxb HX1 Bz).cz;have fb0:=(zxb HX1 Bz).frozen 0;have fb1:=(zxb HX1 Bz).frozen 1;have fb2:=(zxb HX1 Bz).frozen 2;have fb3:=(zxb HX1 Bz).frozen 3;have y1:=(zxb HX1 Bz).lt;go_enter Tryz.func83,Tryz.ntmps83
 go_wp2_with fail
 rw[←hW];clear hW;go_wp2_with fail
 (try simp only[List.append_eq,List.cons_append,List.nil_append])
 refine zAb (.pure 0 (.pure 1 (.take 2 (.pure 3 (.pure 4 (.take 5 (.pure 8 (.pure 9 (.take 10 (.pure 11 (.pure 12 (.take 13 (.only 6 (.pure 7 (.only 14 (.pure 15 (.pure 16 (.only 17 .done)))))))))))))))))) [17] (fun w'=>w'.cell? ⟨w.heap.size,0,none⟩=some (.bool x.s)∧w'.cell? ⟨w.heap.size,1,none⟩=some (.slice x.A x.l x.c)∧w'.cell? ⟨w.heap.size,2,none⟩=some (.bool x.s')∧w'.cell? ⟨w.heap.size,3,none⟩=some (.slice x.A' x.l' x.c')) (by kernel_rfl) (by kernel_rfl) ⟨pa0,pa1,pa2,pa3⟩ ?_;iterate 2 (refine zP rfl rfl (fun w'=>by go_simp<;>with_reducible rfl) ?_;try simp only[uW,uX,uY,uZ])
 refine zT rfl rfl (fun w' ⟨pa0,pa1,pa2,pa3⟩=>by go_simp<;>with_reducible rfl) ?_;try simp only[uW,uX,uY,uZ]
 iterate 2 (refine zP rfl rfl (fun w'=>by go_simp<;>with_reducible rfl) ?_;try simp only[uW,uX,uY,uZ])
 refine zT rfl rfl (fun w' ⟨pa0,pa1,pa2,pa3⟩=>by go_simp<;>with_reducible rfl) ?_;try simp only[uW,uX,uY,uZ]
 iterate 2 (refine zP rfl rfl (fun w'=>by go_simp<;>with_reducible rfl) ?_;try simp only[uW,uX,uY,uZ])
 refine zT rfl rfl (fun w' ⟨pa0,pa1,pa2,pa3⟩=>by go_simp<;>with_reducible rfl) ?_;try simp only[uW,uX,uY,uZ]
 iterate 2 (refine zP rfl rfl (fun w'=>by go_simp<;>with_reducible rfl) ?_;try simp only[uW,uX,uY,uZ])
 refine zT rfl rfl (fun w' ⟨pa0,pa1,pa2,pa3⟩=>by go_simp<;>with_reducible rfl) ?_;try simp only[uW,uX,uY,uZ]
 refine zC 9 rfl rfl (fun K hK=>?_);go_simp
 with_reducible refine(copy_w (Nx.below h1 (by go_grown)) hl).mono ?_
 rintro e w1 ⟨A1,c1,rfl,h1,b1⟩;replace b1:=zAa (a:=W) (by go_grown) b1;replace h2:=h2.below b1;replace Bz:=zAa Bz b1;clear b1;clear pa0 pa1 pa2 pa3 pb0 pb1 pb2 pb3 fb0 fb1 fb2 fb3 y1;obtain⟨pa0,pa1,pa2,pa3,-⟩:=(zxb HX0 Bz).cz;obtain⟨pb0,pb1,pb2,pb3,-⟩:=(zxb HX1 Bz).cz;have fb0:=(zxb HX1 Bz).frozen 0;have fb1:=(zxb HX1 Bz).frozen 1;have fb2:=(zxb HX1 Bz).frozen 2;have fb3:=(zxb HX1 Bz).frozen 3;have y1:=(zxb HX1 Bz).lt;refine hK.out _ _ ⟨pa0,pa1,pa2,pa3⟩ (fun _=>?_);try simp only[uW,uX,uY,uZ]
 clear hK K;refine zP rfl rfl (fun w'=>by go_simp<;>with_reducible rfl) ?_;try simp only[uW,uX,uY,uZ]
 refine zC 17 rfl rfl (fun K hK=>?_);go_simp
 with_reducible refine(copy_w (Nx.below h2 (by go_grown)) hl').mono ?_
 rintro e w2 ⟨A2,c2,rfl,h2,b2⟩;replace b2:=zAa (a:=w1) (by go_grown) b2;replace h1:=h1.below b2;replace Bz:=zAa Bz b2;clear b2;clear pa0 pa1 pa2 pa3 pb0 pb1 pb2 pb3 fb0 fb1 fb2 fb3 y1;obtain⟨pa0,pa1,pa2,pa3,-⟩:=(zxb HX0 Bz).cz;obtain⟨pb0,pb1,pb2,pb3,-⟩:=(zxb HX1 Bz).cz;have fb0:=(zxb HX1 Bz).frozen 0;have fb1:=(zxb HX1 Bz).frozen 1;have fb2:=(zxb HX1 Bz).frozen 2;have fb3:=(zxb HX1 Bz).frozen 3;have y1:=(zxb HX1 Bz).lt;refine hK.out _ _ ⟨pa0,pa1,pa2,pa3⟩ (fun _=>?_);try simp only[uW,uX,uY,uZ]
 clear hK K;iterate 2 (refine zP rfl rfl (fun w'=>by go_simp<;>with_reducible rfl) ?_;try simp only[uW,uX,uY,uZ])
 refine zAe (o:=⟨none,_,_,_,_,_⟩) rfl rfl zd (fun K hK=>?_);go_simp
 refine hK.out _ _ ?_;try simp only[Act.put,uX,uY,uZ]
 clear hK K;refine zAc ?_;go_wp2_with fail
 (try simp only[Exit.inBlock,Exit.then])
 refine bodyPost_ret (by simp[results,Tryz.results83,go_sem,pb0,pb1,pb2,pb3];try rfl) rfl ?_;obtain⟨V1,hW,x,kk,far,bel⟩:=store4 (.bool x.s) (.slice A1 x.l c1) (.bool x.s') (.slice A2 x.l' c2) (zxb HX1 Bz) nofun nofun nofun nofun;rw[←hW];clear hW;replace h1:=h1.k kk;replace h2:=h2.k kk;replace hB:=bel w.heap.size w zo (zAa hB Bz);replace HX0:=zh (far _ _ _ zo (zxb HX0 Bz));replace HX1:=zh x;clear x kk far bel Bz;have Bz:=Below.refl V1.heap.size V1;have hF:=zAa (c:=V1) hB Bz;exact⟨_,_,_,_,rfl,Nx.below h1 (by go_grown),Nx.below h2 (by go_grown),zAa hF (by go_grown)⟩
def CV1 (w:World) (D:List (Int×Dg)) (n gk:Nat) (s3 s4:Value) (wr:World):Prop :=
 ∃(i:Nat) (H:Option Addr) (hc:Nat) (O:List Tm),s3=.slice H i hc∧s4=.int .i64 (i:Int)∧i≤n∧n-i=gk∧OwnR wr w.heap.size 114 5 (.slice H i hc) i (flat Tm.cs O)∧TsD wr O (D.take i)∧Below w.heap.size w wr
theorem copyVec_q {w:World} {A:Option Addr} {n c:Nat} {D:List (Int×Dg)} (h:VcD w A n c D) (hn:n≤1000000) :
  Calls Tryz.prog 22 #[.slice A n c] w fun e w'=>∃H hc,e=.returned (.slice H n hc)∧VcD w' H n hc D∧Below w.heap.size w w':=by
 have HLD:=zh h.len;obtain⟨⟨L,h1,h2⟩,h3⟩:=h;have HS:=zh h1;have HLN:=zh h1.1;have HTS:=zh h2;have HLE:=zh h3;clear h1 h2 h3;go_enter Tryz.func22,Tryz.ntmps22
 go_wp2_with fail
 go_loopg [3,4] n (fun gk s3 s4 wr=>CV1 w D n gk s3 s4 wr)
 case atStart=>exact⟨0,none,0,[],rfl,rfl,Nat.zero_le _,rfl,OwnR.nil _ _ _ _,All2.nil,Below.refl _ _⟩
 case round =>
  obtain⟨i,H,hc,O,rfl,rfl,hi,hgk,ho,hts,hB⟩:=hrel;have HGK:=zh hgk;clear hgk;by_cases hlt:i<n
  ·obtain⟨b,off,rfl,hel⟩:=HS.out.at Tm.cs_len zo zo;obtain⟨x,d,hx,hd,hxd⟩:=HTS.out.has (i:=i) (by rw[HLN.out];exact hlt);have hnd:=hel i x hx;have hfd:=hxd.2.below hB;have HD:=zh hd;have hle:=HLE.out d (List.mem_of_getElem? hd);have hl1:x.x.l=d.2.xs.length:=hxd.2.2.2.1.2.symm;have hl2:x.x.l'=d.2.xs'.length:=hxd.2.2.2.2.2.symm;have hq1:x.x.l≤800000:=zo;have hq2:x.x.l'≤800000:=zo;have HAT:=zh (And.intro hxd.1 (And.intro hxd.2.1 hxd.2.2.1));have i1:(i:Int)<(n:Int):=zo;have i2:(0:Int)≤(i:Int):=zo;clear hel hx hd hxd hle hl1 hl2;have Bz:=Below.refl wr.heap.size wr;obtain⟨pA0,pA1,pA2,pA3,pA4,-⟩:=(hnd.below (zAa hB Bz)).ez;go_wp2_with fail
   (try simp only[List.append_eq,List.cons_append,List.nil_append])
   refine zAb (.pure 0 (.pure 1 (.pure 2 (.pure 3 (.pure 4 (.take 5 (.pure 6 (.pure 7 (.pure 8 (.pure 9 (.take 10 (.only 11 (.pure 12 (.only 13 (.only 14 (.pure 15 .done)))))))))))))))) [14] (fun w'=>w'.cell? ⟨b,off+i*5,none⟩=some (.int .i64 x.at_)∧w'.cell? ⟨b,off+i*5+1,none⟩=some (.bool x.x.s)∧w'.cell? ⟨b,off+i*5+2,none⟩=some (.slice x.x.A x.x.l x.x.c)∧w'.cell? ⟨b,off+i*5+3,none⟩=some (.bool x.x.s')∧w'.cell? ⟨b,off+i*5+4,none⟩=some (.slice x.x.A' x.x.l' x.x.c')) (by kernel_rfl) (by kernel_rfl) ⟨pA0,pA1,pA2,pA3,pA4⟩ ?_;iterate 5 (refine zP rfl rfl (fun w'=>by go_simp<;>with_reducible rfl) ?_;try simp only[uW,uX,uY,uZ])
   refine zT rfl rfl (fun w' ⟨pA0,pA1,pA2,pA3,pA4⟩=>by go_simp<;>with_reducible rfl) ?_;try simp only[uW,uX,uY,uZ]
   iterate 4 (refine zP rfl rfl (fun w'=>by go_simp<;>with_reducible rfl) ?_;try simp only[uW,uX,uY,uZ])
   refine zT rfl rfl (fun w' ⟨pA0,pA1,pA2,pA3,pA4⟩=>by go_simp<;>with_reducible rfl) ?_;try simp only[uW,uX,uY,uZ]
   refine zC 22 rfl rfl (fun K hK=>?_);go_simp
   with_reducible refine(copyRat_q (FrD.below hfd (by go_grown)) zo zo).mono ?_
   rintro e w11 ⟨A11,c11,A11r,c11r,rfl,h11,h11r,b11⟩;replace b11:=zAa (a:=wr) (by go_grown) b11;replace ho:=ho.below b11;replace hts:=hts.below b11;replace Bz:=zAa Bz b11;clear b11;clear pA0 pA1 pA2 pA3 pA4;obtain⟨pA0,pA1,pA2,pA3,pA4,-⟩:=(hnd.below (zAa hB Bz)).ez;refine hK.out _ _ ⟨pA0,pA1,pA2,pA3,pA4⟩ (fun _=>?_);try simp only[uW,uX,uY,uZ]
   clear hK K;refine zP rfl rfl (fun w'=>by go_simp<;>with_reducible rfl) ?_;try simp only[uW,uX,uY,uZ]
   refine zC 24 rfl rfl (fun K hK=>?_);go_simp
   refine hK.out _ _ ⟨(zAd pA0),(zAd pA1),(zAd pA2),(zAd pA3),(zAd pA4)⟩ (fun _=>?_);try simp only[uW,uX,uY,uZ]
   clear hK K;refine zAe (o:=⟨some 25,_,_,_,_,_⟩) rfl rfl zd (fun K hK=>?_);obtain⟨V11,hW,x0,hN⟩:=zAf w11 #[.int .i64 x.at_,.bool x.x.s,.slice A11 x.x.l c11,.bool x.x.s',.slice A11r x.x.l' c11r] 114;rw[←hW];clear hW;obtain⟨v0,hb0⟩:∃b,b=w11.heap.size:=⟨_,rfl⟩;rw[←hb0] at x0 ⊢;have ow_0:w.heap.size≤v0:=zia (zw hB Bz);have nv0_own:=OwnR.off' (b:=v0) ho zo;replace h11:=h11.below hN;replace h11r:=h11r.below hN;replace ho:=ho.below hN;replace hts:=hts.below hN;replace hB:=zAa (zAa hB Bz) hN;have HX0:=zh x0;clear x0 hN Bz hb0;have Bz:=Below.refl V11.heap.size V11;clear pA0 pA1 pA2 pA3 pA4;have hdr:V11.drew.heap.size=V11.heap.size:=rfl;have hdr2:V11.drew.drew.heap.size=V11.heap.size:=rfl;refine Elt.wp elt_term _ _ rfl (w.heap.size) (.slice H i hc) (i) (O) rfl ho (.slice (some ⟨v0,0,none⟩) 1 1) (1) ([⟨x.at_,⟨x.x.s,A11,c11,x.x.l,x.x.s',A11r,c11r,x.x.l',x.x.q,x.x.ex⟩⟩]) rfl (From.one (HX0.out.below (zAa Bz (by go_grown))) (⟨x.at_,⟨x.x.s,A11,c11,x.x.l,x.x.s',A11r,c11r,x.x.l',x.x.q,x.x.ex⟩⟩) rfl (elt_term.len _)) zo (zia (zw hB Bz)) ?_;intro H12 c12 w12 ho12 hg12;refine hK.out _ _ ?_;try simp only[uW,uX,uY,uZ]
   clear hK K;replace hB:=(zAa (zAa hB Bz) (by go_grown)).trans (hg12.below (zia (zw hB Bz)) (fun g hg=>by have:=ho.base g hg;omega));clear HX0;clear hdr hdr2;replace h11:=h11.k hg12.k;replace h11r:=h11r.k hg12.k;replace hts:=hts.k hg12.k;clear hg12 Bz;have Bz:=Below.refl w12.heap.size w12;obtain⟨pA0,pA1,pA2,pA3,pA4,-⟩:=(hnd.below (zAa hB Bz)).ez;refine zP rfl rfl (fun w'=>by go_simp<;>with_reducible rfl) ?_;try simp only[uW,uX,uY,uZ]
   refine zAc ?_;go_wp2_with fail
   go_roundg (n-(i+1))
   case measure=>have:=HGK.out;omega
   case rel=>exact⟨i+1,_,_,_,rfl,by go_num,zo,rfl,OwnR.below ho12 (by go_grown),All2.take (TsD.below hts (by go_grown)) HD.out ⟨HAT.out.1,HAT.out.2.1,HAT.out.2.2,Nx.below h11 (by go_grown),Nx.below h11r (by go_grown)⟩,zAa (zAa hB Bz) (by go_grown)⟩
  ·obtain rfl:i=n:=zo;have i1:¬(i:Int)<(i:Int):=zo;have HV:Hid (VcD wr H i hc D):=zh ⟨⟨O,ho.sl' elt_term (ho.eltn elt_term zo),All2.full hts (by rw[HLD.out];exact Nat.le_refl _)⟩,HLE.out⟩;clear ho hts;go_wp2_with fail
   go_ret
   exact⟨H,hc,rfl,HV.out,hB⟩
theorem sameInt_d {w:World} {b:Bool} {A A':Option Addr} {l l' c c':Nat} {xs:List Nat} (h1:Nx w A c l xs) (h2:Nx w A' c' l' xs) (hl:l≤800000) :
  Calls Tryz.prog 101 #[.agg #[.bool b,.slice A l c],.agg #[.bool b,.slice A' l' c']] w fun e w'=>e=.returned (.bool true)∧Below w.heap.size w w':=by
 have g1:(b==b)=true:=by simp
 obtain⟨W,hW,x0,x1,hB⟩:=boxes2 w #[.bool b,.slice A l c] 48 #[.bool b,.slice A' l' c'] 48;replace h1:=h1.below hB;replace h2:=h2.below hB;have HX0:=zh x0;have HX1:=zh x1;clear x0 x1;have Bz:=Below.refl W.heap.size W;obtain⟨pa0,pa1,-⟩:=(zxb HX0 Bz).cz;obtain⟨pb0,pb1,-⟩:=(zxb HX1 Bz).cz;go_enter Tryz.func101,Tryz.ntmps101
 go_wp2_with fail
 rw[←hW];clear hW;go_wp2_with fail
 with_reducible refine(same_n (Nx.below h1 (by go_grown)) (Nx.below h2 (by go_grown)) hl).mono ?_
 rintro e w1 ⟨rfl,b1⟩;replace b1:=zAa (a:=W) (by go_grown) b1;replace Bz:=zAa Bz b1;clear b1;clear pa0 pa1 pb0 pb1;go_wp2_with fail
 go_ret
 have hF:=zAa (c:=w1) hB Bz;exact⟨rfl,zAa hF (by go_grown)⟩
theorem sameRat_d {w:World} {x y:Fr} {d:Dg} (h:FrD w d x) (h':FrD w d y) (hl:x.l≤800000) (hl':x.l'≤800000) :
  Calls Tryz.prog 34 #[.agg #[.bool x.s,.slice x.A x.l x.c,.bool x.s',.slice x.A' x.l' x.c'],.agg #[.bool y.s,.slice y.A y.l y.c,.bool y.s',.slice y.A' y.l' y.c']] w fun e w'=>e=.returned (.bool true)∧Below w.heap.size w w':=by
 obtain⟨e1,e2,h1,h2⟩:=h;obtain⟨e3,e4,k1,k2⟩:=h';rw[e3,e4,←e1,←e2];clear e1 e2 e3 e4;obtain⟨W,hW,x0,x1,hB⟩:=boxes2 w #[.bool x.s,.slice x.A x.l x.c,.bool x.s',.slice x.A' x.l' x.c'] 50 #[.bool x.s,.slice y.A y.l y.c,.bool x.s',.slice y.A' y.l' y.c'] 50;replace k1:=k1.below hB;replace k2:=k2.below hB;replace h1:=h1.below hB;replace h2:=h2.below hB;have HX0:=zh x0;have HX1:=zh x1;clear x0 x1;have Bz:=Below.refl W.heap.size W;obtain⟨pa0,pa1,-⟩:=(zxb HX0 Bz).cz;obtain⟨pb0,pb1,-⟩:=(zxb HX1 Bz).cz;go_enter Tryz.func34,Tryz.ntmps34
 go_wp2_with fail
 rw[←hW];clear hW;go_wp2_with fail
 with_reducible refine(sameInt_d (Nx.below h1 (by go_grown)) (Nx.below k1 (by go_grown)) zo).mono ?_
 rintro e w1 ⟨rfl,b1⟩;replace b1:=zAa (a:=W) (by go_grown) b1;replace k2:=k2.below b1;replace h2:=h2.below b1;replace Bz:=zAa Bz b1;clear b1;clear pa0 pa1 pb0 pb1;obtain⟨-,-,pa2,pa3,-⟩:=(zxb HX0 Bz).cz;obtain⟨-,-,pb2,pb3,-⟩:=(zxb HX1 Bz).cz;go_wp2_with fail
 with_reducible refine(sameInt_d (Nx.below h2 (by go_grown)) (Nx.below k2 (by go_grown)) zo).mono ?_
 rintro e w2 ⟨rfl,b2⟩;replace b2:=zAa (a:=w1) (by go_grown) b2;replace Bz:=zAa Bz b2;clear b2;clear pa2 pa3 pb2 pb3;go_wp2_with fail
 go_ret
 have hF:=zAa (c:=w2) hB Bz;exact⟨rfl,zAa hF (by go_grown)⟩
def LK1 (w:World) (n gk:Nat) (s:Value) (wr:World):Prop:=∃i:Nat,i≤n∧n-i=gk∧s=.int .i64 (i:Int)∧Below w.heap.size w wr
theorem sameVec_d {w:World} {A A':Option Addr} {n c n' c':Nat} {D:List (Int×Dg)} (h:VcD w A n c D) (h':VcD w A' n' c' D) (hn:n≤1000000) :
  Calls Tryz.prog 23 #[.slice A n c,.slice A' n' c'] w fun e w'=>e=.returned (.bool true)∧Below w.heap.size w w':=by
 obtain rfl:n=n':=by have h1:=h.len;have h2:=h'.len;omega
 obtain⟨⟨L,h1,h2⟩,h3⟩:=h;obtain⟨⟨L',h1',h2'⟩,_⟩:=h';have HS:=zh h1;have HS':=zh h1';have HLN:=zh h1.1;have HLN':=zh h1'.1;have HTS:=zh h2;have HTS':=zh h2';have HLE:=zh h3;have g0:((n:Int) !=(n:Int))=false:=by simp
 clear h1 h2 h3 h1' h2';go_enter Tryz.func23,Tryz.ntmps23
 go_wp2_with fail
 go_loopg [5] n (fun gk s wr=>LK1 w n gk s wr)
 case atStart=>exact⟨0,Nat.zero_le _,rfl,rfl,Below.refl _ _⟩
 case round =>
  obtain⟨i,hi,hgk,rfl,hB⟩:=hrel;have HGK:=zh hgk;clear hgk;by_cases hlt:i<n
  ·obtain⟨b,off,rfl,hel⟩:=HS.out.at Tm.cs_len zo zo;obtain⟨b',off',rfl,hel'⟩:=HS'.out.at Tm.cs_len zo zo;obtain⟨x,d,hx,hd,hxd⟩:=HTS.out.has (i:=i) (by rw[HLN.out];exact hlt);obtain⟨y,hy⟩:∃y,L'[i]?=some y:=⟨L'[i]'(by rw[HLN'.out];exact hlt),List.getElem?_eq_getElem _⟩;have hyd:=HTS'.out.2 i y d hy hd;have hnd:=hel i x hx;have hnd':ElA w b' (off'+i*5) [.int .i64 x.at_,.bool y.x.s,.slice y.x.A y.x.l y.x.c,.bool y.x.s',.slice y.x.A' y.x.l' y.x.c']:=by rw[hxd.1,←hyd.1];exact hel' i y hy
   have hfx:=hxd.2.below hB;have hfy:=hyd.2.below hB;have hle:=HLE.out d (List.mem_of_getElem? hd);have hl1:x.x.l=d.2.xs.length:=hxd.2.2.2.1.2.symm;have hl2:x.x.l'=d.2.xs'.length:=hxd.2.2.2.2.2.symm;have hq1:x.x.l≤800000:=zo;have hq2:x.x.l'≤800000:=zo;have i1:(i:Int)<(n:Int):=zo;have i2:(0:Int)≤(i:Int):=zo;have g1:(x.at_ != x.at_)=false:=by simp
   clear hel hel' hx hy hd hxd hyd hle hl1 hl2;have Bz:=Below.refl wr.heap.size wr;obtain⟨pA0,pA1,pA2,pA3,pA4,-⟩:=(hnd.below (zAa hB Bz)).ez;obtain⟨pB0,pB1,pB2,pB3,pB4,-⟩:=(hnd'.below (zAa hB Bz)).ez;go_wp2_with fail
   (try simp only[List.append_eq,List.cons_append,List.nil_append])
   refine zAb (.take 0 (.take 1 (.take 2 (.take 3 (.take 4 (.take 5 (.take 6 (.take 7 (.take 8 (.take 9 (.take 10 (.take 11 (.take 12 (.take 13 (.take 14 (.take 15 (.take 16 (.take 17 (.take 18 (.take 19 (.take 20 (.take 21 (.only 22 (.take 23 (.take 24 .done))))))))))))))))))))))))) [] (fun w'=>w'.cell? ⟨b,off+i*5,none⟩=some (.int .i64 x.at_)∧w'.cell? ⟨b,off+i*5+1,none⟩=some (.bool x.x.s)∧w'.cell? ⟨b,off+i*5+2,none⟩=some (.slice x.x.A x.x.l x.x.c)∧w'.cell? ⟨b,off+i*5+3,none⟩=some (.bool x.x.s')∧w'.cell? ⟨b,off+i*5+4,none⟩=some (.slice x.x.A' x.x.l' x.x.c')∧w'.cell? ⟨b',off'+i*5,none⟩=some (.int .i64 x.at_)∧w'.cell? ⟨b',off'+i*5+1,none⟩=some (.bool y.x.s)∧w'.cell? ⟨b',off'+i*5+2,none⟩=some (.slice y.x.A y.x.l y.x.c)∧w'.cell? ⟨b',off'+i*5+3,none⟩=some (.bool y.x.s')∧w'.cell? ⟨b',off'+i*5+4,none⟩=some (.slice y.x.A' y.x.l' y.x.c')) (by kernel_rfl) (by kernel_rfl) ⟨pA0,pA1,pA2,pA3,pA4,pB0,pB1,pB2,pB3,pB4⟩ ?_;iterate 22 (refine zT rfl rfl (fun w' ⟨pA0,pA1,pA2,pA3,pA4,pB0,pB1,pB2,pB3,pB4⟩=>by go_simp<;>with_reducible rfl) ?_;try simp only[uW,uX,uY,uZ])
   refine zC 39 rfl rfl (fun K hK=>?_);go_simp
   with_reducible refine(sameRat_d (FrD.below hfx (by go_grown)) (FrD.below hfy (by go_grown)) zo zo).mono ?_
   rintro e w11 ⟨rfl,b11⟩;replace b11:=zAa (a:=wr) (by go_grown) b11;replace Bz:=zAa Bz b11;clear b11;clear pA0 pA1 pA2 pA3 pA4 pB0 pB1 pB2 pB3 pB4;obtain⟨pA0,pA1,pA2,pA3,pA4,-⟩:=(hnd.below (zAa hB Bz)).ez;obtain⟨pB0,pB1,pB2,pB3,pB4,-⟩:=(hnd'.below (zAa hB Bz)).ez;refine hK.out _ _ ⟨pA0,pA1,pA2,pA3,pA4,pB0,pB1,pB2,pB3,pB4⟩ (fun _=>?_);try simp only[uW,uX,uY,uZ]
   clear hK K;iterate 2 (refine zT rfl rfl (fun w' ⟨pA0,pA1,pA2,pA3,pA4,pB0,pB1,pB2,pB3,pB4⟩=>by go_simp<;>with_reducible rfl) ?_;try simp only[uW,uX,uY,uZ])
   refine zAc ?_;go_wp2_with fail
   go_roundg (n-(i+1))
   case measure=>have:=HGK.out;omega
   case rel=>exact⟨i+1,zo,rfl,by go_num,zAa (zAa hB Bz) (by go_grown)⟩
  ·obtain rfl:i=n:=zo;have i1:¬(i:Int)<(i:Int):=zo;go_wp2_with fail
   go_ret
   exact⟨rfl,hB⟩
theorem VcD.k {w w':World} {A:Option Addr} {n c:Nat} {D:List (Int×Dg)} (h:VcD w A n c D) (hk:K64 w w') (hs:∀L,Sl Tm.cs 5 w A n c L→Sl Tm.cs 5 w' A n c L):VcD w' A n c D:=by
 obtain⟨⟨L,h1,h2⟩,h3⟩:=h;exact⟨⟨L,hs L h1,h2.k hk⟩,h3⟩
open Go.RowKit Tw
theorem copyVecF_q {w:World} {A:Option Addr} {n c:Nat} {D:List (Int×Dg)} (h:VcD w A n c D) (hn:n≤1000000) :
  Calls Tryz.prog 22 #[.slice A n c] w fun e w'=>∃H hc,e=.returned (.slice H n hc)∧VcD w' H n hc D∧(∀a,H=some a→w.heap.size≤a.block∧a.block<w'.heap.size)∧Below w.heap.size w w':=by
 have HLD:=zh h.len;obtain⟨⟨L,h1,h2⟩,h3⟩:=h;have HS:=zh h1;have HLN:=zh h1.1;have HTS:=zh h2;have HLE:=zh h3;clear h1 h2 h3;go_enter Tryz.func22,Tryz.ntmps22
 go_wp2_with fail
 go_loopg [3,4] n (fun gk s3 s4 wr=>CV1 w D n gk s3 s4 wr)
 case atStart=>exact⟨0,none,0,[],rfl,rfl,Nat.zero_le _,rfl,OwnR.nil _ _ _ _,All2.nil,Below.refl _ _⟩
 case round =>
  obtain⟨i,H,hc,O,rfl,rfl,hi,hgk,ho,hts,hB⟩:=hrel;have HGK:=zh hgk;clear hgk;by_cases hlt:i<n
  ·obtain⟨b,off,rfl,hel⟩:=HS.out.at Tm.cs_len zo zo;obtain⟨x,d,hx,hd,hxd⟩:=HTS.out.has (i:=i) (by rw[HLN.out];exact hlt);have hnd:=hel i x hx;have hfd:=hxd.2.below hB;have HD:=zh hd;have hle:=HLE.out d (List.mem_of_getElem? hd);have hl1:x.x.l=d.2.xs.length:=hxd.2.2.2.1.2.symm;have hl2:x.x.l'=d.2.xs'.length:=hxd.2.2.2.2.2.symm;have hq1:x.x.l≤800000:=zo;have hq2:x.x.l'≤800000:=zo;have HAT:=zh (And.intro hxd.1 (And.intro hxd.2.1 hxd.2.2.1));have i1:(i:Int)<(n:Int):=zo;have i2:(0:Int)≤(i:Int):=zo;clear hel hx hd hxd hle hl1 hl2;have Bz:=Below.refl wr.heap.size wr;obtain⟨pA0,pA1,pA2,pA3,pA4,-⟩:=(hnd.below (zAa hB Bz)).ez;go_wp2_with fail
   (try simp only[List.append_eq,List.cons_append,List.nil_append])
   refine zAb (.pure 0 (.pure 1 (.pure 2 (.pure 3 (.pure 4 (.take 5 (.pure 6 (.pure 7 (.pure 8 (.pure 9 (.take 10 (.only 11 (.pure 12 (.only 13 (.only 14 (.pure 15 .done)))))))))))))))) [14] (fun w'=>w'.cell? ⟨b,off+i*5,none⟩=some (.int .i64 x.at_)∧w'.cell? ⟨b,off+i*5+1,none⟩=some (.bool x.x.s)∧w'.cell? ⟨b,off+i*5+2,none⟩=some (.slice x.x.A x.x.l x.x.c)∧w'.cell? ⟨b,off+i*5+3,none⟩=some (.bool x.x.s')∧w'.cell? ⟨b,off+i*5+4,none⟩=some (.slice x.x.A' x.x.l' x.x.c')) (by kernel_rfl) (by kernel_rfl) ⟨pA0,pA1,pA2,pA3,pA4⟩ ?_;iterate 5 (refine zP rfl rfl (fun w'=>by go_simp<;>with_reducible rfl) ?_;try simp only[uW,uX,uY,uZ])
   refine zT rfl rfl (fun w' ⟨pA0,pA1,pA2,pA3,pA4⟩=>by go_simp<;>with_reducible rfl) ?_;try simp only[uW,uX,uY,uZ]
   iterate 4 (refine zP rfl rfl (fun w'=>by go_simp<;>with_reducible rfl) ?_;try simp only[uW,uX,uY,uZ])
   refine zT rfl rfl (fun w' ⟨pA0,pA1,pA2,pA3,pA4⟩=>by go_simp<;>with_reducible rfl) ?_;try simp only[uW,uX,uY,uZ]
   refine zC 22 rfl rfl (fun K hK=>?_);go_simp
   with_reducible refine(copyRat_q (FrD.below hfd (by go_grown)) zo zo).mono ?_
   rintro e w11 ⟨A11,c11,A11r,c11r,rfl,h11,h11r,b11⟩;replace b11:=zAa (a:=wr) (by go_grown) b11;replace ho:=ho.below b11;replace hts:=hts.below b11;replace Bz:=zAa Bz b11;clear b11;clear pA0 pA1 pA2 pA3 pA4;obtain⟨pA0,pA1,pA2,pA3,pA4,-⟩:=(hnd.below (zAa hB Bz)).ez;refine hK.out _ _ ⟨pA0,pA1,pA2,pA3,pA4⟩ (fun _=>?_);try simp only[uW,uX,uY,uZ]
   clear hK K;refine zP rfl rfl (fun w'=>by go_simp<;>with_reducible rfl) ?_;try simp only[uW,uX,uY,uZ]
   refine zC 24 rfl rfl (fun K hK=>?_);go_simp
   refine hK.out _ _ ⟨(zAd pA0),(zAd pA1),(zAd pA2),(zAd pA3),(zAd pA4)⟩ (fun _=>?_);try simp only[uW,uX,uY,uZ]
   clear hK K;refine zAe (o:=⟨some 25,_,_,_,_,_⟩) rfl rfl zd (fun K hK=>?_);obtain⟨V11,hW,x0,hN⟩:=zAf w11 #[.int .i64 x.at_,.bool x.x.s,.slice A11 x.x.l c11,.bool x.x.s',.slice A11r x.x.l' c11r] 114;rw[←hW];clear hW;obtain⟨v0,hb0⟩:∃b,b=w11.heap.size:=⟨_,rfl⟩;rw[←hb0] at x0 ⊢;have ow_0:w.heap.size≤v0:=zia (zw hB Bz);have nv0_own:=OwnR.off' (b:=v0) ho zo;replace h11:=h11.below hN;replace h11r:=h11r.below hN;replace ho:=ho.below hN;replace hts:=hts.below hN;replace hB:=zAa (zAa hB Bz) hN;have HX0:=zh x0;clear x0 hN Bz hb0;have Bz:=Below.refl V11.heap.size V11;clear pA0 pA1 pA2 pA3 pA4;have hdr:V11.drew.heap.size=V11.heap.size:=rfl;have hdr2:V11.drew.drew.heap.size=V11.heap.size:=rfl;refine Elt.wp elt_term _ _ rfl (w.heap.size) (.slice H i hc) (i) (O) rfl ho (.slice (some ⟨v0,0,none⟩) 1 1) (1) ([⟨x.at_,⟨x.x.s,A11,c11,x.x.l,x.x.s',A11r,c11r,x.x.l',x.x.q,x.x.ex⟩⟩]) rfl (From.one (HX0.out.below (zAa Bz (by go_grown))) (⟨x.at_,⟨x.x.s,A11,c11,x.x.l,x.x.s',A11r,c11r,x.x.l',x.x.q,x.x.ex⟩⟩) rfl (elt_term.len _)) zo (zia (zw hB Bz)) ?_;intro H12 c12 w12 ho12 hg12;refine hK.out _ _ ?_;try simp only[uW,uX,uY,uZ]
   clear hK K;replace hB:=(zAa (zAa hB Bz) (by go_grown)).trans (hg12.below (zia (zw hB Bz)) (fun g hg=>by have:=ho.base g hg;omega));clear HX0;clear hdr hdr2;replace h11:=h11.k hg12.k;replace h11r:=h11r.k hg12.k;replace hts:=hts.k hg12.k;clear hg12 Bz;have Bz:=Below.refl w12.heap.size w12;obtain⟨pA0,pA1,pA2,pA3,pA4,-⟩:=(hnd.below (zAa hB Bz)).ez;refine zP rfl rfl (fun w'=>by go_simp<;>with_reducible rfl) ?_;try simp only[uW,uX,uY,uZ]
   refine zAc ?_;go_wp2_with fail
   go_roundg (n-(i+1))
   case measure=>have:=HGK.out;omega
   case rel=>exact⟨i+1,_,_,_,rfl,by go_num,zo,rfl,OwnR.below ho12 (by go_grown),All2.take (TsD.below hts (by go_grown)) HD.out ⟨HAT.out.1,HAT.out.2.1,HAT.out.2.2,Nx.below h11 (by go_grown),Nx.below h11r (by go_grown)⟩,zAa (zAa hB Bz) (by go_grown)⟩
  ·obtain rfl:i=n:=zo;have i1:¬(i:Int)<(i:Int):=zo;have HV:Hid (VcD wr H i hc D):=zh ⟨⟨O,ho.sl' elt_term (ho.eltn elt_term zo),All2.full hts (by rw[HLD.out];exact Nat.le_refl _)⟩,HLE.out⟩;have HBA:Hid (∀a,H=some a→w.heap.size≤a.block∧a.block<wr.heap.size):=zh (fun a ha=>by subst ha;exact⟨ho.base a.block rfl,ho.lt a.block rfl⟩);clear ho hts;go_wp2_with fail
   go_ret
   exact⟨H,hc,rfl,HV.out,HBA.out,hB⟩
def VcN (w:World) (X:Value) (v:Vc) (D:List (Int×Dg)):Prop:=VcD w v.A v.n v.c D∧∀a,v.A=some a→a.block<w.heap.size∧some a.block≠X.ownBlock
theorem VcN.below {w w':World} {X:Value} {v:Vc} {D:List (Int×Dg)} (h:VcN w X v D) (hb:Below w.heap.size w w'):VcN w' X v D:=⟨h.1.below hb,fun a ha=>⟨Nat.lt_of_lt_of_le (h.2 a ha).1 hb.size,(h.2 a ha).2⟩⟩
theorem VcN.grow {w w':World} {X X':Value} {v:Vc} {D:List (Int×Dg)} (h:VcN w X v D) (hg:Grew w w' X X'):VcN w' X' v D:=by
 obtain⟨⟨⟨L,⟨l1,l2,A,c,e,l3,l4⟩,h2⟩,h3⟩,h4⟩:=h;cases e;refine⟨⟨⟨L,⟨l1,l2,_,_,rfl,l3,fun a ha j u hu=>?_⟩,h2.k hg.k⟩,h3⟩,fun a ha=>⟨Nat.lt_of_lt_of_le (h4 a ha).1 hg.size,hg.ne (h4 a ha).1 (h4 a ha).2⟩⟩;have h5:=l4 a ha j u hu;have h7:(a.add j).block=a.block:=by unfold Addr.add;split<;>rfl
 rw[←h5];exact World.cell?_of_block (by rw[h7];exact hg.by_.block a.block (h4 a ha).1 (h4 a ha).2)
def VsN (w:World) (X:Value) (O:List Vc) (E:List (List (Int×Dg))):Prop:=All2 (VcN w X) O E
theorem VsN.below {w w':World} {X:Value} {O:List Vc} {E:List (List (Int×Dg))} (h:VsN w X O E) (hb:Below w.heap.size w w'):VsN w' X O E:=All2.mono h fun _ _ hx=>hx.below hb
theorem VsN.grow {w w':World} {X X':Value} {O:List Vc} {E:List (List (Int×Dg))} (h:VsN w X O E) (hg:Grew w w' X X'):VsN w' X' O E:=All2.mono h fun _ _ hx=>hx.grow hg
def RowsD (w:World) (A:Option Addr) (n c:Nat) (E:List (List (Int×Dg))):Prop:=(∃CL:List Vc,Sl Vc.cs 1 w A n c CL∧All2 (fun v D=>VcD w v.A v.n v.c D) CL E)∧∀D∈E,D.length≤1000000
theorem RowsD.below {w w':World} {A:Option Addr} {n c:Nat} {E:List (List (Int×Dg))} (h:RowsD w A n c E) (hb:Below w.heap.size w w'):RowsD w' A n c E:=by
 obtain⟨⟨CL,h1,h2⟩,h3⟩:=h;exact⟨⟨CL,h1.below hb,All2.mono h2 fun _ _ hx=>hx.below hb⟩,h3⟩
theorem RowsD.len {w:World} {A:Option Addr} {n c:Nat} {E:List (List (Int×Dg))} (h:RowsD w A n c E):E.length=n:=by
 obtain⟨⟨CL,h1,h2⟩,_⟩:=h;rw[←h2.1,h1.1]
def CW1 (w:World) (E:List (List (Int×Dg))) (n gk:Nat) (s3 s4:Value) (wr:World):Prop :=
 ∃(i:Nat) (H:Option Addr) (hc:Nat) (O:List Vc),s3=.slice H i hc∧s4=.int .i64 (i:Int)∧i≤n∧n-i=gk∧OwnR wr w.heap.size 55 1 (.slice H i hc) i (flat Vc.cs O)∧VsN wr (.slice H i hc) O (E.take i)∧Below w.heap.size w wr
theorem copyVecs_q {w:World} {A:Option Addr} {n c:Nat} {E:List (List (Int×Dg))} (h:RowsD w A n c E) (hn:n≤1000000) :
  Calls Tryz.prog 48 #[.slice A n c] w fun e w'=>∃H hc,e=.returned (.slice H n hc)∧RowsD w' H n hc E∧Below w.heap.size w w':=by
 have HLE:=zh h.len;obtain⟨⟨CL,h1,h2⟩,h3⟩:=h;have HS:=zh h1;have HLN:=zh h1.1;have HVS:=zh h2;have HEL:=zh h3;clear h1 h2 h3;go_enter Tryz.func48,Tryz.ntmps48
 go_wp2_with fail
 go_loopg [3,4] n (fun gk s3 s4 wr=>CW1 w E n gk s3 s4 wr)
 case atStart=>exact⟨0,none,0,[],rfl,rfl,Nat.zero_le _,rfl,OwnR.nil _ _ _ _,All2.nil,Below.refl _ _⟩
 case round =>
  obtain⟨i,H,hc,O,rfl,rfl,hi,hgk,ho,hvs,hB⟩:=hrel;have HGK:=zh hgk;clear hgk;by_cases hlt:i<n
  ·obtain⟨b,off,rfl,hel⟩:=HS.out.at Vc.cs_len zo zo;obtain⟨v,d,hv,hd,hvd0⟩:=HVS.out.has (i:=i) (by rw[HLN.out];exact hlt);have hnd:ElA w b (off+i) (Vc.cs v):=by have:=hel i v hv;rwa [Nat.mul_one] at this
   have hvd:=VcD.below hvd0 hB;have HD:=zh hd;have hvn:v.n≤1000000:=by have h1:=VcD.len hvd0;have h2:=HEL.out d (List.mem_of_getElem? hd);omega
   have i1:(i:Int)<(n:Int):=zo;have i2:(0:Int)≤(i:Int):=zo;clear hel hv hd hvd0;have Bz:=Below.refl wr.heap.size wr;have pA0:=(hnd.below (zAa hB Bz)).c0 (u:=.slice v.A v.n v.c) rfl;go_wp2_with fail
   have hoff:=fun(b:Nat) (hb:wr.heap.size≤b)=>OwnR.off' (b:=b) ho hb;with_reducible refine(copyVecF_q (VcD.below hvd (by go_grown)) hvn).mono ?_
   rintro e w11 ⟨A11,c11,rfl,h11,hf11,b11⟩;replace b11:=zAa (a:=wr) (by go_grown) b11;replace ho:=ho.below b11;replace hvs:=hvs.below b11;replace Bz:=zAa Bz b11;clear b11;have hvn11:VcN w11 (.slice H i hc) ⟨A11,v.n,c11,v.L⟩ d:=⟨h11,fun a ha=>⟨(hf11 a ha).2,hoff a.block (Nat.le_trans (by first | exact Nat.le_refl _ | (have hw9:Below wr.heap.size wr wr.drew:=by go_grown;exact hw9.size)) (hf11 a ha).1)⟩⟩;clear hoff h11 hf11;clear pA0;go_wp2_with (at_builtin;refine And.left (b:=True) ?_)
   refine⟨?_,trivial⟩;obtain⟨V11,hW,x0,hN⟩:=zAf w11 #[.slice A11 v.n c11] 55;rw[←hW];clear hW;obtain⟨v0,hb0⟩:∃b,b=w11.heap.size:=⟨_,rfl⟩;rw[←hb0] at x0 ⊢;have ow_0:w.heap.size≤v0:=zia (zw hB Bz);have nv0_own:=OwnR.off' (b:=v0) ho zo;replace ho:=ho.below hN;replace hvn11:=hvn11.below hN;replace hvs:=hvs.below hN;replace hB:=zAa (zAa hB Bz) hN;have HX0:=zh x0;clear x0 hN Bz hb0;have Bz:=Below.refl V11.heap.size V11;have hdr:V11.drew.heap.size=V11.heap.size:=rfl;have hdr2:V11.drew.drew.heap.size=V11.heap.size:=rfl;refine Elt.app elt_vcs rfl _ _ rfl (w.heap.size) (.slice H i hc) (i) (O) rfl ho (.slice (some ⟨v0,0,none⟩) 1 1) (1) ([⟨A11,v.n,c11,v.L⟩]) rfl (From.one (HX0.out.below (zAa Bz (by go_grown))) (⟨A11,v.n,c11,v.L⟩) rfl (elt_vcs.len _)) zo (zia (zw hB Bz)) ?_;intro H12 c12 w12 ho12 hg12;replace hB:=(zAa (zAa hB Bz) (by go_grown)).trans (hg12.below (zia (zw hB Bz)) (fun g hg=>by have:=ho.base g hg;omega));clear HX0;clear hdr hdr2;replace hvn11:=hvn11.grow hg12;replace hvs:=hvs.grow hg12;clear hg12 Bz;have Bz:=Below.refl w12.heap.size w12;go_wp2_with fail
   go_roundg (n-(i+1))
   case measure=>have:=HGK.out;omega
   case rel=>exact⟨i+1,_,_,_,rfl,by go_num,zo,rfl,OwnR.below ho12 (by go_grown),All2.take (VsN.below hvs (by go_grown)) HD.out (VcN.below hvn11 (by go_grown)),zAa (zAa hB Bz) (by go_grown)⟩
  ·obtain rfl:i=n:=zo;have i1:¬(i:Int)<(i:Int):=zo;have HR:Hid (RowsD wr H i hc E):=zh ⟨⟨O,ho.sl' elt_vcs (ho.eltn elt_vcs zo),All2.mono (All2.full hvs (by rw[HLE.out];exact Nat.le_refl _)) fun _ _ hx=>hx.1⟩,HEL.out⟩;clear ho hvs;go_wp2_with fail
   go_ret
   exact⟨H,hc,rfl,HR.out,hB⟩
theorem sameVecs_d {w:World} {A A':Option Addr} {n c n' c':Nat} {E:List (List (Int×Dg))} (h:RowsD w A n c E) (h':RowsD w A' n' c' E) (hn:n≤1000000) :
  Calls Tryz.prog 56 #[.slice A n c,.slice A' n' c'] w fun e w'=>e=.returned (.bool true)∧Below w.heap.size w w':=by
 obtain rfl:n=n':=by have h1:=h.len;have h2:=h'.len;omega
 obtain⟨⟨L,h1,h2⟩,h3⟩:=h;obtain⟨⟨L',h1',h2'⟩,_⟩:=h';have HS:=zh h1;have HS':=zh h1';have HLN:=zh h1.1;have HLN':=zh h1'.1;have HVS:=zh h2;have HVS':=zh h2';have HEL:=zh h3;have g0:((n:Int) !=(n:Int))=false:=by simp
 clear h1 h2 h3 h1' h2';go_enter Tryz.func56,Tryz.ntmps56
 go_wp2_with fail
 go_loopg [5] n (fun gk s wr=>LK1 w n gk s wr)
 case atStart=>exact⟨0,Nat.zero_le _,rfl,rfl,Below.refl _ _⟩
 case round =>
  obtain⟨i,hi,hgk,rfl,hB⟩:=hrel;have HGK:=zh hgk;clear hgk;by_cases hlt:i<n
  ·obtain⟨b,off,rfl,hel⟩:=HS.out.at Vc.cs_len zo zo;obtain⟨b',off',rfl,hel'⟩:=HS'.out.at Vc.cs_len zo zo;obtain⟨u,d,hu,hd,hud⟩:=HVS.out.has (i:=i) (by rw[HLN.out];exact hlt);obtain⟨v,hv⟩:∃v,L'[i]?=some v:=⟨L'[i]'(by rw[HLN'.out];exact hlt),List.getElem?_eq_getElem _⟩;have hvd0:=HVS'.out.2 i v d hv hd;have hnd:ElA w b (off+i) (Vc.cs u):=by have:=hel i u hu;rwa [Nat.mul_one] at this
   have hnd':ElA w b' (off'+i) (Vc.cs v):=by have:=hel' i v hv;rwa [Nat.mul_one] at this
   have hvx:=VcD.below hud hB;have hvy:=VcD.below hvd0 hB;have hvn:u.n≤1000000:=by have h1:=VcD.len hud;have h2:=HEL.out d (List.mem_of_getElem? hd);omega
   have i1:(i:Int)<(n:Int):=zo;have i2:(0:Int)≤(i:Int):=zo;clear hel hel' hu hv hd hud hvd0;have Bz:=Below.refl wr.heap.size wr;have pA0:=(hnd.below (zAa hB Bz)).c0 (u:=.slice u.A u.n u.c) rfl;have pB0:=(hnd'.below (zAa hB Bz)).c0 (u:=.slice v.A v.n v.c) rfl;go_wp2_with fail
   (try simp only[List.append_eq,List.cons_append,List.nil_append])
   refine zAb (.take 0 (.take 1 (.take 2 (.take 3 (.take 4 (.take 5 (.take 6 (.take 7 (.only 8 (.take 9 .done)))))))))) [] (fun w'=>w'.cell? ⟨b,off+i,none⟩=some (.slice u.A u.n u.c)∧w'.cell? ⟨b',off'+i,none⟩=some (.slice v.A v.n v.c)) (by kernel_rfl) (by kernel_rfl) ⟨pA0,pB0⟩ ?_;iterate 8 (refine zT rfl rfl (fun w' ⟨pA0,pB0⟩=>by go_simp<;>with_reducible rfl) ?_;try simp only[uW,uX,uY,uZ])
   refine zC 25 rfl rfl (fun K hK=>?_);go_simp
   with_reducible refine(sameVec_d (VcD.below hvx (by go_grown)) (VcD.below hvy (by go_grown)) hvn).mono ?_
   rintro e w11 ⟨rfl,b11⟩;replace b11:=zAa (a:=wr) (by go_grown) b11;replace Bz:=zAa Bz b11;clear b11;clear pA0 pB0;have pA0:=(hnd.below (zAa hB Bz)).c0 (u:=.slice u.A u.n u.c) rfl;have pB0:=(hnd'.below (zAa hB Bz)).c0 (u:=.slice v.A v.n v.c) rfl;refine hK.out _ _ ⟨pA0,pB0⟩ (fun _=>?_);try simp only[uW,uX,uY,uZ]
   clear hK K;refine zT rfl rfl (fun w' ⟨pA0,pB0⟩=>by go_simp<;>with_reducible rfl) ?_;try simp only[uW,uX,uY,uZ]
   refine zAc ?_;go_wp2_with fail
   go_roundg (n-(i+1))
   case measure=>have:=HGK.out;omega
   case rel=>exact⟨i+1,zo,rfl,by go_num,zAa (zAa hB Bz) (by go_grown)⟩
  ·obtain rfl:i=n:=zo;have i1:¬(i:Int)<(i:Int):=zo;go_wp2_with fail
   go_ret
   exact⟨rfl,hB⟩
theorem copyInts_end {w w':World} {n c:Nat} {H:Option Addr} {L:List Int} (h:OwnR w' w.heap.size 3 1 (.slice H (0+n) c) (0+n) (flat ics ([]++L))) (hl:L.length=n):Sl ics 1 w' H n c L:=by
 rw[Nat.zero_add,List.nil_append] at h;exact h.sl' elt_int hl
theorem copyInts_q {w:World} {A:Option Addr} {n c:Nat} {L:List Int} (h:Sl ics 1 w A n c L) (hn:n≤1000000) :
  Calls Tryz.prog 49 #[.slice A n c] w fun e w'=>∃H hc,e=.returned (.slice H n hc)∧Sl ics 1 w' H n hc L∧Below w.heap.size w w':=by
 have hl0:=h.1;have hs:=h;have ho:OwnR w w.heap.size 3 1 (.slice none 0 0) 0 (flat ics ([]:List Int)):=OwnR.nil _ _ _ _;clear h;have hB:=Below.refl w.heap.size w;have Bz:=Below.refl w.heap.size w;go_enter Tryz.func49,Tryz.ntmps49
 go_wp2_with (at_builtin;refine And.left (b:=True) ?_)
 refine⟨?_,trivial⟩;have hdr:w.drew.heap.size=w.heap.size:=rfl;have hdr2:w.drew.drew.heap.size=w.heap.size:=rfl;refine Elt.app elt_int rfl _ _ rfl (w.heap.size) ((Value.slice none 0 0)) (0) (([]:List Int)) rfl ho (.slice A n c) (n) (L) rfl (Sl.below hs (by go_grown)).2 zo (zia (zw hB Bz)) ?_;intro H1 c1 w1 ho1 hg1;replace hB:=(zAa (zAa hB Bz) (by go_grown)).trans (hg1.below (zia (zw hB Bz)) (fun g hg=>by have:=ho.base g hg;omega));clear hdr hdr2;clear hg1 Bz;have Bz:=Below.refl w1.heap.size w1;go_wp2_with fail
 go_ret
 have hF:=zAa (c:=w1) hB Bz;exact⟨_,_,rfl,copyInts_end (OwnR.below ho1 (by go_grown)) hl0,zAa hF (by go_grown)⟩
end Go.Proofs.YtljjgfmeaejnfaaGreatDoor
