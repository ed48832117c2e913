/-
  Copies of fractions, vectors, rows of vectors, whole numbers; and looking at them as they stand. Written by wip/gen/cp.py.
-/
import Derived.Test.YtjkgjiofmgapfaaGreatDoorYCp0
import Derived.Test.YtjkgjiofmgapfaaGreatDoorYMxC
set_option maxHeartbeats 4000000
set_option maxRecDepth 100000
namespace Go.Proofs.YtjkgjiofmgapfaaGreatDoor
open Go.RowKit Tw
theorem copy_w {w:World} {A:Option Addr} {c l:Nat} {xs:List Nat} (h:Nx w A c l xs) (hl:l≤800000) :
  Calls Tryz.prog 140 #[.slice A l c] w (TellsX w l xs):=by
 by_cases hc:A=none→c=0
 ·exact copy_v h hl hc
 ·have hA:A=none:=Classical.byContradiction fun e=>hc fun e2=>absurd e2 e;have h0:xs.length=0:=by
   rcases Nat.eq_zero_or_pos xs.length with h1 | h1
   ·exact h1
   ·obtain⟨b,off,e,_⟩:=h.1.cells h1;rw[hA] at e;cases e
  obtain rfl:xs=[]:=List.eq_nil_of_length_eq_zero h0;obtain rfl:0=l:=h.2;subst hA;clear h h0 hc;go_enter Tryz.func140,Tryz.ntmps140
  go_wp2_with fail
  go_ret
  exact⟨none,0,rfl,⟨Nums.nil _ _ _,rfl⟩,Below.refl _ _⟩
def TellsCp (w:World) (x:Fr) (d:Dg) (e:Ending) (w':World):Prop:=∃A c A' c',e=.returned (.agg #[.bool x.s,.slice A x.l c,.bool x.s',.slice A' x.l' c'])∧Nx w' A c x.l d.xs∧Nx w' A' c' x.l' d.xs'∧Below w.heap.size w w'
theorem copyRat_q {w:World} {x:Fr} {d:Dg} (h:FrD w d x) (hl:x.l≤800000) (hl':x.l'≤800000) :
  Calls Tryz.prog 96 #[.agg #[.bool x.s,.slice x.A x.l x.c,.bool x.s',.slice x.A' x.l' x.c']] w (TellsCp w x d):=by
 have h1:=h.2.2.1;have h2:=h.2.2.2;clear h;obtain⟨W,hW,x0,x1,hB⟩:=boxes2 w #[.bool x.s,.slice x.A x.l x.c,.bool x.s',.slice x.A' x.l' x.c'] 33 #[.bool false,.slice none 0 0,.bool false,.slice none 0 0] 33;replace h1:=h1.below hB;replace h2:=h2.below hB;have HX0:=zh x0;have HX1:=zh x1;clear x0 x1;have Bz:=zr W;obtain⟨pa0,pa1,pa2,pa3,-⟩:=(zx HX0 Bz).cz;obtain⟨pb0,pb1,pb2,pb3,-⟩:=(zx HX1 Bz).cz;have fb0:=(zx HX1 Bz).frozen 0;have fb1:=(zx HX1 Bz).frozen 1;have fb2:=(zx HX1 Bz).frozen 2;have fb3:=(zx HX1 Bz).frozen 3;have y1:=(zx HX1 Bz).lt;go_enter Tryz.func96,Tryz.ntmps96
 go_wp2_with fail
 rw[←hW];clear hW;go_wp2_with fail
 (try simp only[vA,vBa,vC])
 refine zl (.pure 0 (.pure 1 (.take 2 (.pure 3 (.pure 4 (.take 5 (.pure 8 (.pure 9 (.take 10 (.pure 11 (.pure 12 (.take 13 (.only 6 (.pure 7 (.only 14 (.pure 15 (.pure 16 (.only 17 .done)))))))))))))))))) [17] (zsa pa0 (zsa pa1 (zsa pa2 (zIa pa3)))) ?_;iterate 2 (refine zV ?_;try simp only[uW,uX,uY,uZ])
 refine zUa ?_;try simp only[uW,uX,uY,uZ]
 iterate 2 (refine zV ?_;try simp only[uW,uX,uY,uZ])
 refine zUa ?_;try simp only[uW,uX,uY,uZ]
 iterate 2 (refine zV ?_;try simp only[uW,uX,uY,uZ])
 refine zUa ?_;try simp only[uW,uX,uY,uZ]
 iterate 2 (refine zV ?_;try simp only[uW,uX,uY,uZ])
 refine zUa ?_;try simp only[uW,uX,uY,uZ]
 refine zC 9 rfl rfl (fun K hK=>?_);go_simp
 with_reducible refine(copy_w (Nx.below h1) hl).mono ?_
 rintro e w1 ⟨A1,c1,rfl,h1,b1⟩;replace b1:=zq (a:=W) b1;replace h2:=h2.below b1;replace Bz:=bT Bz b1;clear b1;clear pa0 pa1 pa2 pa3 pb0 pb1 pb2 pb3 fb0 fb1 fb2 fb3 y1;obtain⟨pa0,pa1,pa2,pa3,-⟩:=(zx HX0 Bz).cz;obtain⟨pb0,pb1,pb2,pb3,-⟩:=(zx HX1 Bz).cz;have fb0:=(zx HX1 Bz).frozen 0;have fb1:=(zx HX1 Bz).frozen 1;have fb2:=(zx HX1 Bz).frozen 2;have fb3:=(zx HX1 Bz).frozen 3;have y1:=(zx HX1 Bz).lt;refine hK.out _ _ ⟨pa0,pa1,pa2,pa3⟩ (fun _=>?_);try simp only[uW,uX,uY,uZ]
 clear hK K;refine zV ?_;try simp only[uW,uX,uY,uZ]
 refine zC 17 rfl rfl (fun K hK=>?_);go_simp
 with_reducible refine(copy_w (Nx.below h2) hl').mono ?_
 rintro e w2 ⟨A2,c2,rfl,h2,b2⟩;replace b2:=zq (a:=w1) b2;replace h1:=h1.below b2;replace Bz:=bT Bz b2;clear b2;clear pa0 pa1 pa2 pa3 pb0 pb1 pb2 pb3 fb0 fb1 fb2 fb3 y1;obtain⟨pa0,pa1,pa2,pa3,-⟩:=(zx HX0 Bz).cz;obtain⟨pb0,pb1,pb2,pb3,-⟩:=(zx HX1 Bz).cz;have fb0:=(zx HX1 Bz).frozen 0;have fb1:=(zx HX1 Bz).frozen 1;have fb2:=(zx HX1 Bz).frozen 2;have fb3:=(zx HX1 Bz).frozen 3;have y1:=(zx HX1 Bz).lt;refine hK.out _ _ ⟨pa0,pa1,pa2,pa3⟩ (fun _=>?_);try simp only[uW,uX,uY,uZ]
 clear hK K;iterate 2 (refine zV ?_;try simp only[uW,uX,uY,uZ])
 refine zAc (o:=⟨none,_,_,_,_,_⟩) rfl rfl zd (fun K hK=>?_);go_simp
 refine hK.out _ _ ?_;try simp only[Act.put,uX,uY,uZ]
 clear hK K;refine zAa ?_;go_wp2_with fail
 (try simp only[Exit.inBlock,Exit.then])
 refine bodyPost_ret (by simp[results,Tryz.results96,go_sem,pb0,pb1,pb2,pb3];try rfl) rfl ?_;obtain⟨V1,hW,x,kk,far,bel⟩:=store4 (.bool x.s) (.slice A1 x.l c1) (.bool x.s') (.slice A2 x.l' c2) (zx HX1 Bz) nofun nofun nofun nofun;rw[←hW];clear hW;replace h1:=h1.k kk;replace h2:=h2.k kk;replace hB:=bel w.heap.size w zo (bT hB Bz);replace HX0:=zf far HX0 Bz;replace HX1:=zh x;clear x kk far bel Bz;have Bz:=zr V1;have hF:=bT (c:=V1) hB Bz;exact⟨_,_,_,_,rfl,Nx.below h1,Nx.below h2,bT hF⟩
def CV1 (w:World) (D:List (Int×Dg)) (n gk:Nat) (s3 s4:Value) (wr:World):Prop :=
 ∃(i:Nat) (H:Option Addr) (hc:Nat) (O:List Tm),s3=.slice H i hc∧s4=.int .i64 (i:Int)∧i≤n∧n-i=gk∧OwnR wr w.heap.size 71 5 (.slice H i hc) i (flat Tm.cs O)∧TsD wr O (D.take i)∧Below w.heap.size w wr
theorem VcD.k {w w':World} {A:Option Addr} {n c:Nat} {D:List (Int×Dg)} (h:VcD w A n c D) (hk:K64 w w') (hs:∀L,Sl Tm.cs 5 w A n c L→Sl Tm.cs 5 w' A n c L):VcD w' A n c D:=by
 obtain⟨⟨L,h1,h2⟩,h3⟩:=h;exact⟨⟨L,hs L h1,h2.k hk⟩,h3⟩
open Go.RowKit Tw
theorem copyVecF_q {w:World} {A:Option Addr} {n c:Nat} {D:List (Int×Dg)} (h:VcD w A n c D) (hn:n≤1000000) :
  Calls Tryz.prog 43 #[.slice A n c] w fun e w'=>∃H hc,e=.returned (.slice H n hc)∧VcD w' H n hc D∧(∀a,H=some a→w.heap.size≤a.block∧a.block<w'.heap.size)∧(H=none→hc=0)∧Below w.heap.size w w':=by
 have HLD:=zh h.len;obtain⟨⟨L,h1,h2⟩,h3⟩:=h;have HS:=zh h1;have HLN:=zh h1.1;have HTS:=zh h2;have HLE:=zh h3;clear h1 h2 h3;go_enter Tryz.func43,Tryz.ntmps43
 go_wp2_with fail
 go_loopg [3,4] n (fun gk s3 s4 wr=>CV1 w D n gk s3 s4 wr)
 case atStart=>exact⟨0,none,0,[],rfl,rfl,Nat.zero_le _,rfl,OwnR.nil _ _ _ _,All2.nil,Below.refl _ _⟩
 case round =>
  obtain⟨i,H,hc,O,rfl,rfl,hi,hgk,ho,hts,hB⟩:=hrel;have HGK:=zh hgk;clear hgk;by_cases hlt:i<n
  ·obtain⟨b,off,rfl,hel⟩:=HS.out.at Tm.cs_len zo zo;obtain⟨x,d,hx,hd,hxd⟩:=HTS.out.has (i:=i) (by rw[HLN.out];exact hlt);have hnd:=hel i x hx;have hfd:=hxd.2.below hB;have HD:=zh hd;have hle:=HLE.out d (List.mem_of_getElem? hd);have hl1:x.x.l=d.2.xs.length:=hxd.2.2.2.1.2.symm;have hl2:x.x.l'=d.2.xs'.length:=hxd.2.2.2.2.2.symm;have hq1:x.x.l≤800000:=zo;have hq2:x.x.l'≤800000:=zo;have HAT:=zh (And.intro hxd.1 (And.intro hxd.2.1 hxd.2.2.1));have i1:(i:Int)<(n:Int):=zo;have i2:(0:Int)≤(i:Int):=zo;clear hel hx hd hxd hle hl1 hl2;have Bz:=zr wr;obtain⟨pA0,pA1,pA2,pA3,pA4,-⟩:=(hnd.below (bT hB Bz)).ez;go_wp2_with fail
   (try simp only[vA,vBa,vC])
   refine zl (.pure 0 (.pure 1 (.pure 2 (.pure 3 (.pure 4 (.take 5 (.pure 6 (.pure 7 (.pure 8 (.pure 9 (.take 10 (.only 11 (.pure 12 (.only 13 (.only 14 (.pure 15 .done)))))))))))))))) [14] (zsa pA0 (zsa pA1 (zsa pA2 (zsa pA3 (zIa pA4))))) ?_;iterate 5 (refine zV ?_;try simp only[uW,uX,uY,uZ])
   refine zUa ?_;try simp only[uW,uX,uY,uZ]
   iterate 4 (refine zV ?_;try simp only[uW,uX,uY,uZ])
   refine zUa ?_;try simp only[uW,uX,uY,uZ]
   refine zC 22 rfl rfl (fun K hK=>?_);go_simp
   with_reducible refine(copyRat_q (FrD.below hfd) zo zo).mono ?_
   rintro e w11 ⟨A11,c11,A11r,c11r,rfl,h11,h11r,b11⟩;replace b11:=zq (a:=wr) b11;replace ho:=ho.below b11;replace hts:=hts.below b11;replace Bz:=bT Bz b11;clear b11;clear pA0 pA1 pA2 pA3 pA4;obtain⟨pA0,pA1,pA2,pA3,pA4,-⟩:=(hnd.below (bT hB Bz)).ez;refine hK.out _ _ ⟨pA0,pA1,pA2,pA3,pA4⟩ (fun _=>?_);try simp only[uW,uX,uY,uZ]
   clear hK K;refine zV ?_;try simp only[uW,uX,uY,uZ]
   refine zC 24 rfl rfl (fun K hK=>?_);go_simp
   refine hK.out _ _ ⟨(zAb pA0),(zAb pA1),(zAb pA2),(zAb pA3),(zAb pA4)⟩ (fun _=>?_);try simp only[uW,uX,uY,uZ]
   clear hK K;refine zAc (o:=⟨some 25,_,_,_,_,_⟩) rfl rfl zd (fun K hK=>?_);obtain⟨V11,hW,x0,hN⟩:=zAd w11 #[.int .i64 x.at_,.bool x.x.s,.slice A11 x.x.l c11,.bool x.x.s',.slice A11r x.x.l' c11r] 71;rw[←hW];clear hW;obtain⟨v0,hb0⟩:=ze w11.heap.size;rw[←hb0] at x0 ⊢;have ow_0:w.heap.size≤v0:=zi (zw hB Bz);have nv0_own:=OwnR.off' (b:=v0) ho zo;replace h11:=h11.below hN;replace h11r:=h11r.below hN;replace ho:=ho.below hN;replace hts:=hts.below hN;replace hB:=bT (bT hB Bz) hN;have HX0:=zh x0;clear x0 hN Bz hb0;have Bz:=zr V11;clear pA0 pA1 pA2 pA3 pA4;have hdr:V11.drew.heap.size=V11.heap.size:=rfl;have hdr2:V11.drew.drew.heap.size=V11.heap.size:=rfl;refine Elt.wp elt_term _ _ rfl (w.heap.size) (.slice H i hc) (i) (O) rfl ho (.slice (some ⟨v0,0,none⟩) 1 1) (1) ([⟨x.at_,⟨x.x.s,A11,c11,x.x.l,x.x.s',A11r,c11r,x.x.l',x.x.q,x.x.ex⟩⟩]) rfl (From.one (HX0.out.below (bT Bz)) (⟨x.at_,⟨x.x.s,A11,c11,x.x.l,x.x.s',A11r,c11r,x.x.l',x.x.q,x.x.ex⟩⟩) rfl (elt_term.len _)) zo (zi (zw hB Bz)) ?_;intro H12 c12 w12 ho12 hg12;refine hK.out _ _ ?_;try simp only[uW,uX,uY,uZ]
   clear hK K;replace hB:=(bT (bT hB Bz)).trans (hg12.below (zi (zw hB Bz)) (fun g hg=>by have:=ho.base g hg;omega));clear HX0;clear hdr hdr2;replace h11:=h11.k hg12.k;replace h11r:=h11r.k hg12.k;replace hts:=hts.k hg12.k;clear hg12 Bz;have Bz:=zr w12;obtain⟨pA0,pA1,pA2,pA3,pA4,-⟩:=(hnd.below (bT hB Bz)).ez;refine zV ?_;try simp only[uW,uX,uY,uZ]
   refine zAa ?_;go_wp2_with fail
   go_roundg (n-(i+1))
   case measure=>have:=HGK.out;omega
   case rel=>exact⟨i+1,_,_,_,rfl,by go_num,zo,rfl,OwnR.below ho12,All2.take (TsD.below hts) HD.out ⟨HAT.out.1,HAT.out.2.1,HAT.out.2.2,Nx.below h11,Nx.below h11r⟩,bT (bT hB Bz)⟩
  ·obtain rfl:i=n:=zo;have i1:¬(i:Int)<(i:Int):=zo;have HV:Hid (VcD wr H i hc D):=zh ⟨⟨O,ho.sl' elt_term (ho.eltn elt_term zo),All2.full hts (by rw[HLD.out];exact Nat.le_refl _)⟩,HLE.out⟩;have HBA:Hid (∀a,H=some a→w.heap.size≤a.block∧a.block<wr.heap.size):=zh (fun a ha=>by subst ha;exact⟨ho.base a.block rfl,ho.lt a.block rfl⟩);have HZA:Hid (H=none→hc=0):=zh (fun hn=>by obtain⟨_,_,e9,h9,_⟩:=ho.slice;cases e9;exact(h9 hn).2);clear ho hts;go_wp2_with fail
   go_ret
   exact⟨H,hc,rfl,HV.out,HBA.out,HZA.out,hB⟩
def VcN (w:World) (X:Value) (v:Vc) (D:List (Int×Dg)):Prop:=VcD w v.A v.n v.c D∧(∀a,v.A=some a→a.block<w.heap.size∧some a.block≠X.ownBlock)∧(v.A=none→v.c=0)
theorem VcN.below {w w':World} {X:Value} {v:Vc} {D:List (Int×Dg)} (h:VcN w X v D) (hb:Below w.heap.size w w':=by go_grown):VcN w' X v D:=⟨h.1.below hb,fun a ha=>⟨Nat.lt_of_lt_of_le (h.2.1 a ha).1 hb.size,(h.2.1 a ha).2⟩,h.2.2⟩
theorem VcN.grow {w w':World} {X X':Value} {v:Vc} {D:List (Int×Dg)} (h:VcN w X v D) (hg:Grew w w' X X'):VcN w' X' v D:=by
 obtain⟨⟨⟨L,⟨l1,l2,A,c,e,l3,l4⟩,h2⟩,h3⟩,h4,hz⟩:=h;cases e;refine⟨⟨⟨L,⟨l1,l2,_,_,rfl,l3,fun a ha j u hu=>?_⟩,h2.k hg.k⟩,h3⟩,fun a ha=>⟨Nat.lt_of_lt_of_le (h4 a ha).1 hg.size,hg.ne (h4 a ha).1 (h4 a ha).2⟩,hz⟩;have h5:=l4 a ha j u hu;have h7:(a.add j).block=a.block:=by unfold Addr.add;split<;>rfl
 rw[←h5];exact World.cell?_of_block (by rw[h7];exact hg.by_.block a.block (h4 a ha).1 (h4 a ha).2)
def VsN (w:World) (X:Value) (O:List Vc) (E:List (List (Int×Dg))):Prop:=All2 (VcN w X) O E
theorem VsN.below {w w':World} {X:Value} {O:List Vc} {E:List (List (Int×Dg))} (h:VsN w X O E) (hb:Below w.heap.size w w':=by go_grown):VsN w' X O E:=All2.mono h fun _ _ hx=>hx.below hb
theorem VsN.grow {w w':World} {X X':Value} {O:List Vc} {E:List (List (Int×Dg))} (h:VsN w X O E) (hg:Grew w w' X X'):VsN w' X' O E:=All2.mono h fun _ _ hx=>hx.grow hg
def RowsD (w:World) (A:Option Addr) (n c:Nat) (E:List (List (Int×Dg))):Prop:=(∃CL:List Vc,Sl Vc.cs 1 w A n c CL∧All2 (fun v D=>VcD w v.A v.n v.c D) CL E)∧∀D∈E,D.length≤1000000
theorem RowsD.below {w w':World} {A:Option Addr} {n c:Nat} {E:List (List (Int×Dg))} (h:RowsD w A n c E) (hb:Below w.heap.size w w':=by go_grown):RowsD w' A n c E:=by
 obtain⟨⟨CL,h1,h2⟩,h3⟩:=h;exact⟨⟨CL,h1.below hb,All2.mono h2 fun _ _ hx=>hx.below hb⟩,h3⟩
theorem RowsD.len {w:World} {A:Option Addr} {n c:Nat} {E:List (List (Int×Dg))} (h:RowsD w A n c E):E.length=n:=by
 obtain⟨⟨CL,h1,h2⟩,_⟩:=h;rw[←h2.1,h1.1]
def CW1 (w:World) (E:List (List (Int×Dg))) (n gk:Nat) (s3 s4:Value) (wr:World):Prop :=
 ∃(i:Nat) (H:Option Addr) (hc:Nat) (O:List Vc),s3=.slice H i hc∧s4=.int .i64 (i:Int)∧i≤n∧n-i=gk∧OwnR wr w.heap.size 25 1 (.slice H i hc) i (flat Vc.cs O)∧VsN wr (.slice H i hc) O (E.take i)∧Below w.heap.size w wr
theorem copyVecsO_q {w:World} {A:Option Addr} {n c:Nat} {E:List (List (Int×Dg))} (h:RowsD w A n c E) (hn:n≤1000000) :
  Calls Tryz.prog 42 #[.slice A n c] w fun e w'=>∃H hc O,e=.returned (.slice H n hc)∧OwnR w' w.heap.size 25 1 (.slice H n hc) n (flat Vc.cs O)∧VsN w' (.slice H n hc) O E∧Below w.heap.size w w':=by
 have HLE:=zh h.len;obtain⟨⟨CL,h1,h2⟩,h3⟩:=h;have HS:=zh h1;have HLN:=zh h1.1;have HVS:=zh h2;have HEL:=zh h3;clear h1 h2 h3;go_enter Tryz.func42,Tryz.ntmps42
 go_wp2_with fail
 go_loopg [3,4] n (fun gk s3 s4 wr=>CW1 w E n gk s3 s4 wr)
 case atStart=>exact⟨0,none,0,[],rfl,rfl,Nat.zero_le _,rfl,OwnR.nil _ _ _ _,All2.nil,Below.refl _ _⟩
 case round =>
  obtain⟨i,H,hc,O,rfl,rfl,hi,hgk,ho,hvs,hB⟩:=hrel;have HGK:=zh hgk;clear hgk;by_cases hlt:i<n
  ·obtain⟨b,off,rfl,hel⟩:=HS.out.at Vc.cs_len zo zo;obtain⟨v,d,hv,hd,hvd0⟩:=HVS.out.has (i:=i) (by rw[HLN.out];exact hlt);have hnd:ElA w b (off+i) (Vc.cs v):=by have:=hel i v hv;rwa [Nat.mul_one] at this
   have hvd:=VcD.below hvd0 hB;have HD:=zh hd;have hvn:v.n≤1000000:=by have h1:=VcD.len hvd0;have h2:=HEL.out d (List.mem_of_getElem? hd);omega
   have i1:(i:Int)<(n:Int):=zo;have i2:(0:Int)≤(i:Int):=zo;clear hel hv hd hvd0;have Bz:=zr wr;have pA0:=(hnd.below (bT hB Bz)).c0 (u:=.slice v.A v.n v.c) rfl;go_wp2_with fail
   have hoff:=fun(b:Nat) (hb:wr.heap.size≤b)=>OwnR.off' (b:=b) ho hb;with_reducible refine(copyVecF_q (VcD.below hvd) hvn).mono ?_
   rintro e w11 ⟨A11,c11,rfl,h11,hf11,hz11,b11⟩;replace b11:=zq (a:=wr) b11;replace ho:=ho.below b11;replace hvs:=hvs.below b11;replace Bz:=bT Bz b11;clear b11;have hvn11:VcN w11 (.slice H i hc) ⟨A11,v.n,c11,v.L⟩ d:=⟨h11,fun a ha=>⟨(hf11 a ha).2,hoff a.block (Nat.le_trans (by first | exact Nat.le_refl _ | (have hw9:Below wr.heap.size wr wr.drew:=by go_grown;exact hw9.size)) (hf11 a ha).1)⟩,hz11⟩;clear hoff h11 hf11;clear pA0;go_wp2_with (at_builtin;refine And.left (b:=True) ?_)
   refine⟨?_,trivial⟩;obtain⟨V11,hW,x0,hN⟩:=zAd w11 #[.slice A11 v.n c11] 25;rw[←hW];clear hW;obtain⟨v0,hb0⟩:=ze w11.heap.size;rw[←hb0] at x0 ⊢;have ow_0:w.heap.size≤v0:=zi (zw hB Bz);have nv0_own:=OwnR.off' (b:=v0) ho zo;replace ho:=ho.below hN;replace hvn11:=hvn11.below hN;replace hvs:=hvs.below hN;replace hB:=bT (bT hB Bz) hN;have HX0:=zh x0;clear x0 hN Bz hb0;have Bz:=zr V11;have hdr:V11.drew.heap.size=V11.heap.size:=rfl;have hdr2:V11.drew.drew.heap.size=V11.heap.size:=rfl;refine Elt.app elt_vcs rfl _ _ rfl (w.heap.size) (.slice H i hc) (i) (O) rfl ho (.slice (some ⟨v0,0,none⟩) 1 1) (1) ([⟨A11,v.n,c11,v.L⟩]) rfl (From.one (HX0.out.below (bT Bz)) (⟨A11,v.n,c11,v.L⟩) rfl (elt_vcs.len _)) zo (zi (zw hB Bz)) ?_;intro H12 c12 w12 ho12 hg12;replace hB:=(bT (bT hB Bz)).trans (hg12.below (zi (zw hB Bz)) (fun g hg=>by have:=ho.base g hg;omega));clear HX0;clear hdr hdr2;replace hvn11:=hvn11.grow hg12;replace hvs:=hvs.grow hg12;clear hg12 Bz;have Bz:=zr w12;go_wp2_with fail
   go_roundg (n-(i+1))
   case measure=>have:=HGK.out;omega
   case rel=>exact⟨i+1,_,_,_,rfl,by go_num,zo,rfl,OwnR.below ho12,All2.take (VsN.below hvs) HD.out (VcN.below hvn11),bT (bT hB Bz)⟩
  ·obtain rfl:i=n:=zo;have i1:¬(i:Int)<(i:Int):=zo;have HO:=zh ho;have HV:=zh (All2.full hvs (by rw[HLE.out];exact Nat.le_refl _));clear ho hvs;go_wp2_with fail
   go_ret
   exact⟨H,hc,rfl,O,HO.out,HV.out,hB⟩
open Go.RowKit Tw
theorem V.copy {w w':World} {A A':Option Addr} {c c' l l' n:Nat} {xs:List Nat} (h:V w A c l n) (hx:Nx w A c l xs) (hy:Nx w' A' c' l' xs):V w' A' c' l' n:=by
 obtain⟨ys,h1,h2,h3⟩:=h;obtain rfl:ys=xs:=h1.inj hx.1 (h2.trans hx.2.symm);exact⟨ys,hy.1,hy.2,h3⟩
theorem FrD.ok {w w':World} {m:Nat} {x y:Fr} {d:Dg} (h:FrOk w m x) (hd:FrD w d x) (hy:FrD w' d y):FrOk w' m ⟨y.s,y.A,y.c,y.l,y.s',y.A',y.c',y.l',x.q,x.ex⟩:=by
 obtain⟨⟨n,e,⟨n1,h1,h2⟩,⟨n2,h3,h4⟩,h5,h6,h7⟩,xs,ys,h8,h9,h10⟩:=h;obtain⟨d1,d2,d3,d4⟩:=hd;obtain⟨y1,y2,y3,y4⟩:=hy;have l1:y.l=x.l:=y3.2.symm.trans d3.2;have l2:y.l'=x.l':=y4.2.symm.trans d4.2;have e1:xs=d.xs:=h8.1.inj d3.1 (h8.2.trans d3.2.symm);have e2:ys=d.xs':=h9.1.inj d4.1 (h9.2.trans d4.2.symm);refine⟨⟨n,e,⟨n1,h1.copy d3 y3,?_⟩,⟨n2,h3.copy d4 y4,?_⟩,?_,?_,?_⟩,d.xs,d.xs',⟨y3.1,y3.2⟩,⟨y4.1,y4.2⟩,?_⟩
 ·show sgn y.s n1=n
  rw[y1,←d1];exact h2
 ·show sgn y.s' n2=e
  rw[y2,←d2];exact h4
 ·show x.q=if y.l'=0 then qof n 1 else qof n e
  rw[l2];exact h5
 ·show y.l≤m
  omega
 ·show y.l'≤m
  omega
 ·show exB y.s d.xs y.s' d.xs' x.q=x.ex
  rw[y1,y2,←d1,←d2,←e1,←e2];exact h10
def asT (t u:Tm):Tm:=⟨t.at_,⟨u.x.s,u.x.A,u.x.c,u.x.l,u.x.s',u.x.A',u.x.c',u.x.l',t.x.q,t.x.ex⟩⟩
theorem asT_cs {t u:Tm} (h:u.at_=t.at_):(asT t u).cs=u.cs:=by unfold asT Tm.cs;rw[←h]
open Go.RowKit Tw
theorem All2.ex {α β γ:Type} {T:α→β→Prop} {U:α→β→γ→Prop} {L:List α} {K:List β} (h:All2 T L K) (hu:∀x∈L,∀y∈K,T x y→∃z,U x y z):∃Z:List γ,Z.length=L.length∧∀(i:Nat) x y z,L[i]?=some x→K[i]?=some y→Z[i]?=some z→U x y z:=by
 obtain⟨Z,hz⟩:=All2.of (R:=fun(p:α×β) z=>U p.1 p.2 z) (L:=L.zip K) fun p hp=>by
  obtain⟨i,hi⟩:=List.getElem?_of_mem hp;obtain⟨h1,h2⟩:=List.getElem?_zip_eq_some.1 hi;exact hu _ (List.mem_of_getElem? h1) _ (List.mem_of_getElem? h2) (h.2 i _ _ h1 h2)
 refine⟨Z,?_,fun i x y z h1 h2 h3=>hz.2 i (x,y) z (List.getElem?_zip_eq_some.2 ⟨h1,h2⟩) h3⟩;rw[←hz.1,List.length_zip,←h.1,Nat.min_self]
theorem map_by {α β γ:Type} {f:α→γ} {g:β→γ} {L:List α} {K:List β} (hl:L.length=K.length) (h:∀(i:Nat) x y,L[i]?=some x→K[i]?=some y→f x=g y):L.map f=K.map g:=by
 refine List.ext_getElem? fun i=>?_;rw[List.getElem?_map,List.getElem?_map];by_cases hi:i<L.length
 ·have hk:i<K.length:=zo;rw[List.getElem?_eq_getElem hi,List.getElem?_eq_getElem hk];exact congrArg some (h i _ _ (List.getElem?_eq_getElem hi) (List.getElem?_eq_getElem hk))
 ·rw[List.getElem?_eq_none zo,List.getElem?_eq_none zo];rfl
theorem flat_by {α:Type} {f:α→List Value} {L K:List α} (h:L.map f=K.map f):flat f L=flat f K:=by
 unfold flat
 rw[List.flatMap_def,List.flatMap_def,h]
theorem Sl.as {α:Type} {f:α→List Value} {k:Nat} {w:World} {A:Option Addr} {n c:Nat} {L K:List α} (h:Sl f k w A n c L) (e:K.map f=L.map f):Sl f k w A n c K:=by
 have hl:K.length=L.length:=by have:=congrArg List.length e;rwa [List.length_map,List.length_map] at this
 exact⟨hl.trans h.1,by rw[flat_by e];exact h.2⟩
theorem cn_copy {w w':World} {M n c:Nat} {A:Option Addr} {v:Vc} {D:List (Int×Dg)} (h:CN w v M) (hd:TsD w v.L D) (hc:VcD w' A n c D) (hz:A=none→c=0):∃L,CN w' ⟨A,n,c,L⟩ M∧prs L=prs v.L:=by
 obtain⟨⟨K,k1,k2⟩,_⟩:=hc;obtain⟨_,h2,_⟩:=h;have hl:v.L.length=K.length:=hd.1.trans k2.1.symm;have hp:All2 (fun t u=>∃d,TmD w t d∧TmD w' u d) v.L K:=⟨hl,fun i t u ht hu=>by
  have hi:i<D.length:=by rw[←hd.1];exact(List.getElem?_eq_some_iff.1 ht).1
  exact⟨D[i],hd.2 i _ _ ht (List.getElem?_eq_getElem hi),k2.2 i _ _ hu (List.getElem?_eq_getElem hi)⟩⟩
 obtain⟨Z,z1,z2⟩:=hp.ex (U:=fun t u z=>z=asT t u∧u.at_=t.at_∧(RN w' z.x.s z.x.A z.x.c z.x.l z.x.s' z.x.A' z.x.c' z.x.l' z.x.q∧z.x.ex=true∧sz z.x.q+1≤M)) fun t ht u _ ⟨d,d1,d2⟩=>by
  obtain⟨a1,a2,a3⟩:=h2 t ht;have a3:sz t.x.q+1≤M:=a3;have e1:=FrD.ok (a1.fr (m:=M) zo) d1.2 d2.2;refine⟨asT t u,rfl,d2.1.trans d1.1.symm,e1.rn.1 rfl,a2,a3⟩
 have hat:∀(i:Nat) z,Z[i]?=some z→∃t u,v.L[i]?=some t∧K[i]?=some u∧z=asT t u∧u.at_=t.at_∧(RN w' z.x.s z.x.A z.x.c z.x.l z.x.s' z.x.A' z.x.c' z.x.l' z.x.q∧z.x.ex=true∧sz z.x.q+1≤M):=fun i z hz=>by
  have hi:=(List.getElem?_eq_some_iff.1 hz).1;have i1:i<v.L.length:=zo;have i2:i<K.length:=zo;exact⟨_,_,List.getElem?_eq_getElem i1,List.getElem?_eq_getElem i2,z2 i _ _ z (List.getElem?_eq_getElem i1) (List.getElem?_eq_getElem i2) hz⟩
 refine⟨Z,⟨k1.as (map_by (z1.trans hl) fun i z u hz hu=>?_),fun z hz=>?_,hz⟩,?_⟩
 ·obtain⟨t,u',_,h4,rfl,h5,_⟩:=hat i z hz;obtain rfl:u'=u:=Option.some.inj (h4.symm.trans hu);exact asT_cs h5
 ·obtain⟨i,hi⟩:=List.getElem?_of_mem hz;obtain⟨_,_,_,_,_,_,h6⟩:=hat i z hi;exact h6
 ·refine map_by z1 fun i z t hz ht=>?_;obtain⟨t',u,h4,_,rfl,_⟩:=hat i z hz;obtain rfl:t'=t:=Option.some.inj (h4.symm.trans ht);rfl
theorem CN.dg {w:World} {v:Vc} {M:Nat} (h:CN w v M) (hM:M≤800000):∃D,TsD w v.L D∧VcD w v.A v.n v.c D:=by
 obtain⟨D,hD⟩:=All2.of (R:=TmD w) (L:=v.L) fun t ht=>by
  obtain⟨a1,_,a3⟩:=h.2.1 t ht;have a3:sz t.x.q+1≤M:=a3;obtain⟨d,hd⟩:=(a1.fr (m:=M) zo).dg;exact⟨(t.at_,d),rfl,hd⟩
 refine⟨D,hD,⟨v.L,h.1,hD⟩,fun d hd=>?_⟩;obtain⟨i,hid⟩:=List.getElem?_of_mem hd;have hi2:i<v.L.length:=by rw[hD.1];exact(List.getElem?_eq_some_iff.1 hid).1
 have h1:=hD.2 i _ d (List.getElem?_eq_getElem hi2) hid;obtain⟨a1,_,a3⟩:=h.2.1 _ (List.getElem_mem hi2);have a3:sz v.L[i].x.q+1≤M:=a3;have h2:=(a1.r' (m:=M) zo).len;rw[h1.2.2.2.1.2,h1.2.2.2.2.2];omega
def CVs (w:World) (H:Value) (M:Nat) (V:List Vc):Prop:=∀v∈V,CN w v M∧∀a,v.A=some a→a.block<w.heap.size∧some a.block≠H.ownBlock
theorem CVs.below {w w':World} {H:Value} {M:Nat} {V:List Vc} (h:CVs w H M V) (hb:Below w.heap.size w w':=by go_grown):CVs w' H M V:=fun v hv=>⟨(h v hv).1.below hb,fun a ha=>⟨Nat.lt_of_lt_of_le ((h v hv).2 a ha).1 hb.size,((h v hv).2 a ha).2⟩⟩
theorem CN.grow {w w':World} {H H':Value} {M:Nat} {v:Vc} (h:CN w v M) (h4:∀a,v.A=some a→a.block<w.heap.size∧some a.block≠H.ownBlock) (hg:Grew w w' H H'):CN w' v M:=by
 obtain⟨⟨l1,l2,A,c,e,l3,l4⟩,h2,hz⟩:=h;cases e;refine⟨⟨l1,l2,_,_,rfl,l3,fun a ha j u hu=>?_⟩,h2.k hg.k,hz⟩;have h5:=l4 a ha j u hu;have h7:(a.add j).block=a.block:=by unfold Addr.add;split<;>rfl
 rw[←h5];exact World.cell?_of_block (by rw[h7];exact hg.by_.block a.block (h4 a ha).1 (h4 a ha).2)
theorem CVs.grow {w w':World} {H H':Value} {M:Nat} {V:List Vc} (h:CVs w H M V) (hg:Grew w w' H H'):CVs w' H' M V:=fun v hv=>⟨(h v hv).1.grow (h v hv).2 hg,fun a ha=>⟨Nat.lt_of_lt_of_le ((h v hv).2 a ha).1 hg.size,hg.ne ((h v hv).2 a ha).1 ((h v hv).2 a ha).2⟩⟩
theorem CVs.mono {w:World} {H:Value} {M M':Nat} {V:List Vc} (h:CVs w H M V) (hm:M≤M'):CVs w H M' V:=fun v hv=>⟨⟨(h v hv).1.1,(h v hv).1.2.1.mono fun _ _=>hm,(h v hv).1.2.2⟩,(h v hv).2⟩
theorem copyVecsC {w:World} {A:Option Addr} {n c M:Nat} {C:List (List (Int×Rat))} (h:CM w A n c C M) (hC:∀x∈C,x.length≤1000000) (hM:M≤800000) (hn:n≤1000000) (h1:1≤n) :
  Calls Tryz.prog 42 #[.slice A n c] w fun e w'=>∃g hc V,e=.returned (.slice (some ⟨g,0,none⟩) n hc)∧OwnR w' w.heap.size 25 1 (.slice (some ⟨g,0,none⟩) n hc) n (flat Vc.cs V)∧CVs w' (.slice (some ⟨g,0,none⟩) n hc) M V∧V.map (fun v=>prs v.L)=C∧Below w.heap.size w w':=by
 obtain⟨CL,h1',h2,rfl⟩:=h;obtain⟨E,hE⟩:=All2.of (R:=fun v D=>TsD w v.L D∧VcD w v.A v.n v.c D) (L:=CL) fun v hv=>(h2 v hv).dg hM;refine(copyVecsO_q (E:=E) ⟨⟨CL,h1',All2.mono hE fun _ _ hx=>hx.2⟩,fun D hD=>?_⟩ hn).mono fun e w' ⟨H,hc,O,h3,h4,h5,h6⟩=>?_
 ·obtain⟨i,hi⟩:=List.getElem?_of_mem hD;have hi2:i<CL.length:=by rw[hE.1];exact(List.getElem?_eq_some_iff.1 hi).1
  have k1:=hE.2 i _ _ (List.getElem?_eq_getElem hi2) hi;rw[←k1.1.1,←zAh];exact hC _ (List.mem_map_of_mem (f:=fun v:Vc=>prs v.L) (List.getElem_mem hi2))
 ·have hl:CL.length=O.length:=hE.1.trans h5.1.symm;have hp:All2 (fun v o=>∃D,(TsD w v.L D∧VcD w v.A v.n v.c D)∧VcN w' (.slice H n hc) o D) CL O:=⟨hl,fun i v o hv ho=>by
   have hi:i<E.length:=by rw[←hE.1];exact(List.getElem?_eq_some_iff.1 hv).1
   exact⟨E[i],hE.2 i _ _ hv (List.getElem?_eq_getElem hi),h5.2 i _ _ ho (List.getElem?_eq_getElem hi)⟩⟩
  obtain⟨V,v1,v2⟩:=hp.ex (U:=fun v o z=>Vc.cs z=Vc.cs o∧prs z.L=prs v.L∧CN w' z M∧∀a,z.A=some a→a.block<w'.heap.size∧some a.block≠(Value.slice H n hc).ownBlock) fun v hv o _ ⟨D,d1,d2⟩=>by
   obtain⟨L,l1,l2⟩:=cn_copy (h2 v hv) d1.1 d2.1 d2.2.2;exact⟨⟨o.A,o.n,o.c,L⟩,rfl,l2,l1,d2.2.1⟩
  have hat:∀(i:Nat) z,V[i]?=some z→∃v o,CL[i]?=some v∧O[i]?=some o∧Vc.cs z=Vc.cs o∧prs z.L=prs v.L∧CN w' z M∧∀a,z.A=some a→a.block<w'.heap.size∧some a.block≠(Value.slice H n hc).ownBlock:=fun i z hz=>by
   have hi:=(List.getElem?_eq_some_iff.1 hz).1;have i1:i<CL.length:=zo;have i2:i<O.length:=zo;exact⟨_,_,List.getElem?_eq_getElem i1,List.getElem?_eq_getElem i2,v2 i _ _ z (List.getElem?_eq_getElem i1) (List.getElem?_eq_getElem i2) hz⟩
  have hfl:flat Vc.cs V=flat Vc.cs O:=flat_by (map_by zo fun i z o hz ho=>by
   obtain⟨_,o',_,k2,k3,_⟩:=hat i z hz;obtain rfl:o'=o:=Option.some.inj (k2.symm.trans ho);exact k3)
  obtain⟨g,rfl⟩:=h4.some zo;refine⟨g,hc,V,h3,by rw[hfl];exact h4,fun z hz=>?_,map_by v1 fun i z v hz hv=>?_,h6⟩
  ·obtain⟨i,hi⟩:=List.getElem?_of_mem hz;obtain⟨_,_,_,_,_,_,k5,k6⟩:=hat i z hi;exact⟨k5,k6⟩
  ·obtain⟨v',_,k1,_,_,k4,_⟩:=hat i z hz;obtain rfl:v'=v:=Option.some.inj (k1.symm.trans hv);exact k4
theorem CVs.cm {w:World} {B g n hc M:Nat} {V:List Vc} (h:CVs w (.slice (some ⟨g,0,none⟩) n hc) M V) (ho:OwnR w B 25 1 (.slice (some ⟨g,0,none⟩) n hc) n (flat Vc.cs V)):CM w (some ⟨g,0,none⟩) n hc (V.map fun v=>prs v.L) M :=
 ⟨V,ho.sl' elt_vcs (ho.eltn elt_vcs zo),fun v hv=>(h v hv).1,rfl⟩
theorem own_cnb {w:World} {B n c M:Nat} {A:Option Addr} {L:List Tm} (h1:OwnR w B 71 5 (.slice A n c) n (flat Tm.cs L)) (h2:OnT w L fun _=>M):CN w ⟨A,n,c,L⟩ M∧∀a,A=some a→a.block<w.heap.size∧B≤a.block:=by
 refine⟨⟨h1.sl' elt_vec (h1.eltn elt_vec zo),h2,fun hn=>?_⟩,fun a ha=>by subst ha;exact⟨h1.lt a.block rfl,h1.base a.block rfl⟩⟩;obtain⟨_,_,e9,h9,_⟩:=h1.slice;cases e9;exact(h9 hn).2
theorem CVs.put {w:World} {B g n hc M p:Nat} {V:List Vc} {y X:Vc} (h:CVs w (.slice (some ⟨g,0,none⟩) n hc) M V) (ho:OwnR w B 25 1 (.slice (some ⟨g,0,none⟩) n hc) n (flat Vc.cs V)) (hy:V[p]?=some y) (hx:CN w X M) (hxb:∀a,X.A=some a→a.block<w.heap.size∧a.block≠g) :
  ∃W,W=w.setCell ⟨g,p,none⟩ (.slice X.A X.n X.c)∧OwnR W B 25 1 (.slice (some ⟨g,0,none⟩) n hc) n (flat Vc.cs (V.set p X))∧CVs W (.slice (some ⟨g,0,none⟩) n hc) M (V.set p X)∧Grew w W (.slice (some ⟨g,0,none⟩) n hc) (.slice (some ⟨g,0,none⟩) n hc):=by
 obtain⟨W,hW,h1,h2⟩:=vc_store ho hy X;have hb:∀a,X.A=some a→a.block<w.heap.size∧some a.block≠(Value.slice (some ⟨g,0,none⟩) n hc).ownBlock:=fun a ha=>⟨(hxb a ha).1,fun e=>(hxb a ha).2 (by cases e;rfl)⟩;refine⟨W,hW,h1,fun v hv=>?_,h2⟩;rcases List.mem_or_eq_of_mem_set hv with h3 | rfl
 ·exact h.grow h2 v h3
 ·exact⟨hx.grow hb h2,fun a ha=>⟨Nat.lt_of_lt_of_le (hb a ha).1 h2.size,h2.ne (hb a ha).1 (hb a ha).2⟩⟩
theorem timesO {w:World} {X A:Option Addr} {nx cx n c:Nat} {P:List (Int×Rat)} {C:List (List (Int×Rat))} (M MC kc mc N WT D:Nat) (h:CW w A n c C MC) (hx:GV w X nx cx P M) (hC:∀x∈C,x.length≤kc∧wtot x≤mc) (hnx:nx≤N) (hW:wtot P≤WT)
  (hM:M≤9000000000) (hMC:MC≤9000000000) (hN:N≤1000) (hkc:kc≤1000) (hn:n≤1000000) (hD:N*mc+kc*WT≤D) (hD2:D≤18000000000) (hT:Hid (Tab w)) :
  Calls Tryz.prog 50 #[.slice A n c,.slice X nx cx] w (TellsVO w (nrm (timesP C (nrm P))) D):=by
 obtain⟨CL,h1,h2,rfl⟩:=h;have a1:=Nat.mul_le_mul_right mc hnx;have a2:=Nat.mul_le_mul_left kc hW;refine timesO_q M MC kc mc h1 (zh fun v hv=>?_) hx hM hMC zo hkc hn D zo hD2 hT;have h3:=hC _ (List.mem_map_of_mem (f:=fun v:Vc=>prs v.L) hv);have h4:=(h2 v hv).len;exact⟨h2 v hv,zo,h3.2⟩
end Go.Proofs.YtjkgjiofmgapfaaGreatDoor
