import Derived.Test.YtiondclbdgijbaaGreatDoorYHd4
set_option maxHeartbeats 8000000
set_option maxRecDepth 100000
namespace Go.Proofs.YtiondclbdgijbaaGreatDoor
open Go.RowKit Tw
structure LwIn (w:World) (y:Ly):Prop where
 ok:LyOk w 2 y
 fits:∃n u t,zAc y n=some (u,t)
 conv:y.kind=2→SmOk y
 same:y.kind≠2→∀v∈y.rows,GV w v.A v.n v.c (prs v.L) 160∧v.n≤1000000
theorem LwIn.below {w w':World} {y:Ly} (h:LwIn w y) (hb:Below w.heap.size w w':=by go_grown):LwIn w' y:=⟨h.ok.below hb,h.fits,h.conv,fun hk v hv=>⟨(h.same hk v hv).1.below hb,(h.same hk v hv).2⟩⟩
def CpL (w:World) (L:List Ly) (n gk:Nat) (s5 s10:Value) (wr:World):Prop :=
 ∃(i:Nat) (H:Option Addr) (hc:Nat) (O:List Ly),s5=.slice H i hc∧s10=.int .i64 (i:Int)∧i≤n∧n-i=gk∧OwnR wr w.heap.size 55 13 (.slice H i hc) i (flat Ly.cs O)∧LR LwU wr (.slice H i hc) w.heap.size O (L.take i)∧Below w.heap.size w wr
def OutN (w:World) (n:Nat) (L:List Ly) (e:Ending) (w':World):Prop:=∃H hc O,e=.returned (.slice H n hc)∧Rob w' w.heap.size w'.heap.size (fun u=>Sl Ly.cs 13 u H n hc O∧All2 (LwU u) O L)∧Below w.heap.size w w'
def OutW (w:World) (inp:Int) (n:Nat) (L:List Ly) (e:Ending) (w':World):Prop:=∃H hc O,e=.returned (.tuple #[.agg #[.int .i64 inp,.slice H n hc],.int .i64 0])∧Rob w' w.heap.size w'.heap.size (fun u=>Sl Ly.cs 13 u H n hc O∧All2 (LwU u) O L)∧Below w.heap.size w w'
theorem lower1_q {w:World} {y:Ly} (h:LwIn w y) (hT:Hid (Tab w)):Calls Tryz.prog 27 #[.agg #[.int .u8 y.kind,.slice y.rA y.rn y.rc,.slice y.bA y.bn y.bc,.int .i64 y.ch,.int .i64 y.high,.int .i64 y.wide,.int .i64 y.out,.int .i64 y.kh,.int .i64 y.kw,.int .i64 y.st,.int .i64 y.pad,.slice y.kA y.kn y.kc,.slice y.gA y.gn y.gc]] w (OutL w y):=by
 have hy:=zh h;obtain⟨n0,u0,t0,hb0⟩:=h.fits;have hbd:=zh hb0;clear h hb0;by_cases hk:y.kind=2
 ·have HK:=zh hk;have g1:(y.kind==2)=true:=by rw[hk];rfl
  clear hk;obtain⟨W,hW,x0,x1,hB⟩:=zAh w #[.int .u8 y.kind,.slice y.rA y.rn y.rc,.slice y.bA y.bn y.bc,.int .i64 y.ch,.int .i64 y.high,.int .i64 y.wide,.int .i64 y.out,.int .i64 y.kh,.int .i64 y.kw,.int .i64 y.st,.int .i64 y.pad,.slice y.kA y.kn y.kc,.slice y.gA y.gn y.gc] 55 #[.int .u8 0,.slice none 0 0,.slice none 0 0,.int .i64 0,.int .i64 0,.int .i64 0,.int .i64 0,.int .i64 0,.int .i64 0,.int .i64 0,.int .i64 0,.slice none 0 0,.slice none 0 0] 55;have HX0:=zh x0;have HX1:=zh x1;clear x0 x1;have Bz:=zr W;obtain⟨pa0,pa1,pa2,pa3,pa4,pa5,pa6,pa7,pa8,pa9,paa,pab,pac,-⟩:=(zx HX0 Bz).cz;go_enter Tryz.func27,Tryz.ntmps27
  go_wp2_with fail
  rw[←hW];clear hW;go_wp2_with fail
  have hs1:w.heap.size+2≤W.heap.size:=zi (zx HX1 Bz).lt;with_reducible refine(sums_q (hy.out.ok.below (bT hB (bT (b:=W) Bz))) (aA _) HK.out (hy.out.conv HK.out) (zt hT hB Bz)).mono ?_
  rintro e w1 ⟨z1,rfl,h1,q⟩;replace q:=zq (a:=W) q;replace Bz:=bT Bz q;clear q;replace h1:=h1.wide hs1 (aA _) (aA _);clear pa0 pa1 pa2 pa3 pa4 pa5 pa6 pa7 pa8 pa9 paa pab pac;obtain⟨pb0,pb1,pb2,pb3,pb4,pb5,pb6,pb7,pb8,pb9,pba,pbb,pbc,-⟩:=(zx HX1 Bz).cz;obtain⟨y1,f1_0,fb1,fb2,fb3,fb4,fb5,fb6,fb7,fb8,fb9,fba,fbb,fbc,-⟩:=(zx HX1 Bz).fz;go_wp2_with fail
  (try simp only[Exit.inBlock,Exit.then])
  refine bodyPost_ret (by simp[results,Tryz.results27,go_sem,pb0,pb1,pb2,pb3,pb4,pb5,pb6,pb7,pb8,pb9,pba,pbb,pbc];try rfl) rfl ?_;obtain⟨V1,hW,x,kk,far,bel⟩:=store13 (.int .u8 z1.kind) (.slice z1.rA z1.rn z1.rc) (.slice z1.bA z1.bn z1.bc) (.int .i64 z1.ch) (.int .i64 z1.high) (.int .i64 z1.wide) (.int .i64 z1.out) (.int .i64 z1.kh) (.int .i64 z1.kw) (.int .i64 z1.st) (.int .i64 z1.pad) (.slice z1.kA z1.kn z1.kc) (.slice z1.gA z1.gn z1.gc) (zx HX1 Bz) nofun nofun nofun nofun nofun nofun nofun nofun nofun nofun nofun nofun nofun;have hoff:∀(k j:Nat),k≠w.heap.size+1→V1.cell? ⟨k,j,none⟩=w1.cell? ⟨k,j,none⟩:=fun k j hk=>by rw[hW];exact cell_off13 (Ne.symm hk)
  rw[←hW];clear hW;replace h1:=h1.off hoff kk (bel 0 _ (uA _) (Below.refl 0 _)).size (.inl zo);replace hB:=bel w.heap.size w zo (bT hB Bz);replace HX0:=zf far HX0 Bz;replace HX1:=zh x;clear x kk far bel Bz hoff;have Bz:=zr V1;have hF:=bT (c:=V1) hB Bz;exact⟨z1,rfl,(h1).wide zo (h1).le (aA _),hF⟩
 ·have HK:Hid (y.kind≠2):=zh hk;have g1:(y.kind==2)=false:=by simpa using hk
  clear hk;obtain⟨W,hW,x0,x1,hB⟩:=zAh w #[.int .u8 y.kind,.slice y.rA y.rn y.rc,.slice y.bA y.bn y.bc,.int .i64 y.ch,.int .i64 y.high,.int .i64 y.wide,.int .i64 y.out,.int .i64 y.kh,.int .i64 y.kw,.int .i64 y.st,.int .i64 y.pad,.slice y.kA y.kn y.kc,.slice y.gA y.gn y.gc] 55 #[.int .u8 0,.slice none 0 0,.slice none 0 0,.int .i64 0,.int .i64 0,.int .i64 0,.int .i64 0,.int .i64 0,.int .i64 0,.int .i64 0,.int .i64 0,.slice none 0 0,.slice none 0 0] 55;have HX0:=zh x0;have HX1:=zh x1;clear x0 x1;have Bz:=zr W;obtain⟨pa0,pa1,pa2,pa3,pa4,pa5,pa6,pa7,pa8,pa9,paa,pab,pac,-⟩:=(zx HX0 Bz).cz;go_enter Tryz.func27,Tryz.ntmps27
  go_wp2_with fail
  rw[←hW];clear hW;go_wp2_with fail
  have hs1:w.heap.size+2≤W.heap.size:=zi (zx HX1 Bz).lt;with_reducible refine(lsame_q (hy.out.ok.below (bT hB (bT (b:=W) Bz))) zo (M:=160) zo HK.out hbd (zh fun v h=>⟨(hy.out.same HK.out v h).1.below (bT hB (bT (b:=W) Bz)),(hy.out.same HK.out v h).2⟩) (zt hT hB Bz)).mono ?_
  rintro e w1 ⟨z1,rfl,h1,q⟩;replace q:=zq (a:=W) q;replace Bz:=bT Bz q;clear q;replace h1:=h1.wide hs1 (aA _) (aA _);clear pa0 pa1 pa2 pa3 pa4 pa5 pa6 pa7 pa8 pa9 paa pab pac;obtain⟨pb0,pb1,pb2,pb3,pb4,pb5,pb6,pb7,pb8,pb9,pba,pbb,pbc,-⟩:=(zx HX1 Bz).cz;obtain⟨y1,f1_0,fb1,fb2,fb3,fb4,fb5,fb6,fb7,fb8,fb9,fba,fbb,fbc,-⟩:=(zx HX1 Bz).fz;go_wp2_with fail
  (try simp only[Exit.inBlock,Exit.then])
  refine bodyPost_ret (by simp[results,Tryz.results27,go_sem,pb0,pb1,pb2,pb3,pb4,pb5,pb6,pb7,pb8,pb9,pba,pbb,pbc];try rfl) rfl ?_;obtain⟨V1,hW,x,kk,far,bel⟩:=store13 (.int .u8 z1.kind) (.slice z1.rA z1.rn z1.rc) (.slice z1.bA z1.bn z1.bc) (.int .i64 z1.ch) (.int .i64 z1.high) (.int .i64 z1.wide) (.int .i64 z1.out) (.int .i64 z1.kh) (.int .i64 z1.kw) (.int .i64 z1.st) (.int .i64 z1.pad) (.slice z1.kA z1.kn z1.kc) (.slice z1.gA z1.gn z1.gc) (zx HX1 Bz) nofun nofun nofun nofun nofun nofun nofun nofun nofun nofun nofun nofun nofun;have hoff:∀(k j:Nat),k≠w.heap.size+1→V1.cell? ⟨k,j,none⟩=w1.cell? ⟨k,j,none⟩:=fun k j hk=>by rw[hW];exact cell_off13 (Ne.symm hk)
  rw[←hW];clear hW;replace h1:=h1.off hoff kk (bel 0 _ (uA _) (Below.refl 0 _)).size (.inl zo);replace hB:=bel w.heap.size w zo (bT hB Bz);replace HX0:=zf far HX0 Bz;replace HX1:=zh x;clear x kk far bel Bz hoff;have Bz:=zr V1;have hF:=bT (c:=V1) hB Bz;exact⟨z1,rfl,(h1).wide zo (h1).le (aA _),hF⟩
theorem copiedL_q {w:World} {A:Option Addr} {n c:Nat} {L:List Ly} (h:Sl Ly.cs 13 w A n c L) (hl:Hid (∀y∈L,LwIn w y)) (hn:n≤1000000) (hT:Hid (Tab w)) :
  Calls Tryz.prog 26 #[.slice A n c,.func (.func 27) #[] #[]] w (OutN w n L):=by
 have HS:=zh h;have HLN:=zh h.1;clear h;go_enter Tryz.func26,Tryz.ntmps26
 go_wp2_with fail
 go_loopg [5,10] n (fun gk s5 s10 wr=>CpL w L n gk s5 s10 wr)
 case atStart=>exact⟨0,none,0,[],rfl,rfl,uA _,rfl,OwnR.nil _ _ _ _,LR.nil,Below.refl _ _⟩
 case round =>
  obtain⟨i,H,hc,O,rfl,rfl,hi,hgk,ho,hvs,hB⟩:=hrel;have HGK:=zh hgk;clear hgk;by_cases hlt:i<n
  ·obtain⟨b,off,rfl,hel⟩:=HS.out.at Ly.cs_len zo zo;obtain⟨x,hx⟩:∃x,L[i]?=some x:=⟨L[i]'(by rw[HLN.out];exact hlt),cA _⟩;have hnd:=hel i x hx;have HX:=zh (hl.out x (eA hx));have HD:=zh hx;have i1:(i:Int)<(n:Int):=zo;have i2:(0:Int)≤(i:Int):=zo;clear hel hx;have Bz:=zr wr;obtain⟨pA0,pA1,pA2,pA3,pA4,pA5,pA6,pA7,pA8,pA9,pAa,pAb,pAc,-⟩:=(hnd.below (bT hB Bz)).ez;go_upto_region 5 with(fail)
   obtain⟨V11,hW,x0,hN⟩:=zAb wr #[.int .u8 x.kind,.slice x.rA x.rn x.rc,.slice x.bA x.bn x.bc,.int .i64 x.ch,.int .i64 x.high,.int .i64 x.wide,.int .i64 x.out,.int .i64 x.kh,.int .i64 x.kw,.int .i64 x.st,.int .i64 x.pad,.slice x.kA x.kn x.kc,.slice x.gA x.gn x.gc] 55;rw[←hW];clear hW;obtain⟨v0,hb0⟩:=ze wr.heap.size;rw[←hb0] at x0 ⊢;have ow_0:w.heap.size≤v0:=zi (zw hB Bz);have nv0_own:=OwnR.off' (b:=v0) ho zo;replace hvs:=hvs.below hN;replace ho:=ho.below hN;replace hB:=bT (bT hB Bz) hN;have HX0:=zh x0;clear x0 hN Bz hb0;have Bz:=zr V11;clear pA0 pA1 pA2 pA3 pA4 pA5 pA6 pA7 pA8 pA9 pAa pAb pAc;obtain⟨pa0,pa1,pa2,pa3,pa4,pa5,pa6,pa7,pa8,pa9,paa,pab,pac,-⟩:=(zx HX0 Bz).cz;go_wp2_with fail
   have hoff:=OwnR.lt ho;have hsz:w.heap.size≤V11.heap.size:=zi (zw hB Bz);with_reducible refine(lower1_q (HX.out.below (bT hB (bT (b:=V11) Bz))) (zt hT hB Bz)).mono ?_
   rintro e w11 ⟨z11,rfl,h11,q⟩;replace q:=zq (a:=V11) q;replace hvs:=hvs.below q;replace ho:=ho.below q;replace Bz:=bT Bz q;clear q;have hx11:LR1 LwU w11 (.slice H i hc) w.heap.size z11 x:=⟨_,_,hsz,fun g hg=>.inl (hoff g hg),h11⟩;clear hoff hsz h11;clear pa0 pa1 pa2 pa3 pa4 pa5 pa6 pa7 pa8 pa9 paa pab pac;go_wp2_with (at_builtin;refine And.left (b:=True) ?_)
   refine⟨?_,trivial⟩;obtain⟨V12,hW,x1,hN⟩:=zAb w11 #[.int .u8 z11.kind,.slice z11.rA z11.rn z11.rc,.slice z11.bA z11.bn z11.bc,.int .i64 z11.ch,.int .i64 z11.high,.int .i64 z11.wide,.int .i64 z11.out,.int .i64 z11.kh,.int .i64 z11.kw,.int .i64 z11.st,.int .i64 z11.pad,.slice z11.kA z11.kn z11.kc,.slice z11.gA z11.gn z11.gc] 55;rw[←hW];clear hW;obtain⟨v1,hb1⟩:=ze w11.heap.size;rw[←hb1] at x1 ⊢;have ow_1:w.heap.size≤v1:=zi (zw hB Bz);have nv1_own:=OwnR.off' (b:=v1) ho zo;replace hvs:=hvs.below hN;replace hx11:=hx11.below hN;replace ho:=ho.below hN;replace hB:=bT (bT hB Bz) hN;replace HX0:=zba HX0 Bz hN;have HX1:=zh x1;clear x1 hN Bz hb1;have Bz:=zr V12;have hdr:V12.drew.heap.size=V12.heap.size:=rfl;have hdr2:V12.drew.drew.heap.size=V12.heap.size:=rfl;refine Elt.app elt_lyl rfl (.tmp 14) (.tmp 18) rfl (w.heap.size) (.slice H i hc) (i) (O) rfl ho (.slice (some ⟨v1,0,none⟩) 1 1) (1) ([z11]) rfl (From.one (HX1.out.below (bT Bz)) (z11) rfl (elt_lyl.len _)) zo (zi (zw hB Bz)) ?_;intro H12 c12 w12 ho12 hg12;replace hB:=(bT (bT hB Bz)).trans (hg12.below (zi (zw hB Bz)) (fun g hg=>by have:=ho.base g hg;omega));clear HX0;clear HX1;clear hdr hdr2;replace hvs:=hvs.grow hg12;replace hx11:=hx11.grow hg12;clear hg12 Bz;have Bz:=zr w12;go_wp2_with fail
   go_roundg (n-(i+1))
   case measure=>have:=HGK.out;omega
   case rel=>exact⟨i+1,_,_,_,rfl,by go_num,zo,rfl,OwnR.below ho12,All2.take (LR.below hvs) HD.out (LR1.below hx11),bT (bT hB Bz)⟩
  ·obtain rfl:i=n:=zo;have i1:¬(i:Int)<(i:Int):=zo;have HR:Hid (Rob wr w.heap.size wr.heap.size (fun u=>Sl Ly.cs 13 u H i hc O∧All2 (LwU u) O L)):=zh (by
    have h9:=hvs;rw[fA (by rw[HLN.out];exact aA _)] at h9;exact((ho.rob elt_lyl (ho.eltn elt_lyl zo)).and h9.rob))
   clear ho hvs;go_wp2_with fail
   go_ret
   exact⟨H,hc,O,rfl,HR.out,hB⟩
theorem Lower_bad {w:World} {inp:Int} {A:Option Addr} {n c:Nat} {L:List Ly} (hs:Hid (Sl Ly.cs 13 w A n c L)) (hl:Hid (∀y∈L,LyOk w 2 y)) (hln:n≤9223372036854775807) {z:Int} (hz:sizesF inp L=.error z) (hT:Hid (Tab w)) :
  Calls Tryz.prog 9 #[.agg #[.int .i64 inp,.slice A n c]] w fun e w'=>e=.returned (.tuple #[.agg #[.int .i64 0,.slice none 0 0],.int .i64 z])∧Below w.heap.size w w':=by
 have HZ:Hid (checkF inp L=z):=zh (by unfold checkF;rw[hz]);have g1:(z != 0)=true:=by rcases sizes_err hz with rfl | rfl<;>rfl
 clear hz;obtain⟨W,hW,x0,x1,hB⟩:=zAh w #[.int .i64 inp,.slice A n c] 24 #[.int .i64 0,.slice none 0 0] 24;have HX0:=zh x0;have HX1:=zh x1;clear x0 x1;have Bz:=zr W;obtain⟨pa0,pa1,-⟩:=(zx HX0 Bz).cz;go_enter Tryz.func9,Tryz.ntmps9
 go_wp2_with fail
 rw[←hW];clear hW;go_wp2_with fail
 with_reducible refine(checkT_q (hs.out.below (bT hB (bT (b:=W) Bz))) (zh fun y h=>(hl.out y h).below (bT hB (bT (b:=W) Bz))) zo hln (zt hT hB Bz)).mono ?_
 rintro e w1 ⟨rfl,q⟩;replace q:=zq (a:=W) q;replace Bz:=bT Bz q;clear q;rw[HZ.out];clear pa0 pa1;obtain⟨pb0,pb1,-⟩:=(zx HX1 Bz).cz;obtain⟨y1,f1_0,fb1,-⟩:=(zx HX1 Bz).fz;go_wp2_with fail
 (try simp only[Exit.inBlock,Exit.then])
 refine bodyPost_ret (by simp[results,Tryz.results9,go_sem,pb0,pb1];try rfl) rfl ?_;obtain⟨V1,hW,x,kk,far,bel⟩:=store2 (.int .i64 0) (.slice none 0 0) (zx HX1 Bz) nofun nofun;have hoff:∀(k j:Nat),k≠w.heap.size+1→V1.cell? ⟨k,j,none⟩=w1.cell? ⟨k,j,none⟩:=fun k j hk=>by rw[hW];exact cell_off (Ne.symm hk)
 rw[←hW];clear hW;replace hB:=bel w.heap.size w zo (bT hB Bz);replace HX0:=zf far HX0 Bz;replace HX1:=zh x;clear x kk far bel Bz hoff;have Bz:=zr V1;have hF:=bT (c:=V1) hB Bz;exact⟨rfl,hF⟩
theorem Lower_ok {w:World} {inp:Int} {A:Option Addr} {n c:Nat} {L:List Ly} (hs:Hid (Sl Ly.cs 13 w A n c L)) (hl:Hid (∀y∈L,LyOk w 2 y)) (hln:n≤9223372036854775807) (hn:n≤1000000) {l:List Int} (hz:sizesF inp L=.ok l) (hin:Hid (∀y∈L,LwIn w y)) (hT:Hid (Tab w)) :
  Calls Tryz.prog 9 #[.agg #[.int .i64 inp,.slice A n c]] w (OutW w inp n L):=by
 have HZ:Hid (checkF inp L=0):=zh (by unfold checkF;rw[hz]);clear hz;obtain⟨W,hW,x0,x1,hB⟩:=zAh w #[.int .i64 inp,.slice A n c] 24 #[.int .i64 0,.slice none 0 0] 24;have HX0:=zh x0;have HX1:=zh x1;clear x0 x1;have Bz:=zr W;obtain⟨pa0,pa1,-⟩:=(zx HX0 Bz).cz;go_enter Tryz.func9,Tryz.ntmps9
 go_wp2_with fail
 rw[←hW];clear hW;go_wp2_with fail
 with_reducible refine(checkT_q (hs.out.below (bT hB (bT (b:=W) Bz))) (zh fun y h=>(hl.out y h).below (bT hB (bT (b:=W) Bz))) zo hln (zt hT hB Bz)).mono ?_
 rintro e w1 ⟨rfl,q⟩;replace q:=zq (a:=W) q;replace Bz:=bT Bz q;clear q;rw[HZ.out];clear pa0 pa1;have pa1:=(zx HX0 Bz).cell 1 (.slice A n c) rfl;go_wp2_with fail
 have hs2:w.heap.size+2≤w1.heap.size:=zi (zx HX1 Bz).lt;with_reducible refine(copiedL_q (hs.out.below (bT hB (bT (b:=w1) Bz))) (zh fun y h=>(hin.out y h).below (bT hB (bT (b:=w1) Bz))) hn (zt hT hB Bz)).mono ?_
 rintro e w2 ⟨H2,c2,O2,rfl,h2,q⟩;replace q:=zq (a:=w1) q;replace Bz:=bT Bz q;clear q;replace h2:=h2.wide hs2 (aA _) (aA _);clear pa1;have pa0:=(zx HX0 Bz).cell 0 (.int .i64 inp) rfl;obtain⟨pb0,pb1,-⟩:=(zx HX1 Bz).cz;obtain⟨y1,f1_0,fb1,-⟩:=(zx HX1 Bz).fz;go_wp2_with fail
 (try simp only[Exit.inBlock,Exit.then])
 refine bodyPost_ret (by simp[results,Tryz.results9,go_sem,pb0,pb1];try rfl) rfl ?_;obtain⟨V1,hW,x,kk,far,bel⟩:=store2 (.int .i64 inp) (.slice H2 n c2) (zx HX1 Bz) nofun nofun;have hoff:∀(k j:Nat),k≠w.heap.size+1→V1.cell? ⟨k,j,none⟩=w2.cell? ⟨k,j,none⟩:=fun k j hk=>by rw[hW];exact cell_off (Ne.symm hk)
 rw[←hW];clear hW;replace h2:=h2.off hoff kk (bel 0 _ (uA _) (Below.refl 0 _)).size (.inl zo);replace hB:=bel w.heap.size w zo (bT hB Bz);replace HX0:=zf far HX0 Bz;replace HX1:=zh x;clear x kk far bel Bz hoff;have Bz:=zr V1;have hF:=bT (c:=V1) hB Bz;exact⟨H2,c2,O2,rfl,(h2).wide zo (h2).le (aA _),hF⟩
end Go.Proofs.YtiondclbdgijbaaGreatDoor
