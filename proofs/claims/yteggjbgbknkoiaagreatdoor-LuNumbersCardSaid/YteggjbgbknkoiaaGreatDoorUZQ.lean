import Derived.Test.YteggjbgbknkoiaaGreatDoorUZRb
import Derived.Test.YteggjbgbknkoiaaGreatDoorUStores
set_option maxHeartbeats 8000000
set_option maxRecDepth 100000
namespace Go.Proofs.YteggjbgbknkoiaaGreatDoor
open Go.RowKit Tw
section
variable {w:World} {A A':Option Addr} {c c' l l' n:Nat} {b b':Bool} {z z':Int}
theorem make_r (b:Bool) (h:V w A c l n) (hl:l≤100000) :
  Calls Tryz.prog 124 #[.bool b,.slice A l c] w (TellsZ w (sgn b n) (l+1)):=by
 obtain⟨W,hW,x0,hB⟩:=zAe w #[.bool false,.slice none 0 0] 28;have hn:=h.lt;have HV:=zh (h.below hB);have HY:=zh x0;clear h x0;go_enter Tryz.func124,Tryz.ntmps124
 go_wp2_with fail
 rw[←hW];clear hW;refine(small_v HV.out zo).mono ?_;rintro e w1 ⟨A1,c1,l1,rfl,h1,b1⟩;have s1:=h1.small hn;go_wp2_with fail
 refine(large_d h1 zo).mono ?_;rintro e w2 ⟨A2,c2,l2,rfl,h2,m2,b2⟩;replace b2:=bT b1 b2;have y:=HY.out.below b2;have y0:=y.cell 0 (.bool false) rfl;have y1:=y.cell 1 (.slice none 0 0) rfl;have f0:=y.frozen 0;have f1:=y.frozen 1;have yl:=y.lt;have hm:l2≤l+1:=zo;have H2:=zh h2;clear y h1 h2 HV HY hn b1;by_cases h0:l2=0
 ·have q1:((l2:Int)==0)=true:=by simp;omega
  have HZ:Hid (sgn b n=0∧n=0):=by
   have:=H2.out.zero' h0;exact⟨by rw[this];unfold sgn;cases b<;>rfl,this⟩
  have H0:=zh h0;clear h0;go_wp2_with fail
  (try simp only[Exit.inBlock,Exit.then])
  refine bodyPost_ret (by simp[results,Tryz.results124,go_sem,y0,y1];try rfl) rfl ?_;refine⟨false,A2,c2,l2,rfl,⟨C.box (by rw[HZ.out.1];have:=H2.out;rw[HZ.out.2] at this;exact this) y0 y1 nofun,by rw[HZ.out.1];rfl⟩,hm,((bT hB b2).setCell (by simp only[];omega) _).setCell (by simp only[];omega) _⟩
 ·have q1:((l2:Int)==0)=false:=by simp;omega
  have HZ:Hid (b=decide (sgn b n<0)):=by
   have:=H2.out.pos zo;show _=_
   rw[sgn_neg];simp[this]
  clear h0;go_wp2_with fail
  (try simp only[Exit.inBlock,Exit.then])
  refine bodyPost_ret (by simp[results,Tryz.results124,go_sem,y0,y1];try rfl) rfl ?_;refine⟨b,A2,c2,l2,rfl,⟨C.box (by rw[sgn_abs];exact H2.out) y0 y1 nofun,HZ.out⟩,hm,((bT hB b2).setCell (by simp only[];omega) _).setCell (by simp only[];omega) _⟩
theorem norm_r (h:I w b A c l z) (hl:l≤100000) :
  Calls Tryz.prog 118 #[.agg #[.bool b,.slice A l c]] w (TellsZ w (z) (l+1)):=by
 obtain⟨n,h1,rfl⟩:=h;obtain⟨W,hW,x0,x1,hB⟩:=boxes2 w #[.bool b,.slice A l c] 28 #[.bool false,.slice none 0 0] 28;have HV:=zh (h1.below hB);have HY:=zh x1;have p0:=x0.cell 0 (.bool b) rfl;have p1:=x0.cell 1 (.slice A l c) rfl;clear h1 x0 x1;go_enter Tryz.func118,Tryz.ntmps118
 go_wp2_with fail
 rw[←hW];clear hW;refine(make_r (b) HV.out zo).mono ?_;rintro e w1 ⟨s1,A1,c1,l1,rfl,j1,m1,b1⟩;have y:=HY.out.below b1;have y0:=y.cell 0 (.bool false) rfl;have y1:=y.cell 1 (.slice none 0 0) rfl;have f0:=y.frozen 0;have f1:=y.frozen 1;have yl:=y.lt;clear y;go_wp2_with fail
 (try simp only[Exit.inBlock,Exit.then])
 refine bodyPost_ret (by simp[results,Tryz.results118,go_sem,y0,y1];try rfl) rfl ?_;exact⟨s1,A1,c1,l1,rfl,by rw[show sgn b n=sgn (b) n from rfl];exact j1.box y0 y1 nofun,m1,((bT hB b1).setCell (by simp only[];omega) _).setCell (by simp only[];omega) _⟩
theorem neg_r (h:I w b A c l z) (hl:l≤100000) :
  Calls Tryz.prog 120 #[.agg #[.bool b,.slice A l c]] w (TellsZ w (-z) (l+1)):=by
 obtain⟨n,h1,rfl⟩:=h;obtain⟨W,hW,x0,x1,hB⟩:=boxes2 w #[.bool b,.slice A l c] 28 #[.bool false,.slice none 0 0] 28;have HV:=zh (h1.below hB);have HY:=zh x1;have p0:=x0.cell 0 (.bool b) rfl;have p1:=x0.cell 1 (.slice A l c) rfl;clear h1 x0 x1;go_enter Tryz.func120,Tryz.ntmps120
 go_wp2_with fail
 rw[←hW];clear hW;refine(make_r (!b) HV.out zo).mono ?_;rintro e w1 ⟨s1,A1,c1,l1,rfl,j1,m1,b1⟩;have y:=HY.out.below b1;have y0:=y.cell 0 (.bool false) rfl;have y1:=y.cell 1 (.slice none 0 0) rfl;have f0:=y.frozen 0;have f1:=y.frozen 1;have yl:=y.lt;clear y;go_wp2_with fail
 (try simp only[Exit.inBlock,Exit.then])
 refine bodyPost_ret (by simp[results,Tryz.results120,go_sem,y0,y1];try rfl) rfl ?_;exact⟨s1,A1,c1,l1,rfl,by rw[show -sgn b n=sgn (!b) n from by unfold sgn;cases b<;>simp];exact j1.box y0 y1 nofun,m1,((bT hB b1).setCell (by simp only[];omega) _).setCell (by simp only[];omega) _⟩
theorem sign_r (h:I w b A c l z) (hl:l≤100000) (s:Int) (hs:z.sign=s) :
  Calls Tryz.prog 84 #[.agg #[.bool b,.slice A l c]] w fun e w'=>e=.returned (.int .i64 s)∧Below w.heap.size w w':=by
 obtain⟨n,h1,rfl⟩:=h;rw[sgn_sign] at hs;obtain⟨W,hW,x0,hB⟩:=zAe w #[.bool b,.slice A l c] 28;have HV:=zh (h1.below hB);have HX:=zh x0;have p0:=x0.cell 0 (.bool b) rfl;have p1:=x0.cell 1 (.slice A l c) rfl;obtain⟨k,hk⟩:∃k:Nat,nbits n=k:=⟨_,rfl⟩;have HK:Hid ((nbits n:Int)=(k:Int)):=by show(nbits n:Int)=k;rw[hk]
 have hz:k=0↔n=0:=by rw[←hk];unfold nbits;split<;>omega
 clear h1 x0 hk;by_cases h0:n=0
 ·have q1:((k:Int)==0)=true:=by simp;omega
  rw[gA h0] at hs;subst hs;clear hz h0;go_enter Tryz.func84,Tryz.ntmps84
  go_wp2_with fail
  rw[←hW];clear hW;refine(bits_r HV.out zo (k:Int) HK.out).mono ?_;rintro e w1 ⟨rfl,b1⟩;go_wp2_with fail
  go_ret
  exact⟨rfl,bT hB b1⟩
 ·have q1:((k:Int)==0)=false:=by simp;omega
  rw[fA h0] at hs;clear hz h0;cases b
  ·have hs':s=1:=by simpa using hs.symm
   clear hs;subst hs';go_enter Tryz.func84,Tryz.ntmps84
   go_wp2_with fail
   rw[←hW];clear hW;refine(bits_r HV.out zo (k:Int) HK.out).mono ?_;rintro e w1 ⟨rfl,b1⟩;have p0:=(HX.out.below b1).cell 0 (.bool false) rfl;go_wp2_with fail
   go_ret
   exact⟨rfl,bT hB b1⟩
  ·have hs':s = -1:=by simpa using hs.symm
   clear hs;subst hs';go_enter Tryz.func84,Tryz.ntmps84
   go_wp2_with fail
   rw[←hW];clear hW;refine(bits_r HV.out zo (k:Int) HK.out).mono ?_;rintro e w1 ⟨rfl,b1⟩;have p0:=(HX.out.below b1).cell 0 (.bool true) rfl;go_wp2_with fail
   go_ret
   exact⟨rfl,bT hB b1⟩
end
section
variable {w:World} {A A':Option Addr} {c c' l l' n:Nat} {b b':Bool} {z z':Int}
theorem mulq (h:I w b A c l z) (h':I w b' A' c' l' z') (hl:l≤20000) (hl':l'≤20000) :
  Calls Tryz.prog 88 #[.agg #[.bool b,.slice A l c],.agg #[.bool b',.slice A' l' c']] w (TellsZ w (z*z') (l+l'+2)):=by
 obtain⟨n,h1,rfl⟩:=h;obtain⟨n',h2,rfl⟩:=h';have HZ:Hid (sgn (!(b==b')) (n*n')=sgn b n*sgn b' n'):=by show _=_;rw[←sgn_mul];cases b<;>cases b'<;>rfl
 obtain⟨W,hW,x0,x1,x2,hB⟩:=boxes3 w #[.bool b,.slice A l c] 28 #[.bool b',.slice A' l' c'] 28 #[.bool false,.slice none 0 0] 28;replace h1:=h1.below hB;replace h2:=h2.below hB;have HX0:=zh x0;have HX1:=zh x1;have HX2:=zh x2;have Bz:=zr W;clear x0 x1 x2;obtain⟨p00,p01,-⟩:=(zxb HX0 Bz).cz;obtain⟨p10,p11,-⟩:=(zxb HX1 Bz).cz;have y00:=(zxb HX2 Bz).cell 0 (.bool false) rfl;have y01:=(zxb HX2 Bz).cell 1 (.slice none 0 0) rfl;obtain⟨yl0,f00,f01,-⟩:=(zxb HX2 Bz).fz;go_enter Tryz.func88,Tryz.ntmps88
 go_wp2_with fail
 rw[←hW];clear hW;(try simp only[vAa,vBa,vC])
 refine wp_region_sched [(0,false),(1,false),(2,false),(3,false),(4,false),(5,false),(6,false),(7,false),(8,false),(9,true),(10,true),(11,true)] (fun w'=>w'.cell? ⟨w.heap.size,0,none⟩=some (.bool b)∧w'.cell? ⟨w.heap.size,1,none⟩=some (.slice A l c)∧w'.cell? ⟨w.heap.size+1,0,none⟩=some (.bool b')∧w'.cell? ⟨w.heap.size+1,1,none⟩=some (.slice A' l' c')) (by kernel_rfl) (by kernel_rfl) ⟨p00,p01,p10,p11⟩ ?_;refine zAh (o:=⟨some 5,_,_,_,_,_⟩) (v:=?_) rfl rfl (fun w' hS=>?_) ?_;rotate_left
 ·go_simp<;>with_reducible rfl
 try simp only[Act.put,uX,uY,uZ]
 refine zAh (o:=⟨some 6,_,_,_,_,_⟩) (v:=?_) rfl rfl (fun w' hS=>?_) ?_;rotate_left
 ·obtain⟨p00,p01,p10,p11⟩:=hS;go_simp<;>with_reducible rfl
 try simp only[Act.put,uX,uY,uZ]
 refine zAh (o:=⟨some 7,_,_,_,_,_⟩) (v:=?_) rfl rfl (fun w' hS=>?_) ?_;rotate_left
 ·go_simp<;>with_reducible rfl
 try simp only[Act.put,uX,uY,uZ]
 refine zAh (o:=⟨some 8,_,_,_,_,_⟩) (v:=?_) rfl rfl (fun w' hS=>?_) ?_;rotate_left
 ·obtain⟨p00,p01,p10,p11⟩:=hS;go_simp<;>with_reducible rfl
 try simp only[Act.put,uX,uY,uZ]
 refine zAh (o:=⟨some 9,_,_,_,_,_⟩) (v:=?_) rfl rfl (fun w' hS=>?_) ?_;rotate_left
 ·go_simp<;>with_reducible rfl
 try simp only[Act.put,uX,uY,uZ]
 refine zAh (o:=⟨some 10,_,_,_,_,_⟩) (v:=?_) rfl rfl (fun w' hS=>?_) ?_;rotate_left
 ·go_simp<;>with_reducible rfl
 try simp only[Act.put,uX,uY,uZ]
 refine zAh (o:=⟨some 11,_,_,_,_,_⟩) (v:=?_) rfl rfl (fun w' hS=>?_) ?_;rotate_left
 ·obtain⟨p00,p01,p10,p11⟩:=hS;go_simp<;>with_reducible rfl
 try simp only[Act.put,uX,uY,uZ]
 refine zAh (o:=⟨some 12,_,_,_,_,_⟩) (v:=?_) rfl rfl (fun w' hS=>?_) ?_;rotate_left
 ·go_simp<;>with_reducible rfl
 try simp only[Act.put,uX,uY,uZ]
 refine zAh (o:=⟨some 13,_,_,_,_,_⟩) (v:=?_) rfl rfl (fun w' hS=>?_) ?_;rotate_left
 ·obtain⟨p00,p01,p10,p11⟩:=hS;go_simp<;>with_reducible rfl
 try simp only[Act.put,uX,uY,uZ]
 refine wpSched_call (o:=⟨some 14,_,_,_,_,_⟩) rfl rfl (fun K hK=>?_);go_simp
 with_reducible refine(mul_r (by repeat (first | exact h1 | apply V.drew)) (by repeat (first | exact h2 | apply V.drew)) zo zo).mono ?_
 rintro e w1 ⟨A1,c1,l1,rfl,h1,m1,q⟩;replace q:=zq (a:=W) q;replace Bz:=bT Bz q;obtain⟨p00,p01,-⟩:=(zxb HX0 Bz).cz;obtain⟨p10,p11,-⟩:=(zxb HX1 Bz).cz;have y00:=(zxb HX2 Bz).cell 0 (.bool false) rfl;have y01:=(zxb HX2 Bz).cell 1 (.slice none 0 0) rfl;obtain⟨yl0,f00,f01,-⟩:=(zxb HX2 Bz).fz;clear q;refine hK.out _ _ ⟨p00,p01,p10,p11⟩ (fun _=>?_);try simp only[Act.put,uX,uY,uZ]
 clear hK K;refine wpSched_call (o:=⟨some 15,_,_,_,_,_⟩) rfl rfl (fun K hK=>?_);go_simp
 with_reducible refine(make_r (!(b==b')) (by repeat (first | exact h1.v | apply V.drew)) zo).mono ?_
 rintro e w2 ⟨s2,A2,c2,l2,rfl,h2,m2,q⟩;replace q:=zq (a:=w1) q;replace Bz:=bT Bz q;obtain⟨p00,p01,-⟩:=(zxb HX0 Bz).cz;obtain⟨p10,p11,-⟩:=(zxb HX1 Bz).cz;have y00:=(zxb HX2 Bz).cell 0 (.bool false) rfl;have y01:=(zxb HX2 Bz).cell 1 (.slice none 0 0) rfl;obtain⟨yl0,f00,f01,-⟩:=(zxb HX2 Bz).fz;clear q;refine hK.out _ _ ⟨p00,p01,p10,p11⟩ (fun _=>?_);try simp only[Act.put,uX,uY,uZ]
 clear hK K;refine wpSched_call (o:=⟨none,_,_,_,_,_⟩) rfl rfl (fun K hK=>?_);go_simp
 refine hK.out _ _ ⟨(zAf zo).trans p00,(zAf zo).trans p01,(zAf zo).trans p10,(zAf zo).trans p11⟩ (fun _=>?_);try simp only[Act.put,uX,uY,uZ]
 clear hK K;refine wpSched_done ?_;go_wp2_with fail
 (try simp only[Exit.inBlock,Exit.then])
 have q0:w2.cell? ⟨w.heap.size+2,0,none⟩=some (.bool false):=y00;have q1:w2.cell? ⟨w.heap.size+2,1,none⟩=some (.slice none 0 0):=y01;refine bodyPost_ret (by simp[results,Tryz.results88,go_sem,q0,q1];try rfl) rfl ?_;exact⟨s2,A2,c2,l2,rfl,by rw[←HZ.out];exact h2.box y00 y01 nofun,zo,((bT hB Bz).setCell (by simp only[];omega) _).setCell (by simp only[];omega) _⟩
end
section
variable {w:World} {A A':Option Addr} {c c' l l' n:Nat} {b b':Bool} {z z':Int}
theorem addq_same (h:I w b A c l z) (h':I w b' A' c' l' z') (hl:l≤40000) (hl':l'≤40000) (hs:decide (z<0)=decide (z'<0)) :
  Calls Tryz.prog 152 #[.agg #[.bool b,.slice A l c],.agg #[.bool b',.slice A' l' c']] w (TellsZ w (z+z') (max l l'+5)):=by
 obtain⟨W,hW,x0,x1,x2,hB⟩:=boxes3 w #[.bool b,.slice A l c] 28 #[.bool b',.slice A' l' c'] 28 #[.bool false,.slice none 0 0] 28;replace h:=h.below hB;replace h':=h'.below hB;have p0:=x0.cell 0 (.bool b) rfl;have p1:=x0.cell 1 (.slice A l c) rfl;go_enter Tryz.func152,Tryz.ntmps152
 go_wp2_with fail
 rw[←hW];clear hW;with_reducible refine(norm_r h zo).mono ?_
 rintro e w1 ⟨s1,A1,c1,l1,rfl,j1,m1,b1⟩;have y0:=(x0.below b1).cell 0 (.bool b) rfl;have y1:=(x0.below b1).cell 1 (.slice A l c) rfl;have f0:=(x0.below b1).frozen 0;have f1:=(x0.below b1).frozen 1;have q0:=(x1.below b1).cell 0 (.bool b') rfl;have q1:=(x1.below b1).cell 1 (.slice A' l' c') rfl;have yl:=(x0.below b1).lt;have e0:(w1.setCell ⟨w.heap.size,0,none⟩ (.bool s1)).setCell ⟨w.heap.size,1,none⟩ (.slice A1 l1 c1)=(w1.setCell ⟨w.heap.size,0,none⟩ (.bool s1)).setCell ⟨w.heap.size,1,none⟩ (.slice A1 l1 c1):=rfl;obtain⟨W1,hW1,z0,kk,far,bel⟩:=zAk (.bool s1) (.slice A1 l1 c1) (x0.below b1) nofun nofun;have z1:=far _ _ _ zo (x1.below b1);have z2:=far _ _ _ zo (x2.below b1);have hB1:=bel _ _ (cA _) (bT hB b1);have HI:=zh ((h'.below b1).k kk);have HJ1:=zh (j1.k kk);clear e0 far bel kk j1 h h' x0 x1 x2 hB b1 p0 p1;go_wp2_with fail
 rw[←hW1];clear hW1 y0 y1 f0 f1 q0 q1 yl;with_reducible refine(norm_r HI.out zo).mono ?_
 rintro e w2 ⟨s2,A2,c2,l2,rfl,j2,m2,b2⟩;have y0:=(z1.below b2).cell 0 (.bool b') rfl;have y1:=(z1.below b2).cell 1 (.slice A' l' c') rfl;have f0:=(z1.below b2).frozen 0;have f1:=(z1.below b2).frozen 1;have yl:=(z1.below b2).lt;obtain⟨W2,hW2,t1,kk,far,bel⟩:=zAk (.bool s2) (.slice A2 l2 c2) (z1.below b2) nofun nofun;have t0:=far _ _ _ zo (z0.below b2);have t2:=far _ _ _ zo (z2.below b2);have hB2:=bel _ _ zo (bT hB1 b2);have HJ:=zh ((HJ1.out.below b2).k kk);have HJ':=zh (j2.k kk);have HX0:=zh t0;have HX1:=zh t1;have HX2:=zh t2;obtain⟨a0,a1,d0,d1⟩:(w2.setCell ⟨w.heap.size+1,0,none⟩ (.bool s2) |>.setCell ⟨w.heap.size+1,1,none⟩ (.slice A2 l2 c2)).cell? ⟨w.heap.size,0,none⟩=some (.bool s1)∧(w2.setCell ⟨w.heap.size+1,0,none⟩ (.bool s2) |>.setCell ⟨w.heap.size+1,1,none⟩ (.slice A2 l2 c2)).cell? ⟨w.heap.size,1,none⟩=some (.slice A1 l1 c1)∧(w2.setCell ⟨w.heap.size+1,0,none⟩ (.bool s2) |>.setCell ⟨w.heap.size+1,1,none⟩ (.slice A2 l2 c2)).cell? ⟨w.heap.size+1,0,none⟩=some (.bool s2)∧(w2.setCell ⟨w.heap.size+1,0,none⟩ (.bool s2) |>.setCell ⟨w.heap.size+1,1,none⟩ (.slice A2 l2 c2)).cell? ⟨w.heap.size+1,1,none⟩=some (.slice A2 l2 c2):=by
  rw[←hW2];exact⟨t0.cell 0 _ rfl,t0.cell 1 _ rfl,t1.cell 0 _ rfl,t1.cell 1 _ rfl⟩
 have r0:=(z0.below b2).cell 0 (.bool s1) rfl;have r1:=(z0.below b2).cell 1 (.slice A1 l1 c1) rfl;clear far bel kk j2 z0 z1 z2 t0 t1 t2 hB1 b2 HJ1 HI;have g1:(s1==s2)=true:=by rw[HJ.out.2,HJ'.out.2,hs];simp
 have HZ:Hid (sgn s1 (z.natAbs+z'.natAbs)=z+z'):=by
  show _=_
  rw[HJ.out.2];unfold sgn
  by_cases hz:z<0
  ·have:z'<0:=by rw[fC hz] at hs;exact of_decide_eq_true hs.symm
   rw[gA (by simpa using hz)];omega
  ·have:¬z'<0:=by rw[jB hz] at hs;exact of_decide_eq_false hs.symm
   rw[fA (by simpa using hz)];omega
 clear hs;go_wp2_with fail
 rw[←hW2];clear hW2 a0 a1 d0 d1 y0 y1 f0 f1 yl r0 r1;have ja:=HJ.out;have jb:=HJ'.out;have Bz:=zr W2;obtain⟨p00,p01,-⟩:=(zxb HX0 Bz).cz;obtain⟨p10,p11,-⟩:=(zxb HX1 Bz).cz;have y00:=(zxb HX2 Bz).cell 0 (.bool false) rfl;have y01:=(zxb HX2 Bz).cell 1 (.slice none 0 0) rfl;obtain⟨yl0,f00,f01,-⟩:=(zxb HX2 Bz).fz;(try simp only[vAa,vBa,vC])
 refine wp_region_sched [(0,false),(1,false),(2,false),(3,false),(4,false),(5,false),(6,true),(7,true),(8,true)] (fun w'=>w'.cell? ⟨w.heap.size,0,none⟩=some (.bool s1)∧w'.cell? ⟨w.heap.size,1,none⟩=some (.slice A1 l1 c1)∧w'.cell? ⟨w.heap.size+1,0,none⟩=some (.bool s2)∧w'.cell? ⟨w.heap.size+1,1,none⟩=some (.slice A2 l2 c2)) (by kernel_rfl) (by kernel_rfl) ⟨p00,p01,p10,p11⟩ ?_;refine zAh (o:=⟨some 14,_,_,_,_,_⟩) (v:=?_) rfl rfl (fun w' hS=>?_) ?_;rotate_left
 ·go_simp<;>with_reducible rfl
 try simp only[Act.put,uX,uY,uZ]
 refine zAh (o:=⟨some 15,_,_,_,_,_⟩) (v:=?_) rfl rfl (fun w' hS=>?_) ?_;rotate_left
 ·obtain⟨p00,p01,p10,p11⟩:=hS;go_simp<;>with_reducible rfl
 try simp only[Act.put,uX,uY,uZ]
 refine zAh (o:=⟨some 16,_,_,_,_,_⟩) (v:=?_) rfl rfl (fun w' hS=>?_) ?_;rotate_left
 ·go_simp<;>with_reducible rfl
 try simp only[Act.put,uX,uY,uZ]
 refine zAh (o:=⟨some 17,_,_,_,_,_⟩) (v:=?_) rfl rfl (fun w' hS=>?_) ?_;rotate_left
 ·obtain⟨p00,p01,p10,p11⟩:=hS;go_simp<;>with_reducible rfl
 try simp only[Act.put,uX,uY,uZ]
 refine zAh (o:=⟨some 18,_,_,_,_,_⟩) (v:=?_) rfl rfl (fun w' hS=>?_) ?_;rotate_left
 ·go_simp<;>with_reducible rfl
 try simp only[Act.put,uX,uY,uZ]
 refine zAh (o:=⟨some 19,_,_,_,_,_⟩) (v:=?_) rfl rfl (fun w' hS=>?_) ?_;rotate_left
 ·obtain⟨p00,p01,p10,p11⟩:=hS;go_simp<;>with_reducible rfl
 try simp only[Act.put,uX,uY,uZ]
 refine wpSched_call (o:=⟨some 20,_,_,_,_,_⟩) rfl rfl (fun K hK=>?_);go_simp
 with_reducible refine(add_r (by repeat (first | exact ja.vv | apply V.drew)) (by repeat (first | exact jb.vv | apply V.drew)) zo zo).mono ?_
 rintro e w5 ⟨A5,c5,l5,rfl,h5,m5,q⟩;replace q:=zq (a:=W2) q;replace Bz:=bT Bz q;obtain⟨p00,p01,-⟩:=(zxb HX0 Bz).cz;obtain⟨p10,p11,-⟩:=(zxb HX1 Bz).cz;have y00:=(zxb HX2 Bz).cell 0 (.bool false) rfl;have y01:=(zxb HX2 Bz).cell 1 (.slice none 0 0) rfl;obtain⟨yl0,f00,f01,-⟩:=(zxb HX2 Bz).fz;clear q;refine hK.out _ _ ⟨p00,p01,p10,p11⟩ (fun _=>?_);try simp only[Act.put,uX,uY,uZ]
 clear hK K;refine wpSched_call (o:=⟨some 21,_,_,_,_,_⟩) rfl rfl (fun K hK=>?_);go_simp
 with_reducible refine(make_r s1 (by repeat (first | exact h5.v | apply V.drew)) zo).mono ?_
 rintro e w6 ⟨s6,A6,c6,l6,rfl,h6,m6,q⟩;replace q:=zq (a:=w5) q;replace Bz:=bT Bz q;obtain⟨p00,p01,-⟩:=(zxb HX0 Bz).cz;obtain⟨p10,p11,-⟩:=(zxb HX1 Bz).cz;have y00:=(zxb HX2 Bz).cell 0 (.bool false) rfl;have y01:=(zxb HX2 Bz).cell 1 (.slice none 0 0) rfl;obtain⟨yl0,f00,f01,-⟩:=(zxb HX2 Bz).fz;clear q;refine hK.out _ _ ⟨p00,p01,p10,p11⟩ (fun _=>?_);try simp only[Act.put,uX,uY,uZ]
 clear hK K;refine wpSched_call (o:=⟨none,_,_,_,_,_⟩) rfl rfl (fun K hK=>?_);go_simp
 refine hK.out _ _ ⟨(zAf zo).trans p00,(zAf zo).trans p01,(zAf zo).trans p10,(zAf zo).trans p11⟩ (fun _=>?_);try simp only[Act.put,uX,uY,uZ]
 clear hK K;refine wpSched_done ?_;go_wp2_with fail
 (try simp only[Exit.inBlock,Exit.then])
 have q0:w6.cell? ⟨w.heap.size+2,0,none⟩=some (.bool false):=y00;have q1:w6.cell? ⟨w.heap.size+2,1,none⟩=some (.slice none 0 0):=y01;refine bodyPost_ret (by simp[results,Tryz.results152,go_sem,q0,q1];try rfl) rfl ?_;exact⟨s6,A6,c6,l6,rfl,by rw[←HZ.out];exact h6.box y00 y01 nofun,zo,((hB2.trans (Bz.mono hB2.size)).setCell (by simp only[];omega) _).setCell (by simp only[];omega) _⟩
theorem addq_keep (h:I w b A c l z) (h':I w b' A' c' l' z') (hl:l≤40000) (hl':l'≤40000) (hs:decide (z<0)≠decide (z'<0)) (hn:z'.natAbs≤z.natAbs) :
  Calls Tryz.prog 152 #[.agg #[.bool b,.slice A l c],.agg #[.bool b',.slice A' l' c']] w (TellsZ w (z+z') (max l l'+5)):=by
 obtain⟨W,hW,x0,x1,x2,hB⟩:=boxes3 w #[.bool b,.slice A l c] 28 #[.bool b',.slice A' l' c'] 28 #[.bool false,.slice none 0 0] 28;replace h:=h.below hB;replace h':=h'.below hB;have p0:=x0.cell 0 (.bool b) rfl;have p1:=x0.cell 1 (.slice A l c) rfl;go_enter Tryz.func152,Tryz.ntmps152
 go_wp2_with fail
 rw[←hW];clear hW;with_reducible refine(norm_r h zo).mono ?_
 rintro e w1 ⟨s1,A1,c1,l1,rfl,j1,m1,b1⟩;have y0:=(x0.below b1).cell 0 (.bool b) rfl;have y1:=(x0.below b1).cell 1 (.slice A l c) rfl;have f0:=(x0.below b1).frozen 0;have f1:=(x0.below b1).frozen 1;have q0:=(x1.below b1).cell 0 (.bool b') rfl;have q1:=(x1.below b1).cell 1 (.slice A' l' c') rfl;have yl:=(x0.below b1).lt;have e0:(w1.setCell ⟨w.heap.size,0,none⟩ (.bool s1)).setCell ⟨w.heap.size,1,none⟩ (.slice A1 l1 c1)=(w1.setCell ⟨w.heap.size,0,none⟩ (.bool s1)).setCell ⟨w.heap.size,1,none⟩ (.slice A1 l1 c1):=rfl;obtain⟨W1,hW1,z0,kk,far,bel⟩:=zAk (.bool s1) (.slice A1 l1 c1) (x0.below b1) nofun nofun;have z1:=far _ _ _ zo (x1.below b1);have z2:=far _ _ _ zo (x2.below b1);have hB1:=bel _ _ (cA _) (bT hB b1);have HI:=zh ((h'.below b1).k kk);have HJ1:=zh (j1.k kk);clear e0 far bel kk j1 h h' x0 x1 x2 hB b1 p0 p1;go_wp2_with fail
 rw[←hW1];clear hW1 y0 y1 f0 f1 q0 q1 yl;with_reducible refine(norm_r HI.out zo).mono ?_
 rintro e w2 ⟨s2,A2,c2,l2,rfl,j2,m2,b2⟩;have y0:=(z1.below b2).cell 0 (.bool b') rfl;have y1:=(z1.below b2).cell 1 (.slice A' l' c') rfl;have f0:=(z1.below b2).frozen 0;have f1:=(z1.below b2).frozen 1;have yl:=(z1.below b2).lt;obtain⟨W2,hW2,t1,kk,far,bel⟩:=zAk (.bool s2) (.slice A2 l2 c2) (z1.below b2) nofun nofun;have t0:=far _ _ _ zo (z0.below b2);have t2:=far _ _ _ zo (z2.below b2);have hB2:=bel _ _ zo (bT hB1 b2);have HJ:=zh ((HJ1.out.below b2).k kk);have HJ':=zh (j2.k kk);have HX0:=zh t0;have HX1:=zh t1;have HX2:=zh t2;obtain⟨a0,a1,d0,d1⟩:(w2.setCell ⟨w.heap.size+1,0,none⟩ (.bool s2) |>.setCell ⟨w.heap.size+1,1,none⟩ (.slice A2 l2 c2)).cell? ⟨w.heap.size,0,none⟩=some (.bool s1)∧(w2.setCell ⟨w.heap.size+1,0,none⟩ (.bool s2) |>.setCell ⟨w.heap.size+1,1,none⟩ (.slice A2 l2 c2)).cell? ⟨w.heap.size,1,none⟩=some (.slice A1 l1 c1)∧(w2.setCell ⟨w.heap.size+1,0,none⟩ (.bool s2) |>.setCell ⟨w.heap.size+1,1,none⟩ (.slice A2 l2 c2)).cell? ⟨w.heap.size+1,0,none⟩=some (.bool s2)∧(w2.setCell ⟨w.heap.size+1,0,none⟩ (.bool s2) |>.setCell ⟨w.heap.size+1,1,none⟩ (.slice A2 l2 c2)).cell? ⟨w.heap.size+1,1,none⟩=some (.slice A2 l2 c2):=by
  rw[←hW2];exact⟨t0.cell 0 _ rfl,t0.cell 1 _ rfl,t1.cell 0 _ rfl,t1.cell 1 _ rfl⟩
 have r0:=(z0.below b2).cell 0 (.bool s1) rfl;have r1:=(z0.below b2).cell 1 (.slice A1 l1 c1) rfl;clear far bel kk j2 z0 z1 z2 t0 t1 t2 hB1 b2 HJ1 HI;have g1:(s1==s2)=false:=by rw[HJ.out.2,HJ'.out.2];simpa using hs
 obtain⟨k,HK⟩:∃k,Hid (cmpI (z.natAbs:Int) (z'.natAbs:Int)=k):=⟨_,zh rfl⟩;have g2:decide (0≤k)=true:=by
  have:0≤k:=by rw[←HK.out];unfold cmpI;rw[fA zo];split<;>omega
  simpa using this
 have HZ:Hid (sgn s1 (z.natAbs-z'.natAbs)=z+z'):=by
  show _=_
  rw[HJ.out.2];unfold sgn
  by_cases hz:z<0
  ·have:¬z'<0:=fun h=>hs (by rw[fC hz,fC h]);rw[gA (by simpa using hz)];omega
  ·have:z'<0:=by
    rcases Int.lt_or_le z' 0 with h | h
    ·exact h
    ·exact absurd (by rw[jB hz,jB zo]) hs
   rw[fA (by simpa using hz)];omega
 clear hs hn;go_wp2_with fail
 rw[←hW2];clear hW2 a0 a1 d0 d1 y0 y1 f0 f1 yl r0 r1;have ja:=HJ.out;have jb:=HJ'.out;have Bz:=zr W2;obtain⟨p00,p01,-⟩:=(zxb HX0 Bz).cz;obtain⟨p10,p11,-⟩:=(zxb HX1 Bz).cz;have y00:=(zxb HX2 Bz).cell 0 (.bool false) rfl;have y01:=(zxb HX2 Bz).cell 1 (.slice none 0 0) rfl;obtain⟨yl0,f00,f01,-⟩:=(zxb HX2 Bz).fz;with_reducible refine(cmp_r (by repeat (first | exact ja.vv | apply V.drew)) (by repeat (first | exact jb.vv | apply V.drew)) zo zo k HK.out).mono ?_
 rintro e w5 ⟨rfl,q⟩;replace q:=zq (a:=W2) q;replace ja:=ja.below q;replace jb:=jb.below q;replace Bz:=bT Bz q;obtain⟨p00,p01,-⟩:=(zxb HX0 Bz).cz;obtain⟨p10,p11,-⟩:=(zxb HX1 Bz).cz;have y00:=(zxb HX2 Bz).cell 0 (.bool false) rfl;have y01:=(zxb HX2 Bz).cell 1 (.slice none 0 0) rfl;obtain⟨yl0,f00,f01,-⟩:=(zxb HX2 Bz).fz;clear q;go_wp2_with fail
 (try simp only[vAa,vBa,vC])
 refine wp_region_sched [(0,false),(1,false),(2,false),(3,false),(4,false),(5,false),(6,true),(7,true),(8,true)] (fun w'=>w'.cell? ⟨w.heap.size,0,none⟩=some (.bool s1)∧w'.cell? ⟨w.heap.size,1,none⟩=some (.slice A1 l1 c1)∧w'.cell? ⟨w.heap.size+1,0,none⟩=some (.bool s2)∧w'.cell? ⟨w.heap.size+1,1,none⟩=some (.slice A2 l2 c2)) (by kernel_rfl) (by kernel_rfl) ⟨p00,p01,p10,p11⟩ ?_;refine zAh (o:=⟨some 28,_,_,_,_,_⟩) (v:=?_) rfl rfl (fun w' hS=>?_) ?_;rotate_left
 ·go_simp<;>with_reducible rfl
 try simp only[Act.put,uX,uY,uZ]
 refine zAh (o:=⟨some 29,_,_,_,_,_⟩) (v:=?_) rfl rfl (fun w' hS=>?_) ?_;rotate_left
 ·obtain⟨p00,p01,p10,p11⟩:=hS;go_simp<;>with_reducible rfl
 try simp only[Act.put,uX,uY,uZ]
 refine zAh (o:=⟨some 30,_,_,_,_,_⟩) (v:=?_) rfl rfl (fun w' hS=>?_) ?_;rotate_left
 ·go_simp<;>with_reducible rfl
 try simp only[Act.put,uX,uY,uZ]
 refine zAh (o:=⟨some 31,_,_,_,_,_⟩) (v:=?_) rfl rfl (fun w' hS=>?_) ?_;rotate_left
 ·obtain⟨p00,p01,p10,p11⟩:=hS;go_simp<;>with_reducible rfl
 try simp only[Act.put,uX,uY,uZ]
 refine zAh (o:=⟨some 32,_,_,_,_,_⟩) (v:=?_) rfl rfl (fun w' hS=>?_) ?_;rotate_left
 ·go_simp<;>with_reducible rfl
 try simp only[Act.put,uX,uY,uZ]
 refine zAh (o:=⟨some 33,_,_,_,_,_⟩) (v:=?_) rfl rfl (fun w' hS=>?_) ?_;rotate_left
 ·obtain⟨p00,p01,p10,p11⟩:=hS;go_simp<;>with_reducible rfl
 try simp only[Act.put,uX,uY,uZ]
 refine wpSched_call (o:=⟨some 34,_,_,_,_,_⟩) rfl rfl (fun K hK=>?_);go_simp
 with_reducible refine(sub_r (by repeat (first | exact ja.vv | apply V.drew)) (by repeat (first | exact jb.vv | apply V.drew)) zo zo).mono ?_
 rintro e w6 ⟨A6,c6,l6,rfl,h6,m6,q⟩;replace q:=zq (a:=w5) q;replace Bz:=bT Bz q;obtain⟨p00,p01,-⟩:=(zxb HX0 Bz).cz;obtain⟨p10,p11,-⟩:=(zxb HX1 Bz).cz;have y00:=(zxb HX2 Bz).cell 0 (.bool false) rfl;have y01:=(zxb HX2 Bz).cell 1 (.slice none 0 0) rfl;obtain⟨yl0,f00,f01,-⟩:=(zxb HX2 Bz).fz;clear q;refine hK.out _ _ ⟨p00,p01,p10,p11⟩ (fun _=>?_);try simp only[Act.put,uX,uY,uZ]
 clear hK K;refine wpSched_call (o:=⟨some 35,_,_,_,_,_⟩) rfl rfl (fun K hK=>?_);go_simp
 with_reducible refine(make_r s1 (by repeat (first | exact h6.v | apply V.drew)) zo).mono ?_
 rintro e w7 ⟨s7,A7,c7,l7,rfl,h7,m7,q⟩;replace q:=zq (a:=w6) q;replace Bz:=bT Bz q;obtain⟨p00,p01,-⟩:=(zxb HX0 Bz).cz;obtain⟨p10,p11,-⟩:=(zxb HX1 Bz).cz;have y00:=(zxb HX2 Bz).cell 0 (.bool false) rfl;have y01:=(zxb HX2 Bz).cell 1 (.slice none 0 0) rfl;obtain⟨yl0,f00,f01,-⟩:=(zxb HX2 Bz).fz;clear q;refine hK.out _ _ ⟨p00,p01,p10,p11⟩ (fun _=>?_);try simp only[Act.put,uX,uY,uZ]
 clear hK K;refine wpSched_call (o:=⟨none,_,_,_,_,_⟩) rfl rfl (fun K hK=>?_);go_simp
 refine hK.out _ _ ⟨(zAf zo).trans p00,(zAf zo).trans p01,(zAf zo).trans p10,(zAf zo).trans p11⟩ (fun _=>?_);try simp only[Act.put,uX,uY,uZ]
 clear hK K;refine wpSched_done ?_;go_wp2_with fail
 (try simp only[Exit.inBlock,Exit.then])
 have q0:w7.cell? ⟨w.heap.size+2,0,none⟩=some (.bool false):=y00;have q1:w7.cell? ⟨w.heap.size+2,1,none⟩=some (.slice none 0 0):=y01;refine bodyPost_ret (by simp[results,Tryz.results152,go_sem,q0,q1];try rfl) rfl ?_;exact⟨s7,A7,c7,l7,rfl,by rw[←HZ.out];exact h7.box y00 y01 nofun,zo,((hB2.trans (Bz.mono hB2.size)).setCell (by simp only[];omega) _).setCell (by simp only[];omega) _⟩
theorem addq_swap (h:I w b A c l z) (h':I w b' A' c' l' z') (hl:l≤40000) (hl':l'≤40000) (hs:decide (z<0)≠decide (z'<0)) (hn:¬z'.natAbs≤z.natAbs) :
  Calls Tryz.prog 152 #[.agg #[.bool b,.slice A l c],.agg #[.bool b',.slice A' l' c']] w (TellsZ w (z+z') (max l l'+5)):=by
 obtain⟨W,hW,x0,x1,x2,hB⟩:=boxes3 w #[.bool b,.slice A l c] 28 #[.bool b',.slice A' l' c'] 28 #[.bool false,.slice none 0 0] 28;replace h:=h.below hB;replace h':=h'.below hB;have p0:=x0.cell 0 (.bool b) rfl;have p1:=x0.cell 1 (.slice A l c) rfl;go_enter Tryz.func152,Tryz.ntmps152
 go_wp2_with fail
 rw[←hW];clear hW;with_reducible refine(norm_r h zo).mono ?_
 rintro e w1 ⟨s1,A1,c1,l1,rfl,j1,m1,b1⟩;have y0:=(x0.below b1).cell 0 (.bool b) rfl;have y1:=(x0.below b1).cell 1 (.slice A l c) rfl;have f0:=(x0.below b1).frozen 0;have f1:=(x0.below b1).frozen 1;have q0:=(x1.below b1).cell 0 (.bool b') rfl;have q1:=(x1.below b1).cell 1 (.slice A' l' c') rfl;have yl:=(x0.below b1).lt;have e0:(w1.setCell ⟨w.heap.size,0,none⟩ (.bool s1)).setCell ⟨w.heap.size,1,none⟩ (.slice A1 l1 c1)=(w1.setCell ⟨w.heap.size,0,none⟩ (.bool s1)).setCell ⟨w.heap.size,1,none⟩ (.slice A1 l1 c1):=rfl;obtain⟨W1,hW1,z0,kk,far,bel⟩:=zAk (.bool s1) (.slice A1 l1 c1) (x0.below b1) nofun nofun;have z1:=far _ _ _ zo (x1.below b1);have z2:=far _ _ _ zo (x2.below b1);have hB1:=bel _ _ (cA _) (bT hB b1);have HI:=zh ((h'.below b1).k kk);have HJ1:=zh (j1.k kk);clear e0 far bel kk j1 h h' x0 x1 x2 hB b1 p0 p1;go_wp2_with fail
 rw[←hW1];clear hW1 y0 y1 f0 f1 q0 q1 yl;with_reducible refine(norm_r HI.out zo).mono ?_
 rintro e w2 ⟨s2,A2,c2,l2,rfl,j2,m2,b2⟩;have y0:=(z1.below b2).cell 0 (.bool b') rfl;have y1:=(z1.below b2).cell 1 (.slice A' l' c') rfl;have f0:=(z1.below b2).frozen 0;have f1:=(z1.below b2).frozen 1;have yl:=(z1.below b2).lt;obtain⟨W2,hW2,t1,kk,far,bel⟩:=zAk (.bool s2) (.slice A2 l2 c2) (z1.below b2) nofun nofun;have t0:=far _ _ _ zo (z0.below b2);have t2:=far _ _ _ zo (z2.below b2);have hB2:=bel _ _ zo (bT hB1 b2);have HJ:=zh ((HJ1.out.below b2).k kk);have HJ':=zh (j2.k kk);have HX0:=zh t0;have HX1:=zh t1;have HX2:=zh t2;obtain⟨a0,a1,d0,d1⟩:(w2.setCell ⟨w.heap.size+1,0,none⟩ (.bool s2) |>.setCell ⟨w.heap.size+1,1,none⟩ (.slice A2 l2 c2)).cell? ⟨w.heap.size,0,none⟩=some (.bool s1)∧(w2.setCell ⟨w.heap.size+1,0,none⟩ (.bool s2) |>.setCell ⟨w.heap.size+1,1,none⟩ (.slice A2 l2 c2)).cell? ⟨w.heap.size,1,none⟩=some (.slice A1 l1 c1)∧(w2.setCell ⟨w.heap.size+1,0,none⟩ (.bool s2) |>.setCell ⟨w.heap.size+1,1,none⟩ (.slice A2 l2 c2)).cell? ⟨w.heap.size+1,0,none⟩=some (.bool s2)∧(w2.setCell ⟨w.heap.size+1,0,none⟩ (.bool s2) |>.setCell ⟨w.heap.size+1,1,none⟩ (.slice A2 l2 c2)).cell? ⟨w.heap.size+1,1,none⟩=some (.slice A2 l2 c2):=by
  rw[←hW2];exact⟨t0.cell 0 _ rfl,t0.cell 1 _ rfl,t1.cell 0 _ rfl,t1.cell 1 _ rfl⟩
 have r0:=(z0.below b2).cell 0 (.bool s1) rfl;have r1:=(z0.below b2).cell 1 (.slice A1 l1 c1) rfl;clear far bel kk j2 z0 z1 z2 t0 t1 t2 hB1 b2 HJ1 HI;have g1:(s1==s2)=false:=by rw[HJ.out.2,HJ'.out.2];simpa using hs
 obtain⟨k,HK⟩:∃k,Hid (cmpI (z.natAbs:Int) (z'.natAbs:Int)=k):=⟨_,zh rfl⟩;have g2:decide (0≤k)=false:=by
  rw[←HK.out,cmpI_nat_lt zo];rfl
 have HZ:Hid (sgn s2 (z'.natAbs-z.natAbs)=z+z'):=by
  show _=_
  rw[HJ'.out.2];unfold sgn
  by_cases hz:z<0
  ·have:¬z'<0:=fun h=>hs (by rw[fC hz,fC h]);rw[fA (by simpa using this)];omega
  ·have:z'<0:=by
    rcases Int.lt_or_le z' 0 with h | h
    ·exact h
    ·exact absurd (by rw[jB hz,jB zo]) hs
   rw[gA (by simpa using this)];omega
 clear hs hn;go_wp2_with fail
 rw[←hW2];clear hW2 a0 a1 d0 d1 y0 y1 f0 f1 yl r0 r1;have ja:=HJ.out;have jb:=HJ'.out;have Bz:=zr W2;obtain⟨p00,p01,-⟩:=(zxb HX0 Bz).cz;obtain⟨p10,p11,-⟩:=(zxb HX1 Bz).cz;have y00:=(zxb HX2 Bz).cell 0 (.bool false) rfl;have y01:=(zxb HX2 Bz).cell 1 (.slice none 0 0) rfl;obtain⟨yl0,f00,f01,-⟩:=(zxb HX2 Bz).fz;with_reducible refine(cmp_r (by repeat (first | exact ja.vv | apply V.drew)) (by repeat (first | exact jb.vv | apply V.drew)) zo zo k HK.out).mono ?_
 rintro e w5 ⟨rfl,q⟩;replace q:=zq (a:=W2) q;replace ja:=ja.below q;replace jb:=jb.below q;replace Bz:=bT Bz q;obtain⟨p00,p01,-⟩:=(zxb HX0 Bz).cz;obtain⟨p10,p11,-⟩:=(zxb HX1 Bz).cz;have y00:=(zxb HX2 Bz).cell 0 (.bool false) rfl;have y01:=(zxb HX2 Bz).cell 1 (.slice none 0 0) rfl;obtain⟨yl0,f00,f01,-⟩:=(zxb HX2 Bz).fz;clear q;go_wp2_with fail
 (try simp only[vAa,vBa,vC])
 refine wp_region_sched [(0,false),(1,false),(2,false),(3,false),(4,false),(5,false),(6,true),(7,true),(8,true)] (fun w'=>w'.cell? ⟨w.heap.size,0,none⟩=some (.bool s1)∧w'.cell? ⟨w.heap.size,1,none⟩=some (.slice A1 l1 c1)∧w'.cell? ⟨w.heap.size+1,0,none⟩=some (.bool s2)∧w'.cell? ⟨w.heap.size+1,1,none⟩=some (.slice A2 l2 c2)) (by kernel_rfl) (by kernel_rfl) ⟨p00,p01,p10,p11⟩ ?_;refine zAh (o:=⟨some 36,_,_,_,_,_⟩) (v:=?_) rfl rfl (fun w' hS=>?_) ?_;rotate_left
 ·go_simp<;>with_reducible rfl
 try simp only[Act.put,uX,uY,uZ]
 refine zAh (o:=⟨some 37,_,_,_,_,_⟩) (v:=?_) rfl rfl (fun w' hS=>?_) ?_;rotate_left
 ·obtain⟨p00,p01,p10,p11⟩:=hS;go_simp<;>with_reducible rfl
 try simp only[Act.put,uX,uY,uZ]
 refine zAh (o:=⟨some 38,_,_,_,_,_⟩) (v:=?_) rfl rfl (fun w' hS=>?_) ?_;rotate_left
 ·go_simp<;>with_reducible rfl
 try simp only[Act.put,uX,uY,uZ]
 refine zAh (o:=⟨some 39,_,_,_,_,_⟩) (v:=?_) rfl rfl (fun w' hS=>?_) ?_;rotate_left
 ·obtain⟨p00,p01,p10,p11⟩:=hS;go_simp<;>with_reducible rfl
 try simp only[Act.put,uX,uY,uZ]
 refine zAh (o:=⟨some 40,_,_,_,_,_⟩) (v:=?_) rfl rfl (fun w' hS=>?_) ?_;rotate_left
 ·go_simp<;>with_reducible rfl
 try simp only[Act.put,uX,uY,uZ]
 refine zAh (o:=⟨some 41,_,_,_,_,_⟩) (v:=?_) rfl rfl (fun w' hS=>?_) ?_;rotate_left
 ·obtain⟨p00,p01,p10,p11⟩:=hS;go_simp<;>with_reducible rfl
 try simp only[Act.put,uX,uY,uZ]
 refine wpSched_call (o:=⟨some 42,_,_,_,_,_⟩) rfl rfl (fun K hK=>?_);go_simp
 with_reducible refine(sub_r (by repeat (first | exact jb.vv | apply V.drew)) (by repeat (first | exact ja.vv | apply V.drew)) zo zo).mono ?_
 rintro e w6 ⟨A6,c6,l6,rfl,h6,m6,q⟩;replace q:=zq (a:=w5) q;replace Bz:=bT Bz q;obtain⟨p00,p01,-⟩:=(zxb HX0 Bz).cz;obtain⟨p10,p11,-⟩:=(zxb HX1 Bz).cz;have y00:=(zxb HX2 Bz).cell 0 (.bool false) rfl;have y01:=(zxb HX2 Bz).cell 1 (.slice none 0 0) rfl;obtain⟨yl0,f00,f01,-⟩:=(zxb HX2 Bz).fz;clear q;refine hK.out _ _ ⟨p00,p01,p10,p11⟩ (fun _=>?_);try simp only[Act.put,uX,uY,uZ]
 clear hK K;refine wpSched_call (o:=⟨some 43,_,_,_,_,_⟩) rfl rfl (fun K hK=>?_);go_simp
 with_reducible refine(make_r s2 (by repeat (first | exact h6.v | apply V.drew)) zo).mono ?_
 rintro e w7 ⟨s7,A7,c7,l7,rfl,h7,m7,q⟩;replace q:=zq (a:=w6) q;replace Bz:=bT Bz q;obtain⟨p00,p01,-⟩:=(zxb HX0 Bz).cz;obtain⟨p10,p11,-⟩:=(zxb HX1 Bz).cz;have y00:=(zxb HX2 Bz).cell 0 (.bool false) rfl;have y01:=(zxb HX2 Bz).cell 1 (.slice none 0 0) rfl;obtain⟨yl0,f00,f01,-⟩:=(zxb HX2 Bz).fz;clear q;refine hK.out _ _ ⟨p00,p01,p10,p11⟩ (fun _=>?_);try simp only[Act.put,uX,uY,uZ]
 clear hK K;refine wpSched_call (o:=⟨none,_,_,_,_,_⟩) rfl rfl (fun K hK=>?_);go_simp
 refine hK.out _ _ ⟨(zAf zo).trans p00,(zAf zo).trans p01,(zAf zo).trans p10,(zAf zo).trans p11⟩ (fun _=>?_);try simp only[Act.put,uX,uY,uZ]
 clear hK K;refine wpSched_done ?_;go_wp2_with fail
 (try simp only[Exit.inBlock,Exit.then])
 have q0:w7.cell? ⟨w.heap.size+2,0,none⟩=some (.bool false):=y00;have q1:w7.cell? ⟨w.heap.size+2,1,none⟩=some (.slice none 0 0):=y01;refine bodyPost_ret (by simp[results,Tryz.results152,go_sem,q0,q1];try rfl) rfl ?_;exact⟨s7,A7,c7,l7,rfl,by rw[←HZ.out];exact h7.box y00 y01 nofun,zo,((hB2.trans (Bz.mono hB2.size)).setCell (by simp only[];omega) _).setCell (by simp only[];omega) _⟩
theorem addq (h:I w b A c l z) (h':I w b' A' c' l' z') (hl:l≤40000) (hl':l'≤40000) :
  Calls Tryz.prog 152 #[.agg #[.bool b,.slice A l c],.agg #[.bool b',.slice A' l' c']] w (TellsZ w (z+z') (max l l'+5)):=by
 by_cases hs:decide (z<0)=decide (z'<0)
 ·exact addq_same h h' hl hl' hs
 ·by_cases hn:z'.natAbs≤z.natAbs
  ·exact addq_keep h h' hl hl' hs hn
  ·exact addq_swap h h' hl hl' hs hn
end
section
variable {w:World} {A A':Option Addr} {c c' l l' n:Nat} {b b':Bool} {z z':Int}
theorem subq (h:I w b A c l z) (h':I w b' A' c' l' z') (hl:l≤35000) (hl':l'≤35000) :
  Calls Tryz.prog 182 #[.agg #[.bool b,.slice A l c],.agg #[.bool b',.slice A' l' c']] w (TellsZ w (z-z') (max l l'+6)):=by
 have HZ:Hid (z+-z'=z-z'):=zh zo;obtain⟨W,hW,x0,x1,x2,hB⟩:=boxes3 w #[.bool b,.slice A l c] 28 #[.bool b',.slice A' l' c'] 28 #[.bool false,.slice none 0 0] 28;replace h:=h.below hB;replace h':=h'.below hB;have HX0:=zh x0;have HX1:=zh x1;have HX2:=zh x2;have Bz:=zr W;clear x0 x1 x2;obtain⟨p00,p01,-⟩:=(zxb HX0 Bz).cz;obtain⟨p10,p11,-⟩:=(zxb HX1 Bz).cz;have y00:=(zxb HX2 Bz).cell 0 (.bool false) rfl;have y01:=(zxb HX2 Bz).cell 1 (.slice none 0 0) rfl;obtain⟨yl0,f00,f01,-⟩:=(zxb HX2 Bz).fz;go_enter Tryz.func182,Tryz.ntmps182
 go_wp2_with fail
 rw[←hW];clear hW;(try simp only[vAa,vBa,vC])
 refine wp_region_sched [(0,false),(1,false),(2,true),(3,true),(4,true)] (fun w'=>w'.cell? ⟨w.heap.size,0,none⟩=some (.bool b)∧w'.cell? ⟨w.heap.size,1,none⟩=some (.slice A l c)∧w'.cell? ⟨w.heap.size+1,0,none⟩=some (.bool b')∧w'.cell? ⟨w.heap.size+1,1,none⟩=some (.slice A' l' c')) (by kernel_rfl) (by kernel_rfl) ⟨p00,p01,p10,p11⟩ ?_;refine zAh (o:=⟨some 5,_,_,_,_,_⟩) (v:=?_) rfl rfl (fun w' hS=>?_) ?_;rotate_left
 ·obtain⟨p00,p01,p10,p11⟩:=hS;go_simp<;>with_reducible rfl
 try simp only[Act.put,uX,uY,uZ]
 refine zAh (o:=⟨some 6,_,_,_,_,_⟩) (v:=?_) rfl rfl (fun w' hS=>?_) ?_;rotate_left
 ·obtain⟨p00,p01,p10,p11⟩:=hS;go_simp<;>with_reducible rfl
 try simp only[Act.put,uX,uY,uZ]
 refine wpSched_call (o:=⟨some 7,_,_,_,_,_⟩) rfl rfl (fun K hK=>?_);go_simp
 with_reducible refine(neg_r (by repeat (first | exact h' | apply I.drew)) zo).mono ?_
 rintro e w1 ⟨s1,A1,c1,l1,rfl,h1,m1,q⟩;replace q:=zq (a:=W) q;replace h:=h.below q;replace Bz:=bT Bz q;obtain⟨p00,p01,-⟩:=(zxb HX0 Bz).cz;obtain⟨p10,p11,-⟩:=(zxb HX1 Bz).cz;have y00:=(zxb HX2 Bz).cell 0 (.bool false) rfl;have y01:=(zxb HX2 Bz).cell 1 (.slice none 0 0) rfl;obtain⟨yl0,f00,f01,-⟩:=(zxb HX2 Bz).fz;clear q;refine hK.out _ _ ⟨p00,p01,p10,p11⟩ (fun _=>?_);try simp only[Act.put,uX,uY,uZ]
 clear hK K;refine wpSched_call (o:=⟨some 8,_,_,_,_,_⟩) rfl rfl (fun K hK=>?_);go_simp
 with_reducible refine(addq (by repeat (first | exact h | apply I.drew)) (by repeat (first | exact h1.i | apply I.drew)) zo zo).mono ?_
 rintro e w2 ⟨s2,A2,c2,l2,rfl,h2,m2,q⟩;replace q:=zq (a:=w1) q;replace Bz:=bT Bz q;obtain⟨p00,p01,-⟩:=(zxb HX0 Bz).cz;obtain⟨p10,p11,-⟩:=(zxb HX1 Bz).cz;have y00:=(zxb HX2 Bz).cell 0 (.bool false) rfl;have y01:=(zxb HX2 Bz).cell 1 (.slice none 0 0) rfl;obtain⟨yl0,f00,f01,-⟩:=(zxb HX2 Bz).fz;clear q;refine hK.out _ _ ⟨p00,p01,p10,p11⟩ (fun _=>?_);try simp only[Act.put,uX,uY,uZ]
 clear hK K;refine wpSched_call (o:=⟨none,_,_,_,_,_⟩) rfl rfl (fun K hK=>?_);go_simp
 refine hK.out _ _ ⟨(zAf zo).trans p00,(zAf zo).trans p01,(zAf zo).trans p10,(zAf zo).trans p11⟩ (fun _=>?_);try simp only[Act.put,uX,uY,uZ]
 clear hK K;refine wpSched_done ?_;go_wp2_with fail
 (try simp only[Exit.inBlock,Exit.then])
 have q0:w2.cell? ⟨w.heap.size+2,0,none⟩=some (.bool false):=y00;have q1:w2.cell? ⟨w.heap.size+2,1,none⟩=some (.slice none 0 0):=y01;refine bodyPost_ret (by simp[results,Tryz.results182,go_sem,q0,q1];try rfl) rfl ?_;exact⟨s2,A2,c2,l2,rfl,by rw[←HZ.out];exact h2.box y00 y01 nofun,zo,((bT hB Bz).setCell (by simp only[];omega) _).setCell (by simp only[];omega) _⟩
theorem cmpI_subq (a b:Int):(a-b).sign=cmpI a b:=by
 unfold cmpI
 rcases gE a b with h | h | h
 ·rw[gA h,gD zo]
 ·rw[fA zo,fA zo,h,Int.sub_self];rfl
 ·rw[fA zo,gA h,qD zo]
theorem cmpq (h:I w b A c l z) (h':I w b' A' c' l' z') (hl:l≤35000) (hl':l'≤35000) (k:Int) (hk:cmpI z z'=k) :
  Calls Tryz.prog 156 #[.agg #[.bool b,.slice A l c],.agg #[.bool b',.slice A' l' c']] w fun e w'=>e=.returned (.int .i64 k)∧Below w.heap.size w w':=by
 have HK:Hid ((z-z').sign=k):=by show _=_;rw[cmpI_subq];exact hk
 obtain⟨W,hW,x0,x1,hB⟩:=boxes2 w #[.bool b,.slice A l c] 28 #[.bool b',.slice A' l' c'] 28;replace h:=h.below hB;replace h':=h'.below hB;have p0:=x0.cell 0 (.bool b) rfl;have p1:=x0.cell 1 (.slice A l c) rfl;have q0:=x1.cell 0 (.bool b') rfl;have q1:=x1.cell 1 (.slice A' l' c') rfl;clear hk;go_enter Tryz.func156,Tryz.ntmps156
 go_wp2_with fail
 rw[←hW];clear hW;with_reducible refine(subq h h' hl hl').mono ?_
 rintro e w1 ⟨s1,A1,c1,l1,rfl,j1,m1,b1⟩;go_wp2_with fail
 with_reducible refine(sign_r j1.i zo k HK.out).mono ?_
 rintro e w2 ⟨rfl,b2⟩;go_wp2_with fail
 go_ret
 exact⟨rfl,bT hB (bT b1 b2)⟩
theorem gcdq (h:I w b A c l z) (h':I w b' A' c' l' z') (hl:l≤16000) (hl':l'≤16000) :
  Calls Tryz.prog 154 #[.agg #[.bool b,.slice A l c],.agg #[.bool b',.slice A' l' c']] w (TellsZ w (Int.gcd z z':Int) (2*(l+l')+20001)):=by
 obtain⟨n,h1,rfl⟩:=h;obtain⟨n',h2,rfl⟩:=h';have HZ:Hid (sgn false (Nat.gcd n n')=(Int.gcd (sgn b n) (sgn b' n'):Int)):=by
  show _=_
  unfold Int.gcd
  rw[sgn_abs,sgn_abs];rfl
 obtain⟨W,hW,x0,x1,x2,hB⟩:=boxes3 w #[.bool b,.slice A l c] 28 #[.bool b',.slice A' l' c'] 28 #[.bool false,.slice none 0 0] 28;replace h1:=h1.below hB;replace h2:=h2.below hB;have HX0:=zh x0;have HX1:=zh x1;have HX2:=zh x2;have Bz:=zr W;clear x0 x1 x2;obtain⟨p00,p01,-⟩:=(zxb HX0 Bz).cz;obtain⟨p10,p11,-⟩:=(zxb HX1 Bz).cz;have y00:=(zxb HX2 Bz).cell 0 (.bool false) rfl;have y01:=(zxb HX2 Bz).cell 1 (.slice none 0 0) rfl;obtain⟨yl0,f00,f01,-⟩:=(zxb HX2 Bz).fz;go_enter Tryz.func154,Tryz.ntmps154
 go_wp2_with fail
 rw[←hW];clear hW;with_reducible refine(gcd_r h1 h2 zo zo).mono ?_
 rintro e w1 ⟨A1,c1,l1,rfl,h1,m1,q⟩;replace q:=zq (a:=W) q;replace Bz:=bT Bz q;obtain⟨p00,p01,-⟩:=(zxb HX0 Bz).cz;obtain⟨p10,p11,-⟩:=(zxb HX1 Bz).cz;have y00:=(zxb HX2 Bz).cell 0 (.bool false) rfl;have y01:=(zxb HX2 Bz).cell 1 (.slice none 0 0) rfl;obtain⟨yl0,f00,f01,-⟩:=(zxb HX2 Bz).fz;clear q;go_wp2_with fail
 with_reducible refine(make_r false h1.v zo).mono ?_
 rintro e w2 ⟨s2,A2,c2,l2,rfl,h2,m2,q⟩;replace q:=zq (a:=w1) q;replace Bz:=bT Bz q;obtain⟨p00,p01,-⟩:=(zxb HX0 Bz).cz;obtain⟨p10,p11,-⟩:=(zxb HX1 Bz).cz;have y00:=(zxb HX2 Bz).cell 0 (.bool false) rfl;have y01:=(zxb HX2 Bz).cell 1 (.slice none 0 0) rfl;obtain⟨yl0,f00,f01,-⟩:=(zxb HX2 Bz).fz;clear q;go_wp2_with fail
 (try simp only[Exit.inBlock,Exit.then])
 have q0:w2.cell? ⟨w.heap.size+2,0,none⟩=some (.bool false):=y00;have q1:w2.cell? ⟨w.heap.size+2,1,none⟩=some (.slice none 0 0):=y01;refine bodyPost_ret (by simp[results,Tryz.results154,go_sem,q0,q1];try rfl) rfl ?_;exact⟨s2,A2,c2,l2,rfl,by rw[←HZ.out];exact h2.box y00 y01 nofun,zo,((bT hB Bz).setCell (by simp only[];omega) _).setCell (by simp only[];omega) _⟩
end
section
variable {w:World} {A A':Option Addr} {c c' l l':Nat} {b b':Bool} {z z':Int}
theorem ofq_pos (x:Nat) (hx:Hid (x<9223372036854775808)) :
  Calls Tryz.prog 119 #[.int .i64 (x:Int)] w (TellsZ w (x:Int) 2):=by
 have p1:decide (0≤(x:Int))=true:=by simp
 have u1:=u64_id x (zi hx.out);have HL:=zh (lit1 w (.cells #[.bool false,.slice none 0 0] 28) x (zi hx.out));have HY:=zh ((IBox.new w (.bool false) (.slice none 0 0)).below (zAi _ (.cells #[.int .u64 (x:Int)] 53)));have hB:Below w.heap.size w ((w.alloc (.cells #[.bool false,.slice none 0 0] 28)).alloc (.cells #[.int .u64 (x:Int)] 53)):=by go_grown
 go_enter Tryz.func119,Tryz.ntmps119
 go_wp2_with fail
 refine(make_r false HL.out zd).mono ?_;rintro e w1 ⟨s1,A1,c1,l1,rfl,h1,m1,b1⟩;obtain⟨⟨y1,y2⟩,⟨y3,y4⟩,y5⟩:=(HY.out.below b1).look;go_wp2_with fail
 (try simp only[Exit.inBlock,Exit.then])
 refine bodyPost_ret (by simp[results,Tryz.results119,go_sem,y1,y2];try rfl) rfl ?_;exact⟨s1,A1,c1,l1,rfl,h1.box y1 y2 nofun,m1,((bT hB b1).setCell (by simp only[];omega) _).setCell (by simp only[];omega) _⟩
theorem u64_up (x:Nat) (h:0<x∧x≤9223372036854775808):IntKind.u64.wrap (IntKind.u64.wrap (wrap64 (-wrap64 (-(x:Int)+1)))+1)=(x:Int):=by
 rw[IntWalk.wrap64_in (-(x:Int)+1) ⟨zo,zo⟩,IntWalk.wrap64_in (-(-(x:Int)+1)) ⟨zo,zo⟩];obtain⟨y,rfl⟩:∃y,x=y+1:=⟨x-1,zo⟩;rw[show -(-((y+1:Nat):Int)+1)=(y:Int) from by omega,u64_id y zo,show(y:Int)+1=((y+1:Nat):Int) from rfl,u64_id (y+1) zo]
theorem ofq_neg (x:Nat) (hx:Hid (0<x∧x≤9223372036854775808)) :
  Calls Tryz.prog 119 #[.int .i64 (-(x:Int))] w (TellsZ w (-(x:Int)) 2):=by
 have p1:decide (0≤-(x:Int))=false:=by have:=hx.out.1;simp;omega
 have p2:decide ((x:Int)≤0)=false:=by have:=hx.out.1;simp;omega
 have p3:decide (x≤0)=false:=by have:=hx.out.1;simp;omega
 have p5:¬x=0:=zi hx.out.1;have u1:=u64_up x hx.out;have HL:=zh (lit1 w (.cells #[.bool false,.slice none 0 0] 28) x (zi hx.out));have HY:=zh ((IBox.new w (.bool false) (.slice none 0 0)).below (zAi _ (.cells #[.int .u64 (x:Int)] 53)));have hB:Below w.heap.size w ((w.alloc (.cells #[.bool false,.slice none 0 0] 28)).alloc (.cells #[.int .u64 (x:Int)] 53)):=by go_grown
 go_enter Tryz.func119,Tryz.ntmps119
 go_wp2_with fail
 refine(make_r true HL.out zd).mono ?_;rintro e w1 ⟨s1,A1,c1,l1,rfl,h1,m1,b1⟩;obtain⟨⟨y1,y2⟩,⟨y3,y4⟩,y5⟩:=(HY.out.below b1).look;go_wp2_with fail
 (try simp only[Exit.inBlock,Exit.then])
 refine bodyPost_ret (by simp[results,Tryz.results119,go_sem,y1,y2];try rfl) rfl ?_;exact⟨s1,A1,c1,l1,rfl,h1.box y1 y2 nofun,m1,((bT hB b1).setCell (by simp only[];omega) _).setCell (by simp only[];omega) _⟩
theorem ofq (z:Int) (h:Hid (-9223372036854775808≤z∧z≤9223372036854775807)) :
  Calls Tryz.prog 119 #[.int .i64 z] w (TellsZ w z 2):=by
 have h1:=h.out;by_cases hz:z<0
 ·obtain⟨x,hx⟩:=Int.eq_ofNat_of_zero_le (a:=-z) zo;obtain rfl:z = -(x:Int):=zo;exact ofq_neg x (zh zo)
 ·obtain⟨x,rfl⟩:=Int.eq_ofNat_of_zero_le (a:=z) zo;exact ofq_pos x (zh zo)
end
section
variable {w:World} {A A':Option Addr} {c c' l l':Nat} {b b':Bool} {z z':Int}
end
theorem divmod_one {a b q r:Int} (h:a=q*b+r) (h0:0≤r) (h1:r<(b.natAbs:Int)):a / b=q∧a % b=r:=by
 have hb:b≠0:=by rintro rfl;simp at h1;omega
 rcases Int.lt_or_gt_of_ne hb with hn | hp
 ·exact(Int.ediv_emod_unique' hn).2 ⟨by rw[h,Int.mul_comm];omega,h0,zo⟩
 ·exact(Int.ediv_emod_unique hp).2 ⟨by rw[h,Int.mul_comm];omega,h0,zo⟩
theorem step_pos {z q z' r:Int} (h:z=q*z'+r):z-(q-1)*z'=r+z':=by rw[h,Int.sub_mul];omega
theorem step_neg {z q z' r:Int} (h:z=q*z'+r):z-(q+1)*z'=r-z':=by rw[h,Int.add_mul];omega
section
variable {w:World} {A A':Option Addr} {c c' l l':Nat} {b b':Bool} {z z':Int}
theorem rest_bd {n n':Nat} {z z':Int} (e:sgn b n=z) (e':sgn b' n'=z') (h0:n'≠0):-(z'.natAbs:Int)<z-sgn (!(b==b')) (n / n')*z'∧z-sgn (!(b==b')) (n / n')*z'<(z'.natAbs:Int):=by
 subst e e';rw[sgn_abs];have h1:=dC n n';have h2:=gC n (kF h0);have h3:((n'*(n / n'):Nat):Int)=(n':Int)*((n / n':Nat):Int):=by simp
 generalize n / n'=q at *
 have h4:(q:Int)*(n':Int)=((n'*q:Nat):Int):=by rw[h3,Int.mul_comm]
 unfold sgn
 cases b<;>cases b'<;>simp[Int.neg_mul,Int.mul_neg]<;>omega
def DSt (w wr:World) (b b':Bool) (A A':Option Addr) (c c' l l':Nat) (z z':Int) (b8 b9 n:Nat):Prop :=
 ∃(q r:Int) (s8:Bool) (A8:Option Addr) (c8 l8:Nat) (s9:Bool) (A9:Option Addr) (c9 l9:Nat),
  Bx wr b8 #[.bool s8,.slice A8 l8 c8] 28∧Bx wr b9 #[.bool s9,.slice A9 l9 c9] 28∧J wr s8 A8 c8 l8 q∧J wr s9 A9 c9 l9 r∧z=q*z'+r∧-(z'.natAbs:Int)<r∧r<(z'.natAbs:Int)∧l8≤l+20∧(r<0→l8≤l+10)∧l9≤l+l'+30∧
  Bx wr w.heap.size #[.bool b,.slice A l c] 28∧Bx wr (w.heap.size+1) #[.bool b',.slice A' l' c'] 28∧Bx wr (w.heap.size+1+1) #[.bool false,.slice none 0 0] 28∧Bx wr (w.heap.size+1+1+1) #[.bool false,.slice none 0 0] 28∧
  I wr b A c l z∧I wr b' A' c' l' z'∧Below w.heap.size w wr∧((z'.natAbs:Int)-r).toNat=n
theorem divmodq (h:I w b A c l z) (h':I w b' A' c' l' z') (hl:l≤16000) (hl':l'≤16000) (hz':z'≠0) :
  Calls Tryz.prog 155 #[.agg #[.bool b,.slice A l c],.agg #[.bool b',.slice A' l' c']] w (TellsZ2 w (z / z') (z % z') (l+l'+30) (l+l'+30)):=by
 obtain⟨tb,HTB⟩:∃t,Hid (z'.sign=t):=⟨_,zh rfl⟩;have g0:(tb==0)=false:=by
  have:tb≠0:=by rw[←HTB.out];intro h;exact hz' (aG.1 h)
  simpa using this
 obtain⟨W,hW,x0,x1,x2,x3,hB⟩:=boxes4 w #[.bool b,.slice A l c] 28 #[.bool b',.slice A' l' c'] 28 #[.bool false,.slice none 0 0] 28 #[.bool false,.slice none 0 0] 28;replace h:=h.below hB;replace h':=h'.below hB;have HX0:=zh x0;have HX1:=zh x1;have HX2:=zh x2;have HX3:=zh x3;have p10:=x1.cell 0 (.bool b') rfl;have p11:=x1.cell 1 (.slice A' l' c') rfl;clear x0 x1 x2 x3;go_enter Tryz.func155,Tryz.ntmps155
 go_wp2_with fail
 rw[←hW];clear hW;with_reducible refine(sign_r h' zo tb HTB.out).mono ?_
 rintro e w1 ⟨rfl,b1⟩;obtain⟨p00,p01,-⟩:=(HX0.out.below b1).cz;obtain⟨p10,p11,-⟩:=(HX1.out.below b1).cz;obtain⟨n,v1,e1⟩:=h.below b1;obtain⟨n',v2,e2⟩:=h'.below b1;have hn':n'≠0:=by rintro rfl;apply hz';rw[←e2];unfold sgn;cases b'<;>rfl
 have E1:=zh e1;have E2:=zh e2;clear e1 e2;go_wp2_with fail
 with_reducible refine(divmod_r v1 v2 zo zo hn').mono ?_
 rintro e w2 ⟨A2,c2,l2,A2r,c2r,l2r,rfl,h2,h2r,m2,m2r,b2⟩;replace b2:=bT b1 b2;have p00:=(HX0.out.below b2).cell 0 (.bool b) rfl;have p10:=(HX1.out.below b2).cell 0 (.bool b') rfl;go_wp2_with fail
 with_reducible refine(make_r (!(b==b')) h2.v zo).mono ?_
 rintro e w3 ⟨s3,A3,c3,l3,rfl,j3,m3,b3⟩;replace b3:=bT b2 b3;clear h2 h2r b2 b1 p00 p01 p10 p11 v1 v2;go_upto_region 5 with(fail)
 obtain⟨W4,hW4,x8,hB4⟩:=zAe w3 #[.bool s3,.slice A3 l3 c3] 28;rw[←hW4];clear hW4;obtain⟨b8,hb8⟩:∃b8,b8=w3.heap.size:=⟨_,rfl⟩;rw[←hb8] at x8 ⊢;have hb8w:w.heap.size+3<b8:=zi (HX3.out.below b3).lt;replace b3:=bT b3 hB4;replace j3:=j3.below hB4;replace h:=h.below b3;replace h':=h'.below b3;have X0:=HX0.out.below b3;have X1:=HX1.out.below b3;have HY0:=zh X0;have HY1:=zh X1;have HY2:=zh (HX2.out.below b3);have HY3:=zh (HX3.out.below b3);have HY8:=zh x8;have HBW:=zh (bT hB b3);obtain⟨q0,hq0⟩:∃q0,sgn (!(b==b')) (n / n')=q0:=⟨_,rfl⟩;rw[hq0] at j3;have HQ0:=zh hq0;have p00:=X0.cell 0 (.bool b) rfl;have p01:=X0.cell 1 (.slice A l c) rfl;have p10:=X1.cell 0 (.bool b') rfl;have p11:=X1.cell 1 (.slice A' l' c') rfl;have p80:=x8.cell 0 (.bool s3) rfl;have p81:=x8.cell 1 (.slice A3 l3 c3) rfl;clear X0 X1 x8 HX0 HX1 HX2 HX3 hb8 hq0 b3 hB4 hB;have h84:b8<W4.heap.size:=HY8.out.lt;go_cut [9] (fun p wx=>∃(b9:Nat) (s:Bool) (A9:Option Addr) (c9 l9:Nat),p=.pointer (some ⟨b9,0,none⟩)∧Bx wx b9 #[.bool s,.slice A9 l9 c9] 28∧J wx s A9 c9 l9 (z-q0*z')∧l9≤l+l'+20∧Below W4.heap.size W4 wx∧W4.heap.size≤b9)
 case first =>
  go_region_held3 (fun w'=>w'.cell? ⟨w.heap.size,0,none⟩=some (.bool b)∧w'.cell? ⟨w.heap.size,1,none⟩=some (.slice A l c)∧w'.cell? ⟨w.heap.size+1,0,none⟩=some (.bool b')∧w'.cell? ⟨w.heap.size+1,1,none⟩=some (.slice A' l' c')∧w'.cell? ⟨b8,0,none⟩=some (.bool s3)∧w'.cell? ⟨b8,1,none⟩=some (.slice A3 l3 c3))
   (first | exact⟨p00,p01,p10,p11,p80,p81⟩ | exact⟨(zAf zo).trans p00,(zAf zo).trans p01,(zAf zo).trans p10,(zAf zo).trans p11,(zAf zo).trans p80,(zAf zo).trans p81⟩ | go_keep)
   (first
    | (go_at_call 88;refine(mulq (by exact I.below j3.i) (by exact I.below h') zo zo).mono ?_;rintro e w5 ⟨s5,A5,c5,l5,rfl,j5,m5,b5⟩;(try (have y9:Bx w5 W4.heap.size #[.bool false,.slice none 0 0] 28:=(Bx.new W4.drew #[.bool false,.slice none 0 0] 28).below b5));(try (have n0:=y9.cell 0 (.bool false) rfl));(try (have n1:=y9.cell 1 (.slice none 0 0) rfl));(try (have n2:=y9.frozen 0));(try (have n3:=y9.frozen 1));(try (have n4:=y9.lt));replace b5:=zq (a:=W4) b5;have z5:=b5.size;have p00:=(HY0.out.below b5).cell 0 (.bool b) rfl;have p01:=(HY0.out.below b5).cell 1 (.slice A l c) rfl;have p10:=(HY1.out.below b5).cell 0 (.bool b') rfl;have p11:=(HY1.out.below b5).cell 1 (.slice A' l' c') rfl;have p80:=(HY8.out.below b5).cell 0 (.bool s3) rfl;have p81:=(HY8.out.below b5).cell 1 (.slice A3 l3 c3) rfl)
    | (go_at_call 182;refine(subq (by exact I.below h (bT b5)) (by exact I.below j5.i) zo zo).mono ?_;rintro e w6 ⟨s6,A6,c6,l6,rfl,j6,m6,b6⟩;(first | (have y9:Bx w6 W4.heap.size #[.bool false,.slice none 0 0] 28:=y9.below (bT (by go_grown) b6)) | (have y9:Bx w6 w5.heap.size #[.bool false,.slice none 0 0] 28:=(Bx.new w5 #[.bool false,.slice none 0 0] 28).below b6) | skip);(try (have n0:=y9.cell 0 (.bool false) rfl));(try (have n1:=y9.cell 1 (.slice none 0 0) rfl));(try (have n2:=y9.frozen 0));(try (have n3:=y9.frozen 1));(try (have n4:=y9.lt));replace b6:=bT (a:=W4) (bT b5) b6;have p00:=(HY0.out.below b6).cell 0 (.bool b) rfl;have p01:=(HY0.out.below b6).cell 1 (.slice A l c) rfl;have p10:=(HY1.out.below b6).cell 0 (.bool b') rfl;have p11:=(HY1.out.below b6).cell 1 (.slice A' l' c') rfl;have p80:=(HY8.out.below b6).cell 0 (.bool s3) rfl;have p81:=(HY8.out.below b6).cell 1 (.slice A3 l3 c3) rfl))
  all_goals
   go_wp2_with fail
   go_meet
   case rel =>
    first
    | exact⟨_,s6,A6,c6,l6,rfl,(y9.set 0 _).set 1 _,j6.k ((K64.box y9 (i:=0) rfl nofun _).trans (K64.box (y9.set 0 _) (i:=1) rfl nofun _)),zo,(b6.setCell (by simp only[];omega) _).setCell (by simp only[];omega) _,zo⟩
    | exact⟨_,s6,A6,c6,l6,rfl,Bx.new _ _ _,j6.below (by go_grown),zo,bT b6,b6.size⟩
 case rest =>
  obtain⟨b9,s9,A9,c9,l9,rfl,X9,j9,m9,b9w,hb9⟩:=hcut;have hr:=rest_bd (b:=b) (b':=b') E1.out E2.out hn';rw[HQ0.out] at hr;have hst:DSt w wc b b' A A' c c' l l' z z' b8 b9 ((z'.natAbs:Int)-(z-q0*z')).toNat :=
   ⟨q0,z-q0*z',s3,A3,c3,l3,s9,A9,c9,l9,HY8.out.below b9w,X9,j3.below b9w,j9,zo,hr.1,hr.2,zo,fun _=>by omega,zo,HY0.out.below b9w,HY1.out.below b9w,HY2.out.below b9w,HY3.out.below b9w,h.below b9w,h'.below b9w,HBW.out.trans (b9w.mono HBW.out.size),rfl⟩
  have HST:=zh hst;have h89:b8<b9:=zo;clear hst hr X9 j9 m9 b9w HY0 HY1 HY2 HY3 HY8 HBW j3 h h' HQ0 E1 E2 p00 p01 p10 p11 p80 p81 hb9 h84;go_wp2_with fail
  go_loopg [35] ((z'.natAbs:Int)-(z-q0*z')).toNat (fun n _ wr=>DSt w wr b b' A A' c c' l l' z z' b8 b9 n)
  case atStart=>exact HST.out
  case round =>
   clear HST;obtain⟨q,r,s8,A8,c8,l8,s9,A9,c9,l9,X8,X9,j8,j9,hqr,hr1,hr2,m8,m8',m9,X0,X1,X2,X3,h,h',hB,hn⟩:=hrel;obtain⟨tr,HTR⟩:∃t,Hid (r.sign=t):=⟨_,zh rfl⟩;have HQR:=zh hqr;have HN:=zh hn;have HX0:=zh X0;have HX1:=zh X1;have HX2:=zh X2;have HX3:=zh X3;have HX4:=zh X8;have HX5:=zh X9;clear hqr hn X0 X1 X2 X3 X8 X9;by_cases hr:r<0
   ·have g1:decide (tr<0)=true:=by
     rw[←HTR.out,gD hr];rfl
    have m8:=m8' hr;clear m8';by_cases hb:0<z'
    ·have g2:decide (0<tb)=true:=by rw[←HTB.out,qD hb];rfl
     have Bz:=zr wr;obtain⟨pf0,pf1,-⟩:=(zxb HX5 Bz).cz;go_wp2_with fail
     with_reducible refine(sign_r (I.below j9.i) zo tr HTR.out).mono ?_
     rintro e w1 ⟨rfl,b1⟩;replace b1:=zq (a:=wr) b1;replace h:=h.below b1;replace h':=h'.below b1;replace j8:=j8.below b1;replace Bz:=bT Bz b1;clear b1;clear pf0 pf1;obtain⟨pb0,pb1,-⟩:=(zxb HX1 Bz).cz;go_wp2_with fail
     with_reducible refine(sign_r (I.below h') zo tb HTB.out).mono ?_
     rintro e w2 ⟨rfl,b2⟩;replace b2:=zq (a:=w1) b2;replace h:=h.below b2;replace h':=h'.below b2;replace j8:=j8.below b2;replace Bz:=bT Bz b2;clear b2;clear pb0 pb1;obtain⟨pe0,pe1,-⟩:=(zxb HX4 Bz).cz;obtain⟨y4,fe0,fe1,-⟩:=(zxb HX4 Bz).fz;go_wp2_with fail
     (try simp only[vAa,vBa,vC])
     refine zl (.take 0 (.only 1 (.only 2 (.only 3 .done)))) [3] (zsa pe0 (zIa pe1)) ?_;refine zUa ?_;try simp only[Act.put,uX,uY,uZ]
     refine zC 42 rfl rfl (fun K hK=>?_);go_simp
     with_reducible refine(ofq 1 (zh zo)).mono ?_
     rintro e w3 ⟨s3,A3,c3,l3,rfl,h3,m3,b3⟩;replace b3:=zq (a:=w2) b3;replace h:=h.below b3;replace h':=h'.below b3;replace j8:=j8.below b3;replace Bz:=bT Bz b3;clear b3;clear pe0 pe1 fe0 fe1 y4;obtain⟨pe0,pe1,-⟩:=(zxb HX4 Bz).cz;obtain⟨y4,fe0,fe1,-⟩:=(zxb HX4 Bz).fz;refine hK.out _ _ ⟨pe0,pe1⟩ (fun _=>?_);try simp only[Act.put,uX,uY,uZ]
     clear hK K;refine zC 43 rfl rfl (fun K hK=>?_);go_simp
     with_reducible refine(subq (I.below j8.i) (I.below h3.i) zo zo).mono ?_
     rintro e w4 ⟨s4,A4,c4,l4,rfl,h4,m4,j⟩;replace j:=zq (a:=w3) j;replace h:=h.below j;replace h':=h'.below j;replace Bz:=bT Bz j;clear j;clear pe0 pe1 fe0 fe1 y4;obtain⟨pe0,pe1,-⟩:=(zxb HX4 Bz).cz;obtain⟨y4,fe0,fe1,-⟩:=(zxb HX4 Bz).fz;refine hK.out _ _ ⟨pe0,pe1⟩ (fun _=>?_);try simp only[Act.put,uX,uY,uZ]
     clear hK K;refine zAc (o:=⟨none,_,_,_,_,_⟩) rfl rfl zd (fun K hK=>?_);go_simp
     refine hK.out _ _ ?_;try simp only[Act.put,uX,uY,uZ]
     clear hK K;refine zAa ?_;obtain⟨V1,hW,x,kk,far,bel⟩:=zAk (.bool s4) (.slice A4 l4 c4) (zxb HX4 Bz) nofun nofun;rw[←hW];clear hW;replace h:=h.k kk;replace h':=h'.k kk;replace h4:=h4.k kk;replace hB:=bel w.heap.size w zo (bT hB Bz);replace HX0:=zf far HX0 Bz;replace HX1:=zf far HX1 Bz;replace HX2:=zf far HX2 Bz;replace HX3:=zf far HX3 Bz;replace HX5:=zf far HX5 Bz;replace HX4:=zh x;clear x kk far bel Bz;have Bz:=zr V1;clear pe0 pe1 fe0 fe1 y4;obtain⟨pa0,pa1,-⟩:=(zxb HX0 Bz).cz;obtain⟨pb0,pb1,-⟩:=(zxb HX1 Bz).cz;obtain⟨pe0,pe1,-⟩:=(zxb HX4 Bz).cz;obtain⟨pf0,pf1,-⟩:=(zxb HX5 Bz).cz;obtain⟨y5,ff0,ff1,-⟩:=(zxb HX5 Bz).fz;go_wp2_with fail
     (try simp only[vAa,vBa,vC])
     refine zl (zz [0,1,2] (.only 3 (.only 4 (.only 5 .done)))) [5] (zsa pa0 (zsa pa1 (zsa pb0 (zsa pb1 (zsa pe0 (zIa pe1)))))) ?_;iterate 3 (refine zUa ?_;try simp only[Act.put,uX,uY,uZ])
     refine zC 50 rfl rfl (fun K hK=>?_);go_simp
     with_reducible refine(mulq (I.below h4.i) (I.below h') zo zo).mono ?_
     rintro e w5 ⟨s5,A5,c5,l5,rfl,h5,m5,b5⟩;replace b5:=zq (a:=V1) b5;replace h:=h.below b5;replace h':=h'.below b5;replace h4:=h4.below b5;replace Bz:=bT Bz b5;clear b5;clear pa0 pa1 pb0 pb1 pe0 pe1 pf0 pf1 ff0 ff1 y5;obtain⟨pa0,pa1,-⟩:=(zxb HX0 Bz).cz;obtain⟨pb0,pb1,-⟩:=(zxb HX1 Bz).cz;obtain⟨pe0,pe1,-⟩:=(zxb HX4 Bz).cz;obtain⟨pf0,pf1,-⟩:=(zxb HX5 Bz).cz;obtain⟨y5,ff0,ff1,-⟩:=(zxb HX5 Bz).fz;refine hK.out _ _ ⟨pa0,pa1,pb0,pb1,pe0,pe1⟩ (fun _=>?_);try simp only[Act.put,uX,uY,uZ]
     clear hK K;refine zC 51 rfl rfl (fun K hK=>?_);go_simp
     with_reducible refine(subq (I.below h) (I.below h5.i) zo zo).mono ?_
     rintro e w6 ⟨s6,A6,c6,l6,rfl,h6,m6,b6⟩;replace b6:=zq (a:=w5) b6;replace h:=h.below b6;replace h':=h'.below b6;replace h4:=h4.below b6;replace Bz:=bT Bz b6;clear b6;clear pa0 pa1 pb0 pb1 pe0 pe1 pf0 pf1 ff0 ff1 y5;obtain⟨pa0,pa1,-⟩:=(zxb HX0 Bz).cz;obtain⟨pb0,pb1,-⟩:=(zxb HX1 Bz).cz;obtain⟨pe0,pe1,-⟩:=(zxb HX4 Bz).cz;obtain⟨pf0,pf1,-⟩:=(zxb HX5 Bz).cz;obtain⟨y5,ff0,ff1,-⟩:=(zxb HX5 Bz).fz;refine hK.out _ _ ⟨pa0,pa1,pb0,pb1,pe0,pe1⟩ (fun _=>?_);try simp only[Act.put,uX,uY,uZ]
     clear hK K;refine zAc (o:=⟨none,_,_,_,_,_⟩) rfl rfl zd (fun K hK=>?_);go_simp
     refine hK.out _ _ ?_;try simp only[Act.put,uX,uY,uZ]
     clear hK K;refine zAa ?_;obtain⟨V2,hW,x,kk,far,bel⟩:=zAk (.bool s6) (.slice A6 l6 c6) (zxb HX5 Bz) nofun nofun;rw[←hW];clear hW;replace h:=h.k kk;replace h':=h'.k kk;replace h4:=h4.k kk;replace h6:=h6.k kk;replace hB:=bel w.heap.size w zo (bT hB Bz);replace HX0:=zf far HX0 Bz;replace HX1:=zf far HX1 Bz;replace HX2:=zf far HX2 Bz;replace HX3:=zf far HX3 Bz;replace HX4:=zf far HX4 Bz;replace HX5:=zh x;clear x kk far bel Bz;have Bz:=zr V2;clear pa0 pa1 pb0 pb1 pe0 pe1 pf0 pf1 ff0 ff1 y5;go_wp2_with fail
     have hst:DSt w V2 b b' A A' c c' l l' z z' b8 b9 ((z'.natAbs:Int)-(z-(q-1)*z')).toNat :=
      ⟨q-1,z-(q-1)*z',s4,A4,c4,l4,s6,A6,c6,l6,HX4.out.below Bz,HX5.out.below Bz,(J.below h4),(J.below h6),zo,by rw[step_pos HQR.out];omega,by rw[step_pos HQR.out];omega,zo,fun h0=>by rw[step_pos HQR.out] at h0;omega,zo,HX0.out.below Bz,HX1.out.below Bz,HX2.out.below Bz,HX3.out.below Bz,(I.below h),(I.below h'),bT hB Bz,rfl⟩
     have HST:=zh hst;have hlt:((z'.natAbs:Int)-(z-(q-1)*z')).toNat<gk:=by rw[←HN.out,step_pos HQR.out];omega
     clear hst;go_wp2_with fail
     go_roundg ((z'.natAbs:Int)-(z-(q-1)*z')).toNat
     case measure=>exact hlt
     case rel=>exact HST.out
    ·have g2:decide (0<tb)=false:=by rw[←HTB.out,gD zo];rfl
     have Bz:=zr wr;obtain⟨pf0,pf1,-⟩:=(zxb HX5 Bz).cz;go_wp2_with fail
     with_reducible refine(sign_r (I.below j9.i) zo tr HTR.out).mono ?_
     rintro e w1 ⟨rfl,b1⟩;replace b1:=zq (a:=wr) b1;replace h:=h.below b1;replace h':=h'.below b1;replace j8:=j8.below b1;replace Bz:=bT Bz b1;clear b1;clear pf0 pf1;obtain⟨pb0,pb1,-⟩:=(zxb HX1 Bz).cz;go_wp2_with fail
     with_reducible refine(sign_r (I.below h') zo tb HTB.out).mono ?_
     rintro e w2 ⟨rfl,b2⟩;replace b2:=zq (a:=w1) b2;replace h:=h.below b2;replace h':=h'.below b2;replace j8:=j8.below b2;replace Bz:=bT Bz b2;clear b2;clear pb0 pb1;obtain⟨pe0,pe1,-⟩:=(zxb HX4 Bz).cz;obtain⟨y4,fe0,fe1,-⟩:=(zxb HX4 Bz).fz;go_wp2_with fail
     (try simp only[vAa,vBa,vC])
     refine zl (.take 0 (.only 1 (.only 2 (.only 3 .done)))) [3] (zsa pe0 (zIa pe1)) ?_;refine zUa ?_;try simp only[Act.put,uX,uY,uZ]
     refine zC 45 rfl rfl (fun K hK=>?_);go_simp
     with_reducible refine(ofq 1 (zh zo)).mono ?_
     rintro e w3 ⟨s3,A3,c3,l3,rfl,h3,m3,b3⟩;replace b3:=zq (a:=w2) b3;replace h:=h.below b3;replace h':=h'.below b3;replace j8:=j8.below b3;replace Bz:=bT Bz b3;clear b3;clear pe0 pe1 fe0 fe1 y4;obtain⟨pe0,pe1,-⟩:=(zxb HX4 Bz).cz;obtain⟨y4,fe0,fe1,-⟩:=(zxb HX4 Bz).fz;refine hK.out _ _ ⟨pe0,pe1⟩ (fun _=>?_);try simp only[Act.put,uX,uY,uZ]
     clear hK K;refine zC 46 rfl rfl (fun K hK=>?_);go_simp
     with_reducible refine(addq (I.below j8.i) (I.below h3.i) zo zo).mono ?_
     rintro e w4 ⟨s4,A4,c4,l4,rfl,h4,m4,j⟩;replace j:=zq (a:=w3) j;replace h:=h.below j;replace h':=h'.below j;replace Bz:=bT Bz j;clear j;clear pe0 pe1 fe0 fe1 y4;obtain⟨pe0,pe1,-⟩:=(zxb HX4 Bz).cz;obtain⟨y4,fe0,fe1,-⟩:=(zxb HX4 Bz).fz;refine hK.out _ _ ⟨pe0,pe1⟩ (fun _=>?_);try simp only[Act.put,uX,uY,uZ]
     clear hK K;refine zAc (o:=⟨none,_,_,_,_,_⟩) rfl rfl zd (fun K hK=>?_);go_simp
     refine hK.out _ _ ?_;try simp only[Act.put,uX,uY,uZ]
     clear hK K;refine zAa ?_;obtain⟨V1,hW,x,kk,far,bel⟩:=zAk (.bool s4) (.slice A4 l4 c4) (zxb HX4 Bz) nofun nofun;rw[←hW];clear hW;replace h:=h.k kk;replace h':=h'.k kk;replace h4:=h4.k kk;replace hB:=bel w.heap.size w zo (bT hB Bz);replace HX0:=zf far HX0 Bz;replace HX1:=zf far HX1 Bz;replace HX2:=zf far HX2 Bz;replace HX3:=zf far HX3 Bz;replace HX5:=zf far HX5 Bz;replace HX4:=zh x;clear x kk far bel Bz;have Bz:=zr V1;clear pe0 pe1 fe0 fe1 y4;obtain⟨pa0,pa1,-⟩:=(zxb HX0 Bz).cz;obtain⟨pb0,pb1,-⟩:=(zxb HX1 Bz).cz;obtain⟨pe0,pe1,-⟩:=(zxb HX4 Bz).cz;obtain⟨pf0,pf1,-⟩:=(zxb HX5 Bz).cz;obtain⟨y5,ff0,ff1,-⟩:=(zxb HX5 Bz).fz;go_wp2_with fail
     (try simp only[vAa,vBa,vC])
     refine zl (zz [0,1,2] (.only 3 (.only 4 (.only 5 .done)))) [5] (zsa pa0 (zsa pa1 (zsa pb0 (zsa pb1 (zsa pe0 (zIa pe1)))))) ?_;iterate 3 (refine zUa ?_;try simp only[Act.put,uX,uY,uZ])
     refine zC 50 rfl rfl (fun K hK=>?_);go_simp
     with_reducible refine(mulq (I.below h4.i) (I.below h') zo zo).mono ?_
     rintro e w5 ⟨s5,A5,c5,l5,rfl,h5,m5,b5⟩;replace b5:=zq (a:=V1) b5;replace h:=h.below b5;replace h':=h'.below b5;replace h4:=h4.below b5;replace Bz:=bT Bz b5;clear b5;clear pa0 pa1 pb0 pb1 pe0 pe1 pf0 pf1 ff0 ff1 y5;obtain⟨pa0,pa1,-⟩:=(zxb HX0 Bz).cz;obtain⟨pb0,pb1,-⟩:=(zxb HX1 Bz).cz;obtain⟨pe0,pe1,-⟩:=(zxb HX4 Bz).cz;obtain⟨pf0,pf1,-⟩:=(zxb HX5 Bz).cz;obtain⟨y5,ff0,ff1,-⟩:=(zxb HX5 Bz).fz;refine hK.out _ _ ⟨pa0,pa1,pb0,pb1,pe0,pe1⟩ (fun _=>?_);try simp only[Act.put,uX,uY,uZ]
     clear hK K;refine zC 51 rfl rfl (fun K hK=>?_);go_simp
     with_reducible refine(subq (I.below h) (I.below h5.i) zo zo).mono ?_
     rintro e w6 ⟨s6,A6,c6,l6,rfl,h6,m6,b6⟩;replace b6:=zq (a:=w5) b6;replace h:=h.below b6;replace h':=h'.below b6;replace h4:=h4.below b6;replace Bz:=bT Bz b6;clear b6;clear pa0 pa1 pb0 pb1 pe0 pe1 pf0 pf1 ff0 ff1 y5;obtain⟨pa0,pa1,-⟩:=(zxb HX0 Bz).cz;obtain⟨pb0,pb1,-⟩:=(zxb HX1 Bz).cz;obtain⟨pe0,pe1,-⟩:=(zxb HX4 Bz).cz;obtain⟨pf0,pf1,-⟩:=(zxb HX5 Bz).cz;obtain⟨y5,ff0,ff1,-⟩:=(zxb HX5 Bz).fz;refine hK.out _ _ ⟨pa0,pa1,pb0,pb1,pe0,pe1⟩ (fun _=>?_);try simp only[Act.put,uX,uY,uZ]
     clear hK K;refine zAc (o:=⟨none,_,_,_,_,_⟩) rfl rfl zd (fun K hK=>?_);go_simp
     refine hK.out _ _ ?_;try simp only[Act.put,uX,uY,uZ]
     clear hK K;refine zAa ?_;obtain⟨V2,hW,x,kk,far,bel⟩:=zAk (.bool s6) (.slice A6 l6 c6) (zxb HX5 Bz) nofun nofun;rw[←hW];clear hW;replace h:=h.k kk;replace h':=h'.k kk;replace h4:=h4.k kk;replace h6:=h6.k kk;replace hB:=bel w.heap.size w zo (bT hB Bz);replace HX0:=zf far HX0 Bz;replace HX1:=zf far HX1 Bz;replace HX2:=zf far HX2 Bz;replace HX3:=zf far HX3 Bz;replace HX4:=zf far HX4 Bz;replace HX5:=zh x;clear x kk far bel Bz;have Bz:=zr V2;clear pa0 pa1 pb0 pb1 pe0 pe1 pf0 pf1 ff0 ff1 y5;go_wp2_with fail
     have hst:DSt w V2 b b' A A' c c' l l' z z' b8 b9 ((z'.natAbs:Int)-(z-(q+1)*z')).toNat :=
      ⟨q+1,z-(q+1)*z',s4,A4,c4,l4,s6,A6,c6,l6,HX4.out.below Bz,HX5.out.below Bz,(J.below h4),(J.below h6),zo,by rw[step_neg HQR.out];omega,by rw[step_neg HQR.out];omega,zo,fun h0=>by rw[step_neg HQR.out] at h0;omega,zo,HX0.out.below Bz,HX1.out.below Bz,HX2.out.below Bz,HX3.out.below Bz,(I.below h),(I.below h'),bT hB Bz,rfl⟩
     have HST:=zh hst;have hlt:((z'.natAbs:Int)-(z-(q+1)*z')).toNat<gk:=by rw[←HN.out,step_neg HQR.out];omega
     clear hst;go_wp2_with fail
     go_roundg ((z'.natAbs:Int)-(z-(q+1)*z')).toNat
     case measure=>exact hlt
     case rel=>exact HST.out
   ·have g1:decide (tr<0)=false:=by
     rw[←HTR.out];rcases Int.lt_or_eq_of_le (Int.not_lt.1 hr) with h1 | h1
     ·rw[qD h1];rfl
     ·rw[←h1];rfl
    have Bz:=zr wr;obtain⟨pf0,pf1,-⟩:=(zxb HX5 Bz).cz;go_wp2_with fail
    with_reducible refine(sign_r (I.below j9.i) zo tr HTR.out).mono ?_
    rintro e w1 ⟨rfl,b1⟩;replace b1:=zq (a:=wr) b1;replace j8:=j8.below b1;replace j9:=j9.below b1;replace Bz:=bT Bz b1;clear b1;clear pf0 pf1;obtain⟨pc0,pc1,-⟩:=(zxb HX2 Bz).cz;obtain⟨y2,fc0,fc1,-⟩:=(zxb HX2 Bz).fz;obtain⟨pd0,pd1,-⟩:=(zxb HX3 Bz).cz;obtain⟨y3,fd0,fd1,-⟩:=(zxb HX3 Bz).fz;obtain⟨pe0,pe1,-⟩:=(zxb HX4 Bz).cz;obtain⟨pf0,pf1,-⟩:=(zxb HX5 Bz).cz;go_wp2_with fail
    (try simp only[vAa,vBa,vC])
    refine zl (zz [0,1] (.only 2 (.only 3 .done))) [3] (zsa pe0 (zsa pe1 (zsa pf0 (zIa pf1)))) ?_;iterate 2 (refine zUa ?_;try simp only[Act.put,uX,uY,uZ])
    refine wpPlan_call (o:=⟨none,_,_,_,_,_⟩) rfl rfl (fun K hK=>?_);go_simp
    refine hK.out _ _ ⟨(zAf zo).trans pe0,(zAf zo).trans pe1,(zAf zo).trans pf0,(zAf zo).trans pf1⟩ (fun _=>?_);try simp only[Act.put,uX,uY,uZ]
    clear hK K;refine zAc (o:=⟨none,_,_,_,_,_⟩) rfl rfl zd (fun K hK=>?_);go_simp
    refine hK.out _ _ ?_;try simp only[Act.put,uX,uY,uZ]
    clear hK K;refine zAa ?_;go_wp2_with fail
    have qc0:w1.cell? ⟨w.heap.size+2,0,none⟩=some (.bool false):=pc0;have qc1:w1.cell? ⟨w.heap.size+2,1,none⟩=some (.slice none 0 0):=pc1;have qd0:w1.cell? ⟨w.heap.size+3,0,none⟩=some (.bool false):=pd0;have qd1:w1.cell? ⟨w.heap.size+3,1,none⟩=some (.slice none 0 0):=pd1;(try simp only[Exit.inBlock,Exit.then])
    refine bodyPost_ret (by simp[results,Tryz.results155,go_sem,qc0,qc1,qd0,qd1];try rfl) rfl ?_;obtain⟨V1,hW,x,kk,far,bel⟩:=zAk (.bool s8) (.slice A8 l8 c8) (zxb HX2 Bz) nofun nofun;rw[←hW];clear hW;replace j8:=j8.k kk;replace j9:=j9.k kk;replace hB:=bel w.heap.size w zo (bT hB Bz);replace HX0:=zf far HX0 Bz;replace HX1:=zf far HX1 Bz;replace HX3:=zf far HX3 Bz;replace HX4:=zf far HX4 Bz;replace HX5:=zf far HX5 Bz;replace HX2:=zh x;clear x kk far bel Bz;have Bz:=zr V1;obtain⟨V2,hW,x,kk,far,bel⟩:=zAk (.bool s9) (.slice A9 l9 c9) (zxb HX3 Bz) nofun nofun;rw[←hW];clear hW;replace j8:=j8.k kk;replace j9:=j9.k kk;replace hB:=bel w.heap.size w zo (bT hB Bz);replace HX0:=zf far HX0 Bz;replace HX1:=zf far HX1 Bz;replace HX2:=zf far HX2 Bz;replace HX4:=zf far HX4 Bz;replace HX5:=zf far HX5 Bz;replace HX3:=zh x;clear x kk far bel Bz;have Bz:=zr V2;have hF:=bT (c:=V2) hB Bz;obtain⟨e1,e2⟩:=divmod_one HQR.out zo hr2;exact⟨s8,A8,c8,l8,s9,A9,c9,l9,rfl,by rw[e1];exact(J.below j8),by rw[e2];exact(J.below j9),zo,zo,bT hF⟩
end
end Go.Proofs.YteggjbgbknkoiaaGreatDoor
