import Derived.Test.YtiondclbdgijbaaGreatDoorYHd21
import Derived.Test.YtiondclbdgijbaaGreatDoorYHd20
set_option maxHeartbeats 16000000
set_option maxRecDepth 100000
namespace Go.Proofs.YtiondclbdgijbaaGreatDoor
open Go.RowKit Tw
theorem wsum_few {L:List Tm} (a:Int) (h:∀t∈L,dgT t≤2):wsum L a≤4*L.length:=by
 induction L with
 | nil=>exact uA _
 | cons x L ih =>
  have h1:=ih fun t ht=>h t (jB _ ht);have h2:=h x kB;unfold wsum
  rw[cC];split<;>omega
theorem row_gv {w:World} {v:Vc} (h:Sl Tm.cs 5 w v.A v.n v.c v.L) (hf:∀t∈v.L,FrOk w 2 t.x) (hn:v.n≤20) (hc:v.A=none→v.c=0):GV w v.A v.n v.c (prs v.L) 160 :=
 ⟨v.L,h,fun t ht=>(hf t ht).rep,rfl,fun a=>wA (wsum_few a fun t ht=>by have:=(hf t ht).1.len;unfold dgT;omega) (zi h.1),hc⟩
theorem sm_mk {y:Ly} {n u t:Int} (hb:convF y n=some (u,t)) (hn:n≤256) (hu:u≤256) (hp:y.pad≤256) (hk:y.kn≤40):SmOk y:=by
 obtain⟨s,p0,p1,p2,hn2,h0,w0,hk2,hb2,_,_,_,_,hu2,_⟩:=conv_some hb;unfold sides at s
 simp only[List.all_cons,List.all_nil,dB,wB,Bool.and_true] at s
 have st:1≤y.st:=zo;refine⟨⟨zo,⟨p0,hp⟩,hk2,hk,zo⟩,⟨h0,w0⟩,hb2,?_⟩;have h1:=nums_units (y:=y) zo (nF h0 zo) (nF w0 zo);omega
theorem lwin_mk {w:World} {y:Ly} (h:LyIn w y) (k:GLy y) {n u t:Int} (hb:zAc y n=some (u,t)) (hn:n≤256) (hu:u≤256):LwIn w y:=by
 refine⟨h.few k,⟨n,u,t,hb⟩,fun hk=>?_,fun hk v hv=>?_⟩
 ·unfold zAc at hb
  rw[dA zo,bB hk] at hb;have:=k.ints;have:=k.len;exact sm_mk hb hn hu zo zo
 ·have h1:=h.rok v hv;have h2:=k.rows v hv;exact⟨row_gv h1.2.1 (fun t ht=>(h1.2.2.1 t ht).1.few (h2.2 t ht)) h2.1 h1.2.2.2,by have:=h2.1;omega⟩
theorem toNat_sum {l:List Int} (h:∀x∈l,0≤x):(((l.map Int.toNat).sum:Nat):Int)=l.sum:=by
 induction l with
 | nil=>rfl
 | cons x l ih =>
  have h1:=ih fun t ht=>h t (jB _ ht);have h2:=h x kB;rw[fG,List.sum_cons,List.sum_cons];omega
theorem great_in {w:World} {inp:Int} {n:Nat} {L:List Ly} {l:List Int} (hin:∀y∈L,LyIn w y) (h:GNet inp n L) (hn:L.length=n) (hz:sizesF inp L=.ok l):(∀y∈L,LyOk w 2 y)∧(∀y∈L,LwIn w y)∧L.length≤8∧(l.map Int.toNat).sum≤60:=by
 have hok:∀y∈L,LyOk w 2 y:=fun y hy=>(hin y hy).few (h.2.2.1 y hy);have hs:=sizes_steps hz;have hp:=steps_pos hok hs.2.2.2 hs.1 zo;have hsum:=toNat_sum (l:=l) fun x hx=>by have:=hp x hx;omega
 have h60:=h.2.2.2 l hz;refine⟨hok,fun y hy=>?_,by have:=h.1;omega,zo⟩;obtain⟨i,hi⟩:=nE hy;obtain⟨a,b,t,h1,h2,h3,h4⟩:=steps_get hs.2.2.2 hi;have a1:=hp a (eA h1);exact lwin_mk (hin y hy) (h.2.2.1 y hy) h3 zo h4
theorem Sl.lit {α:Type} {f:α→List Value} {k:Nat} {w:World} {b:Nat} {cs:Array Value} {te:TypeId} {L:List α} {n:Nat} (h:Bx w b cs te) (hcs:cs.toList=flat f L) (hl:L.length=n) (hk:∀x,(f x).length=k):Sl f k w (some ⟨b,0,none⟩) n n L:=by
 subst hl;refine⟨rfl,by rw[flat_len hk],_,_,rfl,(fun h=>(by cases h)),fun a ha j u hu=>?_⟩;cases ha;rw[add_off,mC];refine h.cell j u ?_;rw[←hcs] at hu;simpa using hu
def plV:List Lv:=[⟨1,[[(0,qof 1 1),(1,qof (-2) 1)],[(1,qof 2 1)]],[qof 1 1,qof 1 1],[]⟩,⟨3,[],[],[]⟩,⟨4,[],[],[[0,1]]⟩]
def plL (rA:Option Addr) (v1 v2:Vc) (bA:Option Addr) (bc:Nat) (o1 o2:Fr) (gA:Option Addr) (gp:Gp):List Ly :=
 [⟨1,rA,2,2,[v1,v2],bA,2,bc,[o1,o2],0,0,0,0,0,0,0,0,none,0,0,[],none,0,0,[]⟩,⟨3,none,0,0,[],none,0,0,[],0,0,0,0,0,0,0,0,none,0,0,[],none,0,0,[]⟩,⟨4,none,0,0,[],none,0,0,[],0,0,0,0,0,0,0,0,none,0,0,[],gA,1,1,[gp]⟩]
def TellsPl (w:World) (e:Ending) (w':World):Prop:=∃A c L,e=.returned (.agg #[.int .i64 2,.slice A 3 c])∧Sl Ly.cs 13 w' A 3 c L∧(∀y∈L,LyOk w' 2 y)∧(∀y∈L,LwIn w' y)∧sizesF 2 L=.ok [2,2,2,1]∧L.map valL=plV∧Below w.heap.size w w'
theorem pl_tells {w w':World} {A rA bA gA:Option Addr} {c bc:Nat} {v1 v2:Vc} {o1 o2 f1 f2 f3:Fr} {gp:Gp} (hs:Sl Ly.cs 13 w' A 3 c (plL rA v1 v2 bA bc o1 o2 gA gp)) (hr:Sl Vc.cs 1 w' rA 2 2 [v1,v2]) (h1:Sl Tm.cs 5 w' v1.A v1.n v1.c v1.L) (h2:Sl Tm.cs 5 w' v2.A v2.n v2.c v2.L) (hb:Sl Fr.cs 4 w' bA 2 bc [o1,o2]) (hg:Sl Gp.cs 1 w' gA 1 1 [gp]) (hp:Sl ics 1 w' gp.A gp.n gp.c gp.L)
  (e1:v1.L=[⟨0,f1⟩,⟨1,f2⟩]) (e2:v2.L=[⟨1,f3⟩]) (e3:gp.L=[0,1]) (n1:v1.n=2) (n2:v2.n=1) (n3:gp.n=2) (a1:v1.A≠none) (a2:v2.A≠none) (k1:FrOk w' 2 f1∧f1.ex=true∧f1.q=qof 1 1) (k2:FrOk w' 2 f2∧f2.ex=true∧f2.q=qof (-2) 1) (k3:FrOk w' 2 f3∧f3.ex=true∧f3.q=qof 2 1) (k4:FrOk w' 2 o1∧o1.ex=true∧o1.q=qof 1 1) (k5:FrOk w' 2 o2∧o2.ex=true∧o2.q=qof 1 1) (hB:Below w.heap.size w w') :
  TellsPl w (.returned (.agg #[.int .i64 2,.slice A 3 c])) w':=by
 have hf1:∀t∈v1.L,FrOk w' 2 t.x:=fun t ht=>by rw[e1] at ht;rcases rB.1 ht with rfl | ht;exact k1.1;obtain rfl:=uC.1 ht;exact k2.1
 have hf2:∀t∈v2.L,FrOk w' 2 t.x:=fun t ht=>by rw[e2] at ht;obtain rfl:=uC.1 ht;exact k3.1
 have hb1:zAc ⟨1,rA,2,2,[v1,v2],bA,2,bc,[o1,o2],0,0,0,0,0,0,0,0,none,0,0,[],none,0,0,[]⟩ 2=some (2,3):=by
  have z1:qof 1 1≠0:=by decide
  have z2:qof (-2) 1≠0:=by decide
  have z3:qof 2 1≠0:=by decide
  have r1:rightB v1.L 2=true:=by
   rw[e1];simp only[rightB,cC,List.length_nil,sB,zD]
   intro x hx;match x,hx with
   | 0,_=>simp[rightAt,k1.2,z1]
   | 1,_=>simp[rightAt,k2.2,z2]
  have r2:rightB v2.L 2=true:=by
   rw[e2];simp only[rightB,cC,List.length_nil,sB,zD]
   intro x hx;match x,hx with
   | 0,_=>simp[rightAt,k3.2,z3]
  simp[zAc,zAg,plainB,nums,r1,r2,lens,n1,n2,k4.2.1,k5.2.1]
 have hb2:zAc ⟨3,none,0,0,[],none,0,0,[],0,0,0,0,0,0,0,0,none,0,0,[],none,0,0,[]⟩ 2=some (2,0):=by simp[zAc,reluB,plainB,nums]
 have hb3:zAc ⟨4,none,0,0,[],none,0,0,[],0,0,0,0,0,0,0,0,none,0,0,[],gA,1,1,[gp]⟩ 2=some (1,2):=by
  have r3:groupB 2 gp=true:=by unfold groupB;rw[n3,e3];rfl
  simp[zAc,poolF,plainB,nums,r3,glens,n3]
 have hok:∀y∈plL rA v1 v2 bA bc o1 o2 gA gp,LyOk w' 2 y:=fun y hy=>by
  unfold plL at hy
  simp only[rB,rF,or_false] at hy
  rcases hy with rfl | rfl | rfl
  ·refine⟨hr,fun v hv=>?_,hb,fun x hx=>?_,Sl.nil _,fun x hx=>(by cases hx),Sl.nil _,fun x hx=>(by cases hx),⟨by simp,by simp,by simp,by simp⟩⟩
   ·simp only[rB,rF,or_false] at hv
    rcases hv with rfl | rfl
    ·exact⟨h1,hf1,zo⟩
    ·exact⟨h2,hf2,zo⟩
   ·simp only[rB,rF,or_false] at hx
    rcases hx with rfl | rfl
    ·exact k4.1
    ·exact k5.1
  ·exact⟨Sl.nil _,fun x hx=>(by cases hx),Sl.nil _,fun x hx=>(by cases hx),Sl.nil _,fun x hx=>(by cases hx),Sl.nil _,fun x hx=>(by cases hx),⟨by simp,by simp,by simp,by simp⟩⟩
  ·exact⟨Sl.nil _,fun x hx=>(by cases hx),Sl.nil _,fun x hx=>(by cases hx),Sl.nil _,fun x hx=>(by cases hx),hg,fun x hx=>(by obtain rfl:=uC.1 hx;exact⟨hp,zo⟩),⟨by simp,by simp,by simp,by simp⟩⟩
 refine⟨A,c,_,rfl,hs,hok,fun y hy=>?_,?_,?_,hB⟩
 ·have ok:=hok y hy;unfold plL at hy
  simp only[rB,rF,or_false] at hy
  rcases hy with rfl | rfl | rfl
  ·refine⟨ok,⟨_,_,_,hb1⟩,fun h=>(by cases h),fun _ v hv=>?_⟩;simp only[rB,rF,or_false] at hv
   rcases hv with rfl | rfl
   ·exact⟨row_gv h1 hf1 zo fun h=>absurd h a1,zo⟩
   ·exact⟨row_gv h2 hf2 zo fun h=>absurd h a2,zo⟩
  ·exact⟨ok,⟨_,_,_,hb2⟩,fun h=>(by cases h),fun _ v hv=>(by cases hv)⟩
  ·exact⟨ok,⟨_,_,_,hb3⟩,fun h=>(by cases h),fun _ v hv=>(by cases hv)⟩
 ·unfold plL sizesF
  simp only[stepsF,hb1,hb2,hb3,cC,List.length_nil]
  rfl
 ·unfold plL plV
  simp[valL,prs,e1,e2,e3,k1.2.2,k2.2.2,k3.2.2,k4.2.2,k5.2.2]
theorem two_of {O:List Fr} {a b:Rat} (h:(O.map fun x=>x.q)=[a,b]):∃o1 o2,O=[o1,o2]∧o1.q=a∧o2.q=b:=by
 match O,h with
 | [o1,o2],h=>simp at h;exact⟨o1,o2,rfl,h.1,h.2⟩
theorem plain20_q {w:World} (hT:Hid (Tab w)):Calls Tryz.prog 16 #[] w (TellsPl w):=by
 obtain⟨W,hW,x0,hB⟩:=zAb w #[.int .i64 0,.slice none 0 0] 24;have HX0:=zh x0;clear x0;have Bz:=zr W;go_enter Tryz.func16,Tryz.ntmps16
 go_upto_region 1 with(fail)
 rw[←hW];clear hW;go_wp2_with fail
 with_reducible refine(num20_q 1 zo (zt hT hB Bz)).mono ?_
 rintro e w1 ⟨s1,A1,c1,l1,s1r,A1r,c1r,l1r,rfl,h1,q⟩;replace q:=zq (a:=W) q;replace Bz:=bT Bz q;clear q;go_wp2_with fail
 with_reducible refine(num20_q (-2) zo (zt hT hB Bz)).mono ?_
 rintro e w2 ⟨s2,A2,c2,l2,s2r,A2r,c2r,l2r,rfl,h2,q⟩;replace q:=zq (a:=w1) q;replace h1:=h1.below q;replace Bz:=bT Bz q;clear q;go_wp2_with fail
 obtain⟨V1,hW,x1,hN⟩:=zAb w2 #[.int .i64 0,.bool s1,.slice A1 l1 c1,.bool s1r,.slice A1r l1r c1r,.int .i64 1,.bool s2,.slice A2 l2 c2,.bool s2r,.slice A2r l2r c2r] 60;rw[←hW];clear hW;obtain⟨v1,hb1⟩:=ze w2.heap.size;rw[←hb1] at x1 ⊢;have o0_1:w.heap.size<v1:=zi (zx HX0 Bz).lt;have ow_1:w.heap.size≤v1:=zi (zw hB Bz);replace h1:=h1.below hN;replace h2:=h2.below hN;replace hB:=bT (bT hB Bz) hN;replace HX0:=zba HX0 Bz hN;have HX1:=zh x1;clear x1 hN Bz hb1;have Bz:=zr V1;with_reducible refine(num20_q 2 zo (zt hT hB Bz)).mono ?_
 rintro e w3 ⟨s3,A3,c3,l3,s3r,A3r,c3r,l3r,rfl,h3,q⟩;replace q:=zq (a:=V1) q;replace h1:=h1.below q;replace h2:=h2.below q;replace Bz:=bT Bz q;clear q;go_wp2_with fail
 obtain⟨V2,hW,x2,hN⟩:=zAb w3 #[.int .i64 1,.bool s3,.slice A3 l3 c3,.bool s3r,.slice A3r l3r c3r] 60;have hs2:V2.heap.size=w3.heap.size+1:=by rw[hW];simp
 rw[←hW];clear hW;obtain⟨v2,hb2⟩:=ze w3.heap.size;rw[←hb2] at x2 hs2 ⊢;have o0_2:w.heap.size<v2:=zi (zx HX0 Bz).lt;have o1_2:v1<v2:=zi (zx HX1 Bz).lt;have ow_2:w.heap.size≤v2:=zi (zw hB Bz);replace h1:=h1.below hN;replace h2:=h2.below hN;replace h3:=h3.below hN;replace hB:=bT (bT hB Bz) hN;replace HX0:=zba HX0 Bz hN;replace HX1:=zba HX1 Bz hN;have HX2:=zh x2;clear x2 hN Bz hb2;have Bz:=zr V2;obtain⟨V3,hW,x3,hN⟩:=zAb V2 #[.slice (some ⟨v1,0,none⟩) 2 2,.slice (some ⟨v2,0,none⟩) 1 1] 57;have hs3:V3.heap.size=V2.heap.size+1:=by rw[hW];simp
 rw[←hW];clear hW;rw[hs2] at x3 hs3;obtain⟨v3,hb3⟩:=ze (v2+1);rw[←hb3] at x3 hs3  ⊢;have o0_3:w.heap.size<v3:=zi (zx HX0 Bz).lt;have o1_3:v1<v3:=zi (zx HX1 Bz).lt;have o2_3:v2<v3:=zi (zx HX2 Bz).lt;have ow_3:w.heap.size≤v3:=zi (zw hB Bz);replace h1:=h1.below hN;replace h2:=h2.below hN;replace h3:=h3.below hN;replace hB:=bT (bT hB Bz) hN;replace HX0:=zba HX0 Bz hN;replace HX1:=zba HX1 Bz hN;replace HX2:=zba HX2 Bz hN;have HX3:=zh x3;clear x3 hN Bz hb3;have Bz:=zr V3;clear hs2;obtain⟨V4,hW,x4,hN⟩:=zAb V3 #[.int .i64 1,.int .i64 1] 2;have hs4:V4.heap.size=V3.heap.size+1:=by rw[hW];simp
 rw[←hW];clear hW;rw[hs3] at x4 hs4;obtain⟨v4,hb4⟩:=ze (v3+1);rw[←hb4] at x4 hs4  ⊢;have o0_4:w.heap.size<v4:=zi (zx HX0 Bz).lt;have o1_4:v1<v4:=zi (zx HX1 Bz).lt;have o2_4:v2<v4:=zi (zx HX2 Bz).lt;have o3_4:v3<v4:=zi (zx HX3 Bz).lt;have ow_4:w.heap.size≤v4:=zi (zw hB Bz);replace h1:=h1.below hN;replace h2:=h2.below hN;replace h3:=h3.below hN;replace hB:=bT (bT hB Bz) hN;replace HX0:=zba HX0 Bz hN;replace HX1:=zba HX1 Bz hN;replace HX2:=zba HX2 Bz hN;replace HX3:=zba HX3 Bz hN;have HX4:=zh x4;clear x4 hN Bz hb4;have Bz:=zr V4;clear hs3;with_reducible refine(nums20_q (n:=2) (L:=[1,1]) (Sl.lit (HX4.out.below (bT Bz)) rfl rfl ics_len) (zh (by simp)) zo (zt hT hB Bz)).mono ?_
 rintro e w4 ⟨H4,c4,O4,rfl,h4,q4,q⟩;replace q:=zq (a:=V4) q;replace h1:=h1.below q;replace h2:=h2.below q;replace h3:=h3.below q;replace Bz:=bT Bz q;clear q;obtain⟨pa0,pa1,-⟩:=(zx HX0 Bz).cz;obtain⟨y0,fa0,fa1,-⟩:=(zx HX0 Bz).fz;have c0:∀a b c,(((w4.alloc a).alloc b).alloc c).cell? ⟨w.heap.size,0,none⟩=some (.int .i64 0):=fun a b c=>zAa (zAa (zAa pa0));have d0:∀a b c,(((w4.alloc a).alloc b).alloc c).frozen? ⟨w.heap.size,0,none⟩=false:=fun a b c=>(HX0.out.below (bT Bz (show Below w4.heap.size w4 (((w4.alloc a).alloc b).alloc c) from by go_grown))).frozen 0;have c1:∀a b c,(((w4.alloc a).alloc b).alloc c).cell? ⟨w.heap.size,1,none⟩=some (.slice none 0 0):=fun a b c=>zAa (zAa (zAa pa1));have d1:∀a b c,(((w4.alloc a).alloc b).alloc c).frozen? ⟨w.heap.size,1,none⟩=false:=fun a b c=>(HX0.out.below (bT Bz (show Below w4.heap.size w4 (((w4.alloc a).alloc b).alloc c) from by go_grown))).frozen 1;go_wp2_with fail
 clear c0 c1 d0 d1;obtain⟨V5,hW,x5,hN⟩:=zAb w4 #[.int .i64 0,.int .i64 1] 3;have hs5:V5.heap.size=w4.heap.size+1:=by rw[hW];simp
 rw[←hW];clear hW;obtain⟨v5,hb5⟩:=ze w4.heap.size;rw[←hb5] at x5 hs5 ⊢;have o0_5:w.heap.size<v5:=zi (zx HX0 Bz).lt;have o1_5:v1<v5:=zi (zx HX1 Bz).lt;have o2_5:v2<v5:=zi (zx HX2 Bz).lt;have o3_5:v3<v5:=zi (zx HX3 Bz).lt;have o4_5:v4<v5:=zi (zx HX4 Bz).lt;have ow_5:w.heap.size≤v5:=zi (zw hB Bz);replace h1:=h1.below hN;replace h2:=h2.below hN;replace h3:=h3.below hN;replace h4:=h4.below hN;replace hB:=bT (bT hB Bz) hN;replace HX0:=zba HX0 Bz hN;replace HX1:=zba HX1 Bz hN;replace HX2:=zba HX2 Bz hN;replace HX3:=zba HX3 Bz hN;replace HX4:=zba HX4 Bz hN;have HX5:=zh x5;clear x5 hN Bz hb5;have Bz:=zr V5;clear pa0 pa1 fa0 fa1 y0;obtain⟨V6,hW,x6,hN⟩:=zAb V5 #[.slice (some ⟨v5,0,none⟩) 2 2] 27;have hs6:V6.heap.size=V5.heap.size+1:=by rw[hW];simp
 rw[←hW];clear hW;rw[hs5] at x6 hs6;obtain⟨v6,hb6⟩:=ze (v5+1);rw[←hb6] at x6 hs6  ⊢;have o0_6:w.heap.size<v6:=zi (zx HX0 Bz).lt;have o1_6:v1<v6:=zi (zx HX1 Bz).lt;have o2_6:v2<v6:=zi (zx HX2 Bz).lt;have o3_6:v3<v6:=zi (zx HX3 Bz).lt;have o4_6:v4<v6:=zi (zx HX4 Bz).lt;have o5_6:v5<v6:=zi (zx HX5 Bz).lt;have ow_6:w.heap.size≤v6:=zi (zw hB Bz);replace h1:=h1.below hN;replace h2:=h2.below hN;replace h3:=h3.below hN;replace h4:=h4.below hN;replace hB:=bT (bT hB Bz) hN;replace HX0:=zba HX0 Bz hN;replace HX1:=zba HX1 Bz hN;replace HX2:=zba HX2 Bz hN;replace HX3:=zba HX3 Bz hN;replace HX4:=zba HX4 Bz hN;replace HX5:=zba HX5 Bz hN;have HX6:=zh x6;clear x6 hN Bz hb6;have Bz:=zr V6;clear hs5;obtain⟨V7,hW,x7,hN⟩:=zAb V6 #[.int .u8 1,.slice (some ⟨v3,0,none⟩) 2 2,.slice H4 2 c4,.int .i64 0,.int .i64 0,.int .i64 0,.int .i64 0,.int .i64 0,.int .i64 0,.int .i64 0,.int .i64 0,.slice none 0 0,.slice none 0 0,.int .u8 3,.slice none 0 0,.slice none 0 0,.int .i64 0,.int .i64 0,.int .i64 0,.int .i64 0,.int .i64 0,.int .i64 0,.int .i64 0,.int .i64 0,.slice none 0 0,.slice none 0 0,.int .u8 4,.slice none 0 0,.slice none 0 0,.int .i64 0,.int .i64 0,.int .i64 0,.int .i64 0,.int .i64 0,.int .i64 0,.int .i64 0,.int .i64 0,.slice none 0 0,.slice (some ⟨v6,0,none⟩) 1 1] 55;have hs7:V7.heap.size=V6.heap.size+1:=by rw[hW];simp
 rw[←hW];clear hW;rw[hs6] at x7 hs7;obtain⟨v7,hb7⟩:=ze (v6+1);rw[←hb7] at x7 hs7  ⊢;have o0_7:w.heap.size<v7:=zi (zx HX0 Bz).lt;have o1_7:v1<v7:=zi (zx HX1 Bz).lt;have o2_7:v2<v7:=zi (zx HX2 Bz).lt;have o3_7:v3<v7:=zi (zx HX3 Bz).lt;have o4_7:v4<v7:=zi (zx HX4 Bz).lt;have o5_7:v5<v7:=zi (zx HX5 Bz).lt;have o6_7:v6<v7:=zi (zx HX6 Bz).lt;have ow_7:w.heap.size≤v7:=zi (zw hB Bz);replace h1:=h1.below hN;replace h2:=h2.below hN;replace h3:=h3.below hN;replace h4:=h4.below hN;replace hB:=bT (bT hB Bz) hN;replace HX0:=zba HX0 Bz hN;replace HX1:=zba HX1 Bz hN;replace HX2:=zba HX2 Bz hN;replace HX3:=zba HX3 Bz hN;replace HX4:=zba HX4 Bz hN;replace HX5:=zba HX5 Bz hN;replace HX6:=zba HX6 Bz hN;have HX7:=zh x7;clear x7 hN Bz hb7;have Bz:=zr V7;clear hs6;obtain⟨V8,hW,x,kk,far,bel⟩:=store2 (.int .i64 2) (.slice (some ⟨v7,0,none⟩) 3 3) (zx HX0 Bz) nofun nofun;have hoff:∀(k j:Nat),k≠w.heap.size→V8.cell? ⟨k,j,none⟩=V7.cell? ⟨k,j,none⟩:=fun k j hk=>by rw[hW];exact cell_off (Ne.symm hk)
 rw[←hW];clear hW;replace h1:=h1.k kk;replace h2:=h2.k kk;replace h3:=h3.k kk;replace h4:=h4.off hoff kk (bel 0 _ (uA _) (Below.refl 0 _)).size (.inl zo);replace hB:=bel w.heap.size w zo (bT hB Bz);replace HX1:=zf far HX1 Bz;replace HX2:=zf far HX2 Bz;replace HX3:=zf far HX3 Bz;replace HX4:=zf far HX4 Bz;replace HX5:=zf far HX5 Bz;replace HX6:=zf far HX6 Bz;replace HX7:=zf far HX7 Bz;replace HX0:=zh x;clear x kk far bel Bz hoff;have Bz:=zr V8;obtain⟨pa0,pa1,-⟩:=(zx HX0 Bz).cz;obtain⟨y0,fa0,fa1,-⟩:=(zx HX0 Bz).fz;(try simp only[Exit.inBlock,Exit.then])
 refine bodyPost_ret (by simp[results,Tryz.results16,go_sem,pa0,pa1];try rfl) rfl ?_;have hF:=bT (c:=V8) hB Bz;obtain⟨o1,o2,rfl,e4,e5⟩:=two_of q4;have h9:=h4.here;have F1:FrOk V8 2 ⟨s1,A1,c1,l1,s1r,A1r,c1r,l1r,qof 1 1,true⟩:=(h1.below (Below.refl _ _)).fr (wA (sz_one zd zd zd) zd);have F2:FrOk V8 2 ⟨s2,A2,c2,l2,s2r,A2r,c2r,l2r,qof (-2) 1,true⟩:=(h2.below (Below.refl _ _)).fr (wA (sz_one zd zd zd) zd);have F3:FrOk V8 2 ⟨s3,A3,c3,l3,s3r,A3r,c3r,l3r,qof 2 1,true⟩:=(h3.below (Below.refl _ _)).fr (wA (sz_one zd zd zd) zd);have a1:=h9.2 o1 kB;have a2:=h9.2 o2 (jB _ kB);exact pl_tells (v1:=⟨some ⟨v1,0,none⟩,2,2,[⟨0,⟨s1,A1,c1,l1,s1r,A1r,c1r,l1r,qof 1 1,true⟩⟩,⟨1,⟨s2,A2,c2,l2,s2r,A2r,c2r,l2r,qof (-2) 1,true⟩⟩]⟩) (v2:=⟨some ⟨v2,0,none⟩,1,1,[⟨1,⟨s3,A3,c3,l3,s3r,A3r,c3r,l3r,qof 2 1,true⟩⟩]⟩) (gp:=⟨some ⟨v5,0,none⟩,2,2,[0,1]⟩) (rA:=some ⟨v3,0,none⟩) (gA:=some ⟨v6,0,none⟩) (bA:=H4) (bc:=c4) (o1:=o1) (o2:=o2) (Sl.lit HX7.out rfl rfl Ly.cs_len) (Sl.lit HX3.out rfl rfl Vc.cs_len) (Sl.lit HX1.out rfl rfl Tm.cs_len) (Sl.lit HX2.out rfl rfl Tm.cs_len) h9.1 (Sl.lit HX6.out rfl rfl Gp.cs_len) (Sl.lit HX5.out rfl rfl ics_len) rfl rfl rfl rfl rfl rfl nofun nofun ⟨F1,rfl,rfl⟩ ⟨F2,rfl,rfl⟩ ⟨F3,rfl,rfl⟩ ⟨h9.2.frok zd o1 kB,a1.2.1,e4⟩ ⟨h9.2.frok zd o2 (jB _ kB),a2.2.1,e5⟩ hF
def SK1 (w:World) (C D:Array Value) (n gk:Nat) (s:Value) (wr:World):Prop:=∃i:Nat,i≤n∧n-i≤gk∧s=.int .i64 (i:Int)∧Bx wr w.heap.size C 45∧Bx wr (w.heap.size+1) D 45∧Below w.heap.size w wr
def SK2 (w:World) (n gk:Nat) (s:Value) (wr:World):Prop:=∃i:Nat,i≤n∧n-i≤gk∧s=.int .i64 (i:Int)∧Below w.heap.size w wr
theorem sameK {w:World} {b:Bool} {A A':Option Addr} {n c c':Nat} {xs:List Nat} (h:Nums w A c xs) (h':Nums w A' c' xs) (hl:xs.length=n) (hn:n≤800000000000) :
  Calls Tryz.prog 69 #[.agg #[.bool b,.slice A n c],.agg #[.bool b,.slice A' n c']] w fun e w'=>e=.returned (.bool true)∧Below w.heap.size w w':=by
 have H:=zh h;have H':=zh h';have HL:=zh hl;have g0:(b != b)=false:=by simp
 have g1:((n:Int) !=(n:Int))=false:=by simp
 clear h h' hl;obtain⟨W,hW,x0,x1,hB⟩:=zAh w #[.bool b,.slice A n c] 45 #[.bool b,.slice A' n c'] 45;have HX0:=zh x0;have HX1:=zh x1;clear x0 x1;have Bz:=zr W;obtain⟨pa0,pa1,-⟩:=(zx HX0 Bz).cz;obtain⟨pb0,pb1,-⟩:=(zx HX1 Bz).cz;go_enter Tryz.func69,Tryz.ntmps69
 go_wp2_with fail
 rw[←hW];clear hW;go_wp2_with fail
 have KX0:=zh (zx HX0 Bz);have KX1:=zh (zx HX1 Bz);have KB:=zh (bT hB Bz);clear HX0 HX1 hB Bz;go_loopg [5] n (fun gk s wr=>SK1 w #[.bool b,.slice A n c] #[.bool b,.slice A' n c'] n gk s wr)
 case atStart=>exact⟨0,uA _,aA _,rfl,KX0.out.below (by go_grown),KX1.out.below (by go_grown),bT KB.out⟩
 case round =>
  clear KX0 KX1 KB;obtain⟨i,hi,hgk,rfl,y0,y1,hB⟩:=hrel;have HGK:=zh hgk;clear hgk;by_cases hlt:i<n
  ·obtain⟨b1,o1,f1,e1⟩:=H.out.cells (by rw[HL.out];omega);obtain⟨b2,o2,f2,e2⟩:=H'.out.cells (by rw[HL.out];omega);replace e1:=e1 i (by rw[HL.out];exact hlt);replace e2:=e2 i (by rw[HL.out];exact hlt);obtain⟨d,hd⟩:∃d,d=dg xs i:=⟨_,rfl⟩;rw[←hd] at e1 e2;have g2:((d:Int) !=(d:Int))=false:=by simp
   have i1:(i:Int)<(n:Int):=zo;have i2:(0:Int)≤(i:Int):=zo;have HE1:Hid ((#[.bool b,.slice (some ⟨b1,o1,none⟩) n c]:Array Value)=#[.bool b,.slice A n c]):=zh (by rw[f1]);have HE2:Hid ((#[.bool b,.slice (some ⟨b2,o2,none⟩) n c']:Array Value)=#[.bool b,.slice A' n c']):=zh (by rw[f2]);have HX0:Hid (Bx wr w.heap.size #[.bool b,.slice (some ⟨b1,o1,none⟩) n c] 45):=zh (by rw[HE1.out];exact y0);have HX1:Hid (Bx wr (w.heap.size+1) #[.bool b,.slice (some ⟨b2,o2,none⟩) n c'] 45):=zh (by rw[HE2.out];exact y1);clear hd f1 f2 y0 y1;have Bz:=zr wr;have pa1:=(zx HX0 Bz).cell 1 (.slice (some ⟨b1,o1,none⟩) n c) rfl;have pb1:=(zx HX1 Bz).cell 1 (.slice (some ⟨b2,o2,none⟩) n c') rfl;have pB0:=((bT hB Bz).cell (World.block_lt_of_cell? w _ e1)).trans e1;have pC0:=((bT hB Bz).cell (World.block_lt_of_cell? w _ e2)).trans e2;go_wp2_with fail
   (try simp only[vAa,vBa,vC])
   refine zl (zz [0,1,2,3,4,5,6,7,8,9,10] .done) [] (zsa pa1 (zsa pb1 (zsa pB0 (zIa pC0)))) ?_;iterate 11 (refine zUa ?_;try simp only[uW,uX,uY,uZ])
   refine wpPlan_done ?_;go_wp2_with fail
   go_roundg (n-(i+1))
   case measure=>have:=HGK.out;omega
   case rel=>exact⟨i+1,zo,zo,by go_num,(by rw[←HE1.out];exact HX0.out.below (bT Bz)),(by rw[←HE2.out];exact HX1.out.below (bT Bz)),bT (bT hB Bz)⟩
  ·obtain rfl:n=i:=zo;have i1:¬(n:Int)<(n:Int):=zo;have HX0:=zh y0;have HX1:=zh y1;clear y0 y1;have Bz:=zr wr;have pa1:=(zx HX0 Bz).cell 1 (.slice A n c) rfl;go_wp2_with fail
   go_ret
   have hF:=bT (c:=wr) hB Bz;exact⟨rfl,bT hF⟩
theorem sameIntT {w:World} {b b':Bool} {A A':Option Addr} {c c' l l':Nat} {z:Int} (h:J w b A c l z) (h':J w b' A' c' l' z) (hl:l≤800000000000) :
  Calls Tryz.prog 69 #[.agg #[.bool b,.slice A l c],.agg #[.bool b',.slice A' l' c']] w fun e w'=>e=.returned (.bool true)∧Below w.heap.size w w':=by
 obtain rfl:b=b':=by rw[h.2,h'.2]
 obtain⟨h1,rfl⟩:=h.dx;obtain⟨h2,rfl⟩:=h'.dx;exact sameK h1 h2 rfl hl
theorem sameRatT {w:World} {x y:Fr} {q:Rat} (h:RN w x.s x.A x.c x.l x.s' x.A' x.c' x.l' q) (h':RN w y.s y.A y.c y.l y.s' y.A' y.c' y.l' q) (hl:x.l≤800000000000∧x.l'≤800000000000) :
  Calls Tryz.prog 36 #[.agg #[.bool x.s,.slice x.A x.l x.c,.bool x.s',.slice x.A' x.l' x.c'],.agg #[.bool y.s,.slice y.A y.l y.c,.bool y.s',.slice y.A' y.l' y.c']] w fun e w'=>e=.returned (.bool true)∧Below w.heap.size w w':=by
 have HX:=h.1;have HY:=h'.1;have HXD:=h.2;have HYD:=h'.2;clear h h';obtain⟨W,hW,x0,x1,hB⟩:=zAh w #[.bool x.s,.slice x.A x.l x.c,.bool x.s',.slice x.A' x.l' x.c'] 47 #[.bool y.s,.slice y.A y.l y.c,.bool y.s',.slice y.A' y.l' y.c'] 47;replace HX:=HX.below hB;replace HXD:=HXD.below hB;replace HY:=HY.below hB;replace HYD:=HYD.below hB;have HX0:=zh x0;have HX1:=zh x1;clear x0 x1;have Bz:=zr W;obtain⟨pa0,pa1,-⟩:=(zx HX0 Bz).cz;obtain⟨pb0,pb1,-⟩:=(zx HX1 Bz).cz;go_enter Tryz.func36,Tryz.ntmps36
 go_wp2_with fail
 rw[←hW];clear hW;go_wp2_with fail
 with_reducible refine(sameIntT (J.below HX) (J.below HY) zo).mono ?_
 rintro e w1 ⟨rfl,b⟩;replace b:=zq (a:=W) b;replace HXD:=HXD.below b;replace HYD:=HYD.below b;replace Bz:=bT Bz b;clear b;clear pa0 pa1 pb0 pb1;obtain⟨-,-,pa2,pa3,-⟩:=(zx HX0 Bz).cz;obtain⟨-,-,pb2,pb3,-⟩:=(zx HX1 Bz).cz;go_wp2_with fail
 with_reducible refine(sameIntT (J.below HXD) (J.below HYD) zo).mono ?_
 rintro e w2 ⟨rfl,b⟩;replace b:=zq (a:=w1) b;replace Bz:=bT Bz b;clear b;clear pa2 pa3 pb2 pb3;go_wp2_with fail
 go_ret
 have hF:=bT (c:=w2) hB Bz;exact⟨rfl,bT hF⟩
theorem sameRatsT {w:World} {A A':Option Addr} {n c c' K K':Nat} {L M:List Fr} (h:Sl Fr.cs 4 w A n c L) (h':Sl Fr.cs 4 w A' n c' M) (hx:Hid (AllRn w K L)) (hy:Hid (AllRn w K' M)) (hK:K≤800000000000) (hq:Hid ((L.map fun x=>x.q)=M.map fun x=>x.q)) (hn:n≤1000000) :
  Calls Tryz.prog 18 #[.slice A n c,.slice A' n c'] w fun e w'=>e=.returned (.bool true)∧Below w.heap.size w w':=by
 have HS:=zh h;have HS':=zh h';have HL:=zh h.1;have HL':=zh h'.1;have g0:((n:Int) !=(n:Int))=false:=by simp
 clear h h';go_enter Tryz.func18,Tryz.ntmps18
 go_wp2_with fail
 go_loopg [5] n (fun gk s wr=>SK2 w n gk s wr)
 case atStart=>exact⟨0,uA _,aA _,rfl,Below.refl _ _⟩
 case round =>
  obtain⟨i,hi,hgk,rfl,hB⟩:=hrel;have HGK:=zh hgk;clear hgk;by_cases hlt:i<n
  ·obtain⟨b,off,rfl,hel⟩:=HS.out.at Fr.cs_len zo zo;obtain⟨b',off',rfl,hel'⟩:=HS'.out.at Fr.cs_len zo zo;obtain⟨x,hxi⟩:∃x,L[i]?=some x:=⟨L[i]'(by rw[HL.out];exact hlt),cA _⟩;obtain⟨y,hyi⟩:∃y,M[i]?=some y:=⟨M[i]'(by rw[HL'.out];exact hlt),cA _⟩;have hnx:=hel i x hxi;have hny:=hel' i y hyi;have gx:=hx.out x (eA hxi);have gy:=hy.out y (eA hyi);have hxy:x.q=y.q:=by
    have h1:=congrArg (·[i]?) hq.out;simp only[mA,hxi,hyi,vE,Option.some.injEq] at h1
    exact h1
   have rx:=gx.1.below hB;have ry:=gy.1.below hB;rw[←hxy] at ry;have hlx:=gx.1.len;have hsz:=gx.2.2;obtain⟨q,hq0⟩:∃q,q=x.q:=⟨_,rfl⟩;rw[←hq0] at rx ry hlx hsz;have i1:(i:Int)<(n:Int):=zo;have i2:(0:Int)≤(i:Int):=zo;clear hel hel' hxi hyi gx gy hxy hq0;have Bz:=zr wr;have pA0:=(hnx.below (bT hB Bz)).c0 (u:=.bool x.s) rfl;have pA1:=(hnx.below (bT hB Bz)).at 1 (.slice x.A x.l x.c) rfl;have pA2:=(hnx.below (bT hB Bz)).at 2 (.bool x.s') rfl;have pA3:=(hnx.below (bT hB Bz)).at 3 (.slice x.A' x.l' x.c') rfl;have pB0:=(hny.below (bT hB Bz)).c0 (u:=.bool y.s) rfl;have pB1:=(hny.below (bT hB Bz)).at 1 (.slice y.A y.l y.c) rfl;have pB2:=(hny.below (bT hB Bz)).at 2 (.bool y.s') rfl;have pB3:=(hny.below (bT hB Bz)).at 3 (.slice y.A' y.l' y.c') rfl;go_wp2_with fail
   (try simp only[vAa,vBa,vC])
   refine zl (zz [0,1,2,3,4,5,6,7] (.only 8 (.take 9 .done))) [] (zsa pA0 (zsa pA1 (zsa pA2 (zsa pA3 (zsa pB0 (zsa pB1 (zsa pB2 (zIa pB3)))))))) ?_;iterate 8 (refine zUa ?_;try simp only[uW,uX,uY,uZ])
   refine zC 25 rfl rfl (fun K hK=>?_);go_simp
   with_reducible refine(sameRatT (q:=q) (RN.below rx) (RN.below ry) zo).mono ?_
   rintro e w11 ⟨rfl,z⟩;replace z:=zq (a:=wr) z;replace Bz:=bT Bz z;clear z;clear pA0 pA1 pA2 pA3 pB0 pB1 pB2 pB3;have pA0:=(hnx.below (bT hB Bz)).c0 (u:=.bool x.s) rfl;have pA1:=(hnx.below (bT hB Bz)).at 1 (.slice x.A x.l x.c) rfl;have pA2:=(hnx.below (bT hB Bz)).at 2 (.bool x.s') rfl;have pA3:=(hnx.below (bT hB Bz)).at 3 (.slice x.A' x.l' x.c') rfl;have pB0:=(hny.below (bT hB Bz)).c0 (u:=.bool y.s) rfl;have pB1:=(hny.below (bT hB Bz)).at 1 (.slice y.A y.l y.c) rfl;have pB2:=(hny.below (bT hB Bz)).at 2 (.bool y.s') rfl;have pB3:=(hny.below (bT hB Bz)).at 3 (.slice y.A' y.l' y.c') rfl;refine hK.out _ _ ⟨pA0,pA1,pA2,pA3,pB0,pB1,pB2,pB3⟩ (fun _=>?_);try simp only[uW,uX,uY,uZ]
   clear hK K;refine zUa ?_;try simp only[uW,uX,uY,uZ]
   refine wpPlan_done ?_;go_wp2_with fail
   go_roundg (n-(i+1))
   case measure=>have:=HGK.out;omega
   case rel=>exact⟨i+1,zo,zo,by go_num,bT (bT hB Bz)⟩
  ·obtain rfl:n=i:=zo;have i1:¬(n:Int)<(n:Int):=zo;go_wp2_with fail
   go_ret
   exact⟨rfl,hB⟩
end Go.Proofs.YtiondclbdgijbaaGreatDoor
