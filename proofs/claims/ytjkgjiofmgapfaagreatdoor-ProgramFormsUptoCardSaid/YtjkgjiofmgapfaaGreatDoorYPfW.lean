/-
  ProgramForms, the walk: the early ways. Written by wip/gen/pr14.py.
-/
import Derived.Test.YtjkgjiofmgapfaaGreatDoorYPsP
set_option maxHeartbeats 32000000
set_option maxRecDepth 100000
namespace Go.Proofs.YtjkgjiofmgapfaaGreatDoor
open Go.RowKit Tw
theorem form_err {w:World} {m:Nat} {p:Pg} (h:PgOk w m p) (hm:m≤20000000000) (hr:rightP p=false) (hT:Hid (Tab w)) :
  Calls Tryz.prog 11 #[.agg #[.slice p.vA p.vn p.vc,.slice p.rA p.rn p.rc,.slice p.cA p.cn p.cc]] w fun e w'=>e=.returned (.tuple #[.agg #[.int .i64 0,.slice none 0 0,.slice none 0 0,.slice none 0 0,.slice none 0 0,.slice none 0 0],.int .i64 100])∧Below w.heap.size w w':=by
 obtain⟨W,hW,x0,x1,hB⟩:=boxes2 w #[.slice p.vA p.vn p.vc,.slice p.rA p.rn p.rc,.slice p.cA p.cn p.cc] 27 #[.int .i64 0,.slice none 0 0,.slice none 0 0,.slice none 0 0,.slice none 0 0,.slice none 0 0] 39;have HX0:=zh x0;have HX1:=zh x1;clear x0 x1;have Bz:=zr W;obtain⟨pa0,pa1,pa2,-⟩:=(zx HX0 Bz).cz;go_enter Tryz.func11,Tryz.ntmps11
 go_wp2_with fail
 rw[←hW];clear hW;go_wp2_with fail
 with_reducible refine(pright_q (h.below (bT hB (bT (b:=W) Bz))) hm 100 (zh (by rw[hr,if_neg zda])) (zt hT hB Bz)).mono ?_
 rintro e w1 ⟨rfl,b1⟩;replace b1:=zq (a:=W) b1;replace Bz:=bT Bz b1;clear b1;clear pa0 pa1 pa2;obtain⟨pb0,pb1,pb2,pb3,pb4,pb5,-⟩:=(zx HX1 Bz).cz;have fb0:=(zx HX1 Bz).frozen 0;have fb1:=(zx HX1 Bz).frozen 1;have fb2:=(zx HX1 Bz).frozen 2;have fb3:=(zx HX1 Bz).frozen 3;have fb4:=(zx HX1 Bz).frozen 4;have fb5:=(zx HX1 Bz).frozen 5;have y1:=(zx HX1 Bz).lt;go_wp2_with fail
 (try simp only[Exit.inBlock,Exit.then])
 refine bodyPost_ret (by simp[results,Tryz.results11,go_sem,pb0,pb1,pb2,pb3,pb4,pb5];try rfl) rfl ?_;obtain⟨V1,hW,x,kk,far,bel⟩:=st6_0_6 (.int .i64 0) (.slice none 0 0) (.slice none 0 0) (.slice none 0 0) (.slice none 0 0) (.slice none 0 0) (zx HX1 Bz) nofun nofun nofun nofun nofun nofun;rw[←hW];clear hW;replace hB:=bel w.heap.size w zo (bT hB Bz);replace HX0:=zf far HX0 Bz;replace HX1:=zh x;clear x kk far bel Bz;have Bz:=zr V1;have hF:=bT (c:=V1) hB Bz;exact⟨rfl,bT hF⟩
theorem forms_1 {w:World} {KB xn xc:Nat} {xA:Option Addr} {p:Pg} (HOK:Hid (PgOk w KB p)) (hKB:KB≤1048576) (hr:rightP p=false) (hT:Hid (Tab w)) :
  Calls Tryz.prog 5 #[.agg #[.slice p.vA p.vn p.vc,.slice p.rA p.rn p.rc,.slice p.cA p.cn p.cc],.slice xA xn xc] w (Yes w):=by
 obtain⟨W,hW,x0,hB⟩:=zAa w #[.slice p.vA p.vn p.vc,.slice p.rA p.rn p.rc,.slice p.cA p.cn p.cc] 27;have HX0:=zh x0;clear x0;have Bz:=zr W;obtain⟨pa0,pa1,pa2,-⟩:=(zx HX0 Bz).cz;go_enter Tryz.func5,Tryz.ntmps5
 go_wp2_with fail
 rw[←hW];clear hW;go_wp2_with fail
 with_reducible refine(form_err (HOK.out.below (bT hB (bT (b:=W) Bz))) zo hr (zt hT hB Bz)).mono ?_
 rintro e w1 ⟨rfl,b1⟩;replace b1:=zq (a:=W) b1;replace Bz:=bT Bz b1;clear b1;clear pa0 pa1 pa2;go_upto_region 2 with(fail)
 obtain⟨V1,hW,x1,hN⟩:=zAa w1 #[.int .i64 0,.slice none 0 0,.slice none 0 0,.slice none 0 0,.slice none 0 0,.slice none 0 0] 39;rw[←hW];clear hW;obtain⟨v1,hb1⟩:=ze w1.heap.size;rw[←hb1] at x1 ⊢;have o0_1:w.heap.size<v1:=zi (zx HX0 Bz).lt;have ow_1:w.heap.size≤v1:=zi (zw hB Bz);replace hB:=bT (bT hB Bz) hN;replace HX0:=zba HX0 Bz hN;have HX1:=zh x1;clear x1 hN Bz hb1;have Bz:=zr V1;go_wp2_with fail
 with_reducible refine(awake15_q (zt hT hB Bz)).mono ?_
 rintro e w2 ⟨rfl,b2⟩;replace b2:=zq (a:=V1) b2;replace Bz:=bT Bz b2;clear b2;go_wp2_with fail
 go_ret
 have hF:=bT (c:=w2) hB Bz;exact⟨rfl,bT hF⟩
theorem forms_2 {w:World} {KB xn xc:Nat} {xA:Option Addr} {p:Pg} (HOK:Hid (PgOk w KB p)) (hKB:KB≤1048576) (h:PgIn w KB p) (hr:rightP p=true) (HG:Hid (greatP p=true)) (hT:Hid (Tab w)) :
  Calls Tryz.prog 5 #[.agg #[.slice p.vA p.vn p.vc,.slice p.rA p.rn p.rc,.slice p.cA p.cn p.cc],.slice xA xn xc] w (Yes w):=by
 have hK2:KB≤2000000:=zo;obtain⟨hq1,hq2,hq3,hq4⟩:=rightP_parts hr;obtain⟨N,hN⟩:∃N,p.vn+p.rn=N:=⟨_,rfl⟩;obtain⟨KD,hKD0⟩:∃k,k=600*(2*KB+4)+KB+4:=⟨_,rfl⟩;have HKD:Hid (KB+3≤KD∧∀x∈p.R,1+x.n*(2*KB+4)≤9000000000∧1+x.n*(2*KB+4)+KB+3≤KD):=zh ⟨zo,fun x hx=>by
  have h1:=right_len (hq3 x hx);rw[(HOK.out.r x hx).sl.1] at h1;have h2:=Nat.mul_le_mul (Nat.le_trans h1 hq1) (Nat.le_refl (2*KB+4));omega⟩
 clear hq1 hq2 hq3 hq4 hKD0;obtain⟨W,hW,x0,hB⟩:=zAa w #[.slice p.vA p.vn p.vc,.slice p.rA p.rn p.rc,.slice p.cA p.cn p.cc] 27;have HX0:=zh x0;clear x0;have Bz:=zr W;obtain⟨pa0,pa1,pa2,-⟩:=(zx HX0 Bz).cz;go_enter Tryz.func5,Tryz.ntmps5
 go_wp2_with fail
 rw[←hW];clear hW;go_wp2_with fail
 with_reducible refine(form_q (KD:=KD) (HOK.out.below (bT hB (bT (b:=W) Bz))) hr hN zo HKD (zt hT hB Bz)).mono ?_
 rintro e w1 ⟨g1,g2,g3,g4,g5,CV,LO,HI,CO,BB,rfl,_,_,_,_,_,_,b1⟩;replace b1:=zq (a:=W) b1;replace Bz:=bT Bz b1;clear b1;clear pa0 pa1 pa2;go_upto_region 2 with(fail)
 obtain⟨V1,hW,x1,hN⟩:=zAa w1 #[.int .i64 (p.rn:Int),.slice (some ⟨g1,0,none⟩) N N,.slice (some ⟨g2,0,none⟩) N N,.slice (some ⟨g3,0,none⟩) N N,.slice (some ⟨g4,0,none⟩) N N,.slice (some ⟨g5,0,none⟩) p.rn p.rn] 39;rw[←hW];clear hW;obtain⟨v1,hb1⟩:=ze w1.heap.size;rw[←hb1] at x1 ⊢;have o0_1:w.heap.size<v1:=zi (zx HX0 Bz).lt;have ow_1:w.heap.size≤v1:=zi (zw hB Bz);replace hB:=bT (bT hB Bz) hN;replace HX0:=zba HX0 Bz hN;have HX1:=zh x1;clear x1 hN Bz hb1;have Bz:=zr V1;obtain⟨pa0,pa1,pa2,-⟩:=(zx HX0 Bz).cz;go_wp2_with fail
 with_reducible refine(great_p (h.below (bT hB (bT (b:=V1) Bz))) hK2 true HG).mono ?_
 rintro e w2 ⟨rfl,b2⟩;replace b2:=zq (a:=V1) b2;replace Bz:=bT Bz b2;clear b2;clear pa0 pa1 pa2;go_wp2_with fail
 with_reducible refine(awake15_q (zt hT hB Bz)).mono ?_
 rintro e w3 ⟨rfl,b3⟩;replace b3:=zq (a:=w2) b3;replace Bz:=bT Bz b3;clear b3;go_wp2_with fail
 go_ret
 have hF:=bT (c:=w3) hB Bz;exact⟨rfl,bT hF⟩
theorem forms_3 {w:World} {KB xn xc:Nat} {xA:Option Addr} {p:Pg} (HOK:Hid (PgOk w KB p)) (hKB:KB≤1048576) (h:PgIn w KB p) (hr:rightP p=true) (HG:Hid (greatP p=false)) (g3:((xn:Int) !=(p.vn:Int))=true) (hT:Hid (Tab w)) :
  Calls Tryz.prog 5 #[.agg #[.slice p.vA p.vn p.vc,.slice p.rA p.rn p.rc,.slice p.cA p.cn p.cc],.slice xA xn xc] w (Yes w):=by
 have hK2:KB≤2000000:=zo;obtain⟨hq1,hq2,hq3,hq4⟩:=rightP_parts hr;obtain⟨N,hN⟩:∃N,p.vn+p.rn=N:=⟨_,rfl⟩;obtain⟨KD,hKD0⟩:∃k,k=600*(2*KB+4)+KB+4:=⟨_,rfl⟩;have HKD:Hid (KB+3≤KD∧∀x∈p.R,1+x.n*(2*KB+4)≤9000000000∧1+x.n*(2*KB+4)+KB+3≤KD):=zh ⟨zo,fun x hx=>by
  have h1:=right_len (hq3 x hx);rw[(HOK.out.r x hx).sl.1] at h1;have h2:=Nat.mul_le_mul (Nat.le_trans h1 hq1) (Nat.le_refl (2*KB+4));omega⟩
 clear hq1 hq2 hq3 hq4 hKD0;obtain⟨W,hW,x0,hB⟩:=zAa w #[.slice p.vA p.vn p.vc,.slice p.rA p.rn p.rc,.slice p.cA p.cn p.cc] 27;have HX0:=zh x0;clear x0;have Bz:=zr W;obtain⟨pa0,pa1,pa2,-⟩:=(zx HX0 Bz).cz;go_enter Tryz.func5,Tryz.ntmps5
 go_wp2_with fail
 rw[←hW];clear hW;go_wp2_with fail
 with_reducible refine(form_q (KD:=KD) (HOK.out.below (bT hB (bT (b:=W) Bz))) hr hN zo HKD (zt hT hB Bz)).mono ?_
 rintro e w1 ⟨g1,g2,g3,g4,g5,CV,LO,HI,CO,BB,rfl,_,_,_,_,_,_,b1⟩;replace b1:=zq (a:=W) b1;replace Bz:=bT Bz b1;clear b1;clear pa0 pa1 pa2;go_upto_region 2 with(fail)
 obtain⟨V1,hW,x1,hN⟩:=zAa w1 #[.int .i64 (p.rn:Int),.slice (some ⟨g1,0,none⟩) N N,.slice (some ⟨g2,0,none⟩) N N,.slice (some ⟨g3,0,none⟩) N N,.slice (some ⟨g4,0,none⟩) N N,.slice (some ⟨g5,0,none⟩) p.rn p.rn] 39;rw[←hW];clear hW;obtain⟨v1,hb1⟩:=ze w1.heap.size;rw[←hb1] at x1 ⊢;have o0_1:w.heap.size<v1:=zi (zx HX0 Bz).lt;have ow_1:w.heap.size≤v1:=zi (zw hB Bz);replace hB:=bT (bT hB Bz) hN;replace HX0:=zba HX0 Bz hN;have HX1:=zh x1;clear x1 hN Bz hb1;have Bz:=zr V1;obtain⟨pa0,pa1,pa2,-⟩:=(zx HX0 Bz).cz;go_wp2_with fail
 with_reducible refine(great_p (h.below (bT hB (bT (b:=V1) Bz))) hK2 false HG).mono ?_
 rintro e w2 ⟨rfl,b2⟩;replace b2:=zq (a:=V1) b2;replace Bz:=bT Bz b2;clear b2;clear pa0 pa1 pa2;have pa0:=(zx HX0 Bz).cell 0 (.slice p.vA p.vn p.vc) rfl;go_wp2_with fail
 with_reducible refine(awake15_q (zt hT hB Bz)).mono ?_
 rintro e w3 ⟨rfl,b3⟩;replace b3:=zq (a:=w2) b3;replace Bz:=bT Bz b3;clear b3;clear pa0;go_wp2_with fail
 go_ret
 have hF:=bT (c:=w3) hB Bz;exact⟨rfl,bT hF⟩
theorem lit0B {w:World} {b B size:Nat} {e:TypeId} (h:Bx w b #[] e) (hB:B≤b):OwnR w B e size (.slice (some ⟨b,0,none⟩) 0 0) 0 [] :=
 ⟨by simp,.inr ⟨b,0,#[],rfl,hB,h,Nat.le_refl _,by unfold maxLen;omega,by simp,by simp,fun u hu=>by simp at hu⟩⟩
theorem brow {n KB:Nat} (h:n≤12) (hK:KB≤1048576):n≤1000∧1+n*(n*(8+2)+(KB+3)+3)≤12590000:=by
 have h1:=Nat.mul_le_mul h (show n*(8+2)+(KB+3)+3≤1048702 by omega);omega
def FL2 (w wB:World) (PRG FC:Array Value) (fb cb:Nat) (CO F:List Fr) (n gk:Nat) (s:Value) (wr:World):Prop :=
 ∃(i:Nat) (q:Fr),i≤n∧n-i=gk∧s=.int .i64 (i:Int)∧Bx wr w.heap.size PRG 27∧Bx wr fb FC 39∧Bx wr cb #[.bool q.s,.slice q.A q.l q.c,.bool q.s',.slice q.A' q.l' q.c'] 33∧NumIs wr q (sumTo (fun j=>fq CO j*fq F j) i) (1+i*12600400)∧Below w.heap.size w wr∧Below wB.heap.size wB wr
def FRS (w:World) (L:List Fr):Prop:=∀y∈L,FrOk w 12600000 y
theorem FRS.below {w w':World} {L:List Fr} (h:FRS w L) (hb:Below w.heap.size w w':=by go_grown):FRS w' L:=fun y k=>(h y k).below hb
theorem FRS.k {w w':World} {L:List Fr} (h:FRS w L) (hb:K64 w w'):FRS w' L:=fun y k=>(h y k).k hb
theorem FRS.all {w:World} {L:List Fr} (h:FRS w L):∀y∈L,FrOk w 12600000 y:=h
theorem FRS.snoc {w:World} {L:List Fr} {x:Fr} (h:FRS w L) (hx:FrOk w 12600000 x):FRS w (L++[x]):=fun y k=>by
 rcases List.mem_append.1 k with k | k
 ·exact h y k
 ·rw[List.mem_singleton.1 k];exact hx
theorem FullF.start {X:List Fr} {vn:Nat} {R:List Rw} (h:X.length=vn):FullF X vn (R.take 0) (X.map fun x=>x.q) :=
 ⟨by rw[List.take_zero,h];rfl,by rw[List.length_map,h],fun j hj=>by
  obtain⟨x,hx⟩:∃x,X[j]?=some x:=⟨X[j]'zo,List.getElem?_eq_getElem _⟩;rw[fq_of hx,List.getD_eq_getElem?_getD,List.getElem?_map,hx];rfl,fun i x hx=>by simp at hx⟩
theorem FullF.snoc {F:List Fr} {vn i:Nat} {R:List Rw} {xs:List Rat} {r:Rw} {y:Fr} (h:FullF F vn (R.take i) xs) (hr:R[i]?=some r) (hy:y.q=r.b.q-pdot (prs r.L) (idxP xs)):FullF (F++[y]) vn (R.take (i+1)) xs:=by
 have hi:=(List.getElem?_eq_some_iff.1 hr).1;have hl:F.length=vn+i:=by have:=h.len;rw[List.length_take] at this;omega
 refine⟨by rw[List.length_append,List.length_take,hl,List.length_singleton];omega,h.xl,fun j hj=>?_,fun k x hx=>?_⟩
 ·rw[←h.x j hj];unfold fq
  rw[List.getElem?_append_left zo]
 ·have hk:k<i+1:=by have:=(List.getElem?_eq_some_iff.1 hx).1;rw[List.length_take] at this;omega
  rw[List.getElem?_take_of_lt hk] at hx;by_cases e:k=i
  ·subst e;rw[hr] at hx;cases hx;rw[←hy];refine fq_of ?_;rw[List.getElem?_append_right zo,hl,Nat.sub_self];rfl
  ·rw[←h.s k x (by rw[List.getElem?_take_of_lt zo];exact hx)];unfold fq
   rw[List.getElem?_append_left zo]
def FL1 (w wF:World) (PRG FC:Array Value) (fb vn:Nat) (RR:List Rw) (xs:List Rat) (n gk:Nat) (s7 s40:Value) (wr:World):Prop :=
 ∃(i:Nat) (H:Option Addr) (c:Nat) (F:List Fr),i≤n∧n-i=gk∧s7=.slice H (vn+i) c∧s40=.int .i64 (i:Int)∧Bx wr w.heap.size PRG 27∧Bx wr fb FC 39∧
  OwnR wr wF.heap.size 33 4 (.slice H (vn+i) c) (vn+i) (flat Fr.cs F)∧some w.heap.size≠(Value.slice H (vn+i) c).ownBlock∧some fb≠(Value.slice H (vn+i) c).ownBlock∧FRS wr F∧FullF F vn (RR.take i) xs∧Below w.heap.size w wr∧Below wF.heap.size wF wr
theorem forms_ok {w:World} {KB N vn vc rn rc cn cc xc:Nat} {vA rA cA xA:Option Addr} {V:List Vr} {RR:List Rw} {C:List Tm} {X:List Fr} (h:PgIn w KB ⟨vA,vn,vc,V,rA,rn,rc,RR,cA,cn,cc,C⟩) (hKB:KB≤1048576) (hx:Sl Fr.cs 4 w xA vn xc X) (hxf:Hid (∀x∈X,FrOk w KB x)) (hr:rightP ⟨vA,vn,vc,V,rA,rn,rc,RR,cA,cn,cc,C⟩=true) (HG:Hid (greatP ⟨vA,vn,vc,V,rA,rn,rc,RR,cA,cn,cc,C⟩=false)) (hN:vn+rn=N) (hT:Hid (Tab w)) :
  Calls Tryz.prog 5 #[.agg #[.slice vA vn vc,.slice rA rn rc,.slice cA cn cc],.slice xA vn xc] w (Yes w):=by
 have hK2:KB≤2000000:=zo;have hok:=h.ok hK2 HG.out;have HOK:=zh hok.1;have hvn:vn≤12:=hok.2.1;have hrn:rn≤12:=hok.2.2;obtain⟨hq1,hq2,hq3,hq4⟩:=rightP_parts hr;have HRN:Hid (∀x∈RR,x.n≤12):=zh fun x hx=>by
  have h1:=right_len (hq3 x hx);rw[(HOK.out.r x hx).sl.1] at h1;exact Nat.le_trans h1 hvn
 have HKD:Hid (8+3≤300∧∀x∈RR,1+x.n*(2*8+4)≤9000000000∧1+x.n*(2*8+4)+8+3≤300):=zh ⟨by decide,fun x hx=>by
  have h1:=HRN.out x hx;omega⟩
 have g3:((vn:Int) !=(vn:Int))=false:=by simp
 have hrsl:Sl Rw.cs 6 w rA rn rc RR:=h.rsl;have HOR:Hid (∀x∈RR,RwOk w 8 x):=zh hok.1.r;clear hok;obtain⟨W,hW,x0,hB⟩:=zAa w #[.slice vA vn vc,.slice rA rn rc,.slice cA cn cc] 27;have HX0:=zh x0;clear x0;have Bz:=zr W;obtain⟨pa0,pa1,pa2,-⟩:=(zx HX0 Bz).cz;go_enter Tryz.func5,Tryz.ntmps5
 go_wp2_with fail
 rw[←hW];clear hW;go_wp2_with fail
 with_reducible refine(form_q (p:=⟨vA,vn,vc,V,rA,rn,rc,RR,cA,cn,cc,C⟩) (KD:=300) (HOK.out.below (bT hB (bT (b:=W) Bz))) hr hN zda HKD (zt hT hB Bz)).mono ?_
 rintro e w1 ⟨g1,g2,g3,g4,g5,CV,LO,HI,CO,BB,rfl,hfs,hcl,hlo,hhi,hco,hbb,b1⟩;replace b1:=zq (a:=W) b1;replace Bz:=bT Bz b1;clear b1;have HFS:=zh hfs;have HCL:=zh hcl;have HLO:=zh hlo;have HHI:=zh hhi;have HCO:=zh hco;have HBB:=zh hbb;clear hfs hcl hlo hhi hco hbb;obtain⟨wF,hwF⟩:∃x:World,x=w1:=⟨_,rfl⟩;have hWF:Below wF.heap.size wF w1:=by rw[hwF];exact Below.refl _ _
 rw[←hwF] at HFS HLO HHI HCO HBB;have hbf:w.heap.size≤wF.heap.size:=by rw[hwF];have:=hB.size;have:=Bz.size;omega
 clear hwF;have HCOS:=zh (HFS.out.fm.r4.sl' elt_frs HFS.out.fm.lens.2.2.2.1);clear pa0 pa1 pa2;replace HX0:=zh (zx HX0 Bz);replace hB:=bT hB Bz;clear Bz;have Bz:=zr w1;go_upto_region 2 with(fail)
 obtain⟨V1,hW,x1,hN⟩:=zAa w1 #[.int .i64 (rn:Int),.slice (some ⟨g1,0,none⟩) N N,.slice (some ⟨g2,0,none⟩) N N,.slice (some ⟨g3,0,none⟩) N N,.slice (some ⟨g4,0,none⟩) N N,.slice (some ⟨g5,0,none⟩) rn rn] 39;rw[←hW];clear hW;obtain⟨v1,hb1⟩:=ze w1.heap.size;rw[←hb1] at x1 ⊢;have o0_1:w.heap.size<v1:=zi (zx HX0 Bz).lt;have ow_1:w.heap.size≤v1:=zi (zw hB Bz);replace hB:=bT (bT hB Bz) hN;replace hWF:=bT (bT hWF Bz) hN;replace HX0:=zba HX0 Bz hN;have HX1:=zh x1;clear x1 hN Bz hb1;have Bz:=zr V1;obtain⟨pa0,pa1,pa2,-⟩:=(zx HX0 Bz).cz;go_wp2_with fail
 with_reducible refine(great_p (p:=⟨vA,vn,vc,V,rA,rn,rc,RR,cA,cn,cc,C⟩) (h.below (bT hB (bT (b:=V1) Bz))) hK2 false HG).mono ?_
 rintro e w2 ⟨rfl,b2⟩;replace b2:=zq (a:=V1) b2;replace Bz:=bT Bz b2;clear b2;clear pa0 pa1 pa2;have pa0:=(zx HX0 Bz).cell 0 (.slice vA vn vc) rfl;go_wp2_with (at_builtin;refine And.left (b:=True) ?_)
 refine⟨?_,trivial⟩;obtain⟨V2,hW,x2,hN⟩:=zAa w2 #[] 33;rw[←hW];clear hW;obtain⟨v2,hb2⟩:=ze w2.heap.size;rw[←hb2] at x2 ⊢;have o0_2:w.heap.size<v2:=zi (zx HX0 Bz).lt;have o1_2:v1<v2:=zi (zx HX1 Bz).lt;have ow_2:w.heap.size≤v2:=zi (zw hB Bz);have ow_2_hWF:wF.heap.size≤v2:=zj hWF.size Bz.size;replace hB:=bT (bT hB Bz) hN;replace hWF:=bT (bT hWF Bz) hN;replace HX0:=zba HX0 Bz hN;replace HX1:=zba HX1 Bz hN;have HX2:=zh x2;clear x2 hN Bz hb2;have Bz:=zr V2;clear pa0;have ho0:OwnR V2 wF.heap.size 33 4 (.slice (some ⟨v2,0,none⟩) 0 0) 0 (flat Fr.cs []):=lit0B HX2.out ow_2_hWF;have hdr:V2.drew.heap.size=V2.heap.size:=rfl;have hdr2:V2.drew.drew.heap.size=V2.heap.size:=rfl;refine Elt.app elt_frs rfl (.tmp 34) (.tmp 35) rfl (wF.heap.size) (.slice (some ⟨v2,0,none⟩) 0 0) (0) ([]) rfl ho0 (.slice xA vn xc) (vn) (X) rfl (hx.2.below (bT hB (bT (b:=V2) Bz))) zo (zj hWF.size Bz.size) ?_;intro H3 c3 w3 ho3 hg3;replace hB:=(bT (bT hB Bz)).trans (hg3.below (zi (zw hB Bz)) (fun g hg=>by have:=ho0.base g hg;omega));replace hWF:=(bT (bT hWF Bz)).trans (hg3.below (zj hWF.size Bz.size) (fun g hg=>by have:=ho0.base g hg;omega));have nv0_own3:=hg3.ne (zx HX0 Bz).lt (ne_row zo);replace HX0:=zh (hg3.bx (zx HX0 Bz) (ne_row zo));have nv1_own3:=hg3.ne (zx HX1 Bz).lt (ne_row zo);replace HX1:=zh (hg3.bx (zx HX1 Bz) (ne_row zo));clear HX2;clear hdr hdr2;clear hg3 Bz;have Bz:=zr w3;have pa1:=(zx HX0 Bz).cell 1 (.slice rA rn rc) rfl;go_wp2_with fail
 rw[Nat.zero_add] at ho3 nv0_own3 nv1_own3;obtain⟨fb,hfb⟩:=ze v1;have HST:Hid (FL1 w wF #[.slice vA vn vc,.slice rA rn rc,.slice cA cn cc] #[.int .i64 (rn:Int),.slice (some ⟨g1,0,none⟩) N N,.slice (some ⟨g2,0,none⟩) N N,.slice (some ⟨g3,0,none⟩) N N,.slice (some ⟨g4,0,none⟩) N N,.slice (some ⟨g5,0,none⟩) rn rn] v1 vn RR (X.map fun x=>x.q) rn rn (.slice H3 (vn+0) c3) (.int .i64 ((0:Nat):Int)) w3):=zh ⟨0,_,_,X,Nat.zero_le _,rfl,rfl,rfl,HX0.out.below Bz,HX1.out.below Bz,ho3.below Bz,nv0_own3,nv1_own3,(fun x k=>((hxf.out x k).mono zo).below (bT hB Bz)),FullF.start hx.1,bT hB Bz,bT hWF Bz⟩;clear hB hWF Bz HX0 HX1 ho3 nv0_own3 nv1_own3;subst hfb;go_loopg [7,40] rn (fun gk s7 s40 wr=>FL1 w wF #[.slice vA vn vc,.slice rA rn rc,.slice cA cn cc] #[.int .i64 (rn:Int),.slice (some ⟨g1,0,none⟩) N N,.slice (some ⟨g2,0,none⟩) N N,.slice (some ⟨g3,0,none⟩) N N,.slice (some ⟨g4,0,none⟩) N N,.slice (some ⟨g5,0,none⟩) rn rn] fb vn RR (X.map fun x=>x.q) rn gk s7 s40 wr)
 case atStart=>exact HST.out
 case round =>
  clear HST;obtain⟨i,H,c,F,hi,hgk,rfl,rfl,x0,x1,hro,nv0_own,nv1_own,hfs,hff,hB,hWF⟩:=hrel;have HX0:=zh x0;have HX1:=zh x1;have HGK:=zh hgk;have HFF:=zh hff;clear x0 x1 hgk hff;by_cases hlt:i<rn
  ·obtain⟨b,off,rfl,hel⟩:=hrsl.at Rw.cs_len zo zo;obtain⟨r,hri⟩:∃x,RR[i]?=some x:=⟨RR[i]'(by rw[hrsl.1];exact hlt),List.getElem?_eq_getElem _⟩;have HRO:=zh (HOR.out r (List.mem_of_getElem? hri));have HRX:=zh (HRN.out r (List.mem_of_getElem? hri));have HSB:Hid (sz r.b.q≤9):=zh (zi (R.sz HRO.out.b.r));have HRI:=zh hri;have hnd:=hel i r hri;have i1:(i:Int)<(rn:Int):=zo;have i2:(0:Int)≤(i:Int):=zo;clear hel hri;have Bz:=zr wr;obtain⟨pA0,pA1,pA2,pA3,pA4,pA5,-⟩:=(hnd.below (bT hB Bz)).ez;go_upto_region 8 with(fail)
   obtain⟨V11,hW,x2,hN⟩:=zAa wr #[.slice r.A r.n r.c,.int .u8 r.kind,.bool r.b.s,.slice r.b.A r.b.l r.b.c,.bool r.b.s',.slice r.b.A' r.b.l' r.b.c'] 35;rw[←hW];clear hW;obtain⟨v2,hb2⟩:=ze wr.heap.size;rw[←hb2] at x2 ⊢;have o0_2:w.heap.size<v2:=zi (zx HX0 Bz).lt;have o1_2:fb<v2:=zi (zx HX1 Bz).lt;have ow_2:w.heap.size≤v2:=zi (zw hB Bz);have nv2_own:=OwnR.off' (b:=v2) hro zo;replace hfs:=hfs.below hN;replace hro:=hro.below hN;replace hB:=bT (bT hB Bz) hN;replace hWF:=bT (bT hWF Bz) hN;replace HX0:=zba HX0 Bz hN;replace HX1:=zba HX1 Bz hN;have HX2:=zh x2;clear x2 hN Bz hb2;have Bz:=zr V11;clear pA0 pA1 pA2 pA3 pA4 pA5;obtain⟨pc0,-,pc2,pc3,pc4,pc5,-⟩:=(zx HX2 Bz).cz;go_wp2_with fail
   (try simp only[vAa,vBa,vC])
   refine zl (.pure 0 (.pure 1 (.take 2 (.pure 3 (.take 4 (.pure 5 (.only 6 (.only 7 (.only 8 (.only 9 (.only 10 (.pure 11 .done)))))))))))) [10] (zsa pc0 (zsa pc2 (zsa pc3 (zsa pc4 (zIa pc5))))) ?_;iterate 2 (refine zV ?_;try simp only[uW,uX,uY,uZ])
   refine zUa ?_;try simp only[uW,uX,uY,uZ]
   refine zV ?_;try simp only[uW,uX,uY,uZ]
   refine zUa ?_;try simp only[uW,uX,uY,uZ]
   refine zV ?_;try simp only[uW,uX,uY,uZ]
   refine zC 50 rfl rfl (fun K hK=>?_);go_simp
   with_reducible refine(ofV_q (hx.below (bT hB (bT (b:=V11) Bz))) (zh fun x k=>(hxf.out x k).below (bT hB (bT (b:=V11) Bz))) zo zo (zt hT hB Bz)).mono ?_
   rintro e w11 ⟨A11,n11,c11,rfl,h11,b11⟩;replace b11:=zq (a:=V11) b11;replace hfs:=hfs.below b11;replace hro:=hro.below b11;replace Bz:=bT Bz b11;clear b11;clear pc0 pc2 pc3 pc4 pc5;obtain⟨pc0,-,pc2,pc3,pc4,pc5,-⟩:=(zx HX2 Bz).cz;refine hK.out _ _ ⟨pc0,pc2,pc3,pc4,pc5⟩ (fun _=>?_);try simp only[uW,uX,uY,uZ]
   clear hK K;refine zC 51 rfl rfl (fun K hK=>?_);go_simp
   have HN11:Hid (n11≤1000):=zh (by have h8:=(NV.len h11);have h9:=nrm_len (idxP (X.map fun x=>x.q));have h7:=idxP_len (X.map fun x=>x.q);have h6:=hx.1;rw[List.length_map] at h7;omega);with_reducible refine(dotW 120 (KB+3) 12 12590000 (gv_fr (HRO.out.sl.below (bT hB (bT (b:=w11) Bz))) (fun t k=>(HRO.out.fr t k).below (bT hB (bT (b:=w11) Bz))) HRO.out.nil (zi HRX.out)) ((NV.below h11).gv (nrm_nrm _).rise) HRX.out HN11.out zo zda zda zo zda (zt hT hB Bz)).mono ?_
   rintro e w12 ⟨s12,A12,c12,l12,s12r,A12r,c12r,l12r,rfl,h12,z12,b12⟩;replace b12:=zq (a:=w11) b12;replace hfs:=hfs.below b12;replace hro:=hro.below b12;replace Bz:=bT Bz b12;clear b12;rw[pdot_nrm_right] at h12 z12;clear pc0 pc2 pc3 pc4 pc5;obtain⟨pc0,-,pc2,pc3,pc4,pc5,-⟩:=(zx HX2 Bz).cz;refine hK.out _ _ ⟨pc0,pc2,pc3,pc4,pc5⟩ (fun _=>?_);try simp only[uW,uX,uY,uZ]
   clear hK K;refine zC 52 rfl rfl (fun K hK=>?_);go_simp
   with_reducible refine(sub_q (FrOk.below HRO.out.b (bT hB (bT (b:=w12) Bz))).r (RN.r' (RN.below h12) z12) zda (zt hT hB Bz)).mono ?_
   rintro e w13 ⟨s13,A13,c13,l13,s13r,A13r,c13r,l13r,rfl,h13,b13⟩;replace b13:=zq (a:=w12) b13;replace hfs:=hfs.below b13;replace hro:=hro.below b13;replace Bz:=bT Bz b13;clear b13;have hs3:=sz_sub HSB.out z12;clear pc0 pc2 pc3 pc4 pc5;obtain⟨pc0,-,pc2,pc3,pc4,pc5,-⟩:=(zx HX2 Bz).cz;refine hK.out _ _ ⟨pc0,pc2,pc3,pc4,pc5⟩ (fun _=>?_);try simp only[uW,uX,uY,uZ]
   clear hK K;refine zC 53 rfl rfl (fun K hK=>?_);go_simp
   refine hK.out _ _ ⟨(zAb pc0),(zAb pc2),(zAb pc3),(zAb pc4),(zAb pc5)⟩ (fun _=>?_);try simp only[uW,uX,uY,uZ]
   clear hK K;refine wpPlan_late (o:=⟨some 54,_,_,_,_,_⟩) rfl rfl zda (fun K hK=>?_);obtain⟨V12,hW,x3,hN⟩:=zAa w13 #[.bool s13,.slice A13 l13 c13,.bool s13r,.slice A13r l13r c13r] 33;rw[←hW];clear hW;obtain⟨v3,hb3⟩:=ze w13.heap.size;rw[←hb3] at x3 ⊢;have o0_3:w.heap.size<v3:=zi (zx HX0 Bz).lt;have o1_3:fb<v3:=zi (zx HX1 Bz).lt;have o2_3:v2<v3:=zi (zx HX2 Bz).lt;have ow_3:w.heap.size≤v3:=zi (zw hB Bz);have nv3_own:=OwnR.off' (b:=v3) hro zo;replace hfs:=hfs.below hN;replace h13:=h13.below hN;replace hro:=hro.below hN;replace hB:=bT (bT hB Bz) hN;replace hWF:=bT (bT hWF Bz) hN;replace HX0:=zba HX0 Bz hN;replace HX1:=zba HX1 Bz hN;replace HX2:=zba HX2 Bz hN;have HX3:=zh x3;clear x3 hN Bz hb3;have Bz:=zr V12;clear pc0 pc2 pc3 pc4 pc5;have hdr:V12.drew.heap.size=V12.heap.size:=rfl;have hdr2:V12.drew.drew.heap.size=V12.heap.size:=rfl;refine Elt.wp elt_frs (.tmp 44) (.tmp 53) rfl (wF.heap.size) (.slice H (vn+i) c) (vn+i) (F) rfl hro (.slice (some ⟨v3,0,none⟩) 1 1) (1) ([⟨s13,A13,c13,l13,s13r,A13r,c13r,l13r,r.b.q-pdot (prs r.L) (idxP (X.map fun x=>x.q)),true⟩]) rfl (From.one (HX3.out.below (bT Bz)) (⟨s13,A13,c13,l13,s13r,A13r,c13r,l13r,r.b.q-pdot (prs r.L) (idxP (X.map fun x=>x.q)),true⟩) rfl (elt_frs.len _)) zo (zj hWF.size Bz.size) ?_;intro H14 c14 w14 ho14 hg14;refine hK.out _ _ ?_;try simp only[uW,uX,uY,uZ]
   clear hK K;replace hB:=(bT (bT hB Bz)).trans (hg14.below (zi (zw hB Bz)) (fun g hg=>by have:=hro.base g hg;omega));replace hWF:=(bT (bT hWF Bz)).trans (hg14.below (zj hWF.size Bz.size) (fun g hg=>by have:=hro.base g hg;omega));have nv0_own14:=hg14.ne (HX0.out.below (bT Bz)).lt nv0_own;replace HX0:=zh (hg14.bx (HX0.out.below (bT Bz)) nv0_own);have nv1_own14:=hg14.ne (HX1.out.below (bT Bz)).lt nv1_own;replace HX1:=zh (hg14.bx (HX1.out.below (bT Bz)) nv1_own);have nv2_own14:=hg14.ne (HX2.out.below (bT Bz)).lt nv2_own;replace HX2:=zh (hg14.bx (HX2.out.below (bT Bz)) nv2_own);have nv3_own14:=hg14.ne (HX3.out.below (bT Bz)).lt nv3_own;replace HX3:=zh (hg14.bx (HX3.out.below (bT Bz)) nv3_own);clear hdr hdr2;replace hfs:=hfs.k hg14.k;replace h13:=h13.k hg14.k;clear hg14 Bz;have Bz:=zr w14;obtain⟨pc0,-,pc2,pc3,pc4,pc5,-⟩:=(zx HX2 Bz).cz;refine zV ?_;try simp only[uW,uX,uY,uZ]
   refine wpPlan_done ?_;go_wp2_with fail
   go_roundg (rn-(i+1))
   case measure=>have:=HGK.out;omega
   case rel=>exact⟨i+1,H14,c14,_,zo,rfl,by rfl,by go_num,HX0.out.below (bT Bz),HX1.out.below (bT Bz),OwnR.below ho14,nv0_own14,nv1_own14,FRS.snoc (FRS.below hfs) (RN.fr h13 zo),FullF.snoc HFF.out HRI.out rfl,bT (bT hB Bz),bT (bT hWF Bz)⟩
  ·obtain rfl:i=rn:=zo;obtain⟨rn,hrn0⟩:∃rn,rn=i:=⟨_,rfl⟩;subst hrn0;have i1:¬(rn:Int)<(rn:Int):=zo;rw[hN] at hro nv0_own nv1_own ⊢;have HFU:Hid (FullF F vn RR (X.map fun x=>x.q)):=zh (by have h9:=HFF.out;rwa [List.take_of_length_le (by rw[hrsl.1];exact Nat.le_refl _)] at h9);have HFL:Hid (F.length=N):=zh (by rw[HFU.out.len,hrsl.1];exact hN);have j1:¬(N:Int)<(N:Int):=zo;obtain⟨u,v,HU⟩:∃u v,Hid (brokenF V RR X=(u,v)):=⟨_,_,zh rfl⟩;clear HFF;have Bz:=zr wr;obtain⟨pa0,pa1,pa2,-⟩:=(zx HX0 Bz).cz;go_wp2_with fail
   with_reducible refine(broken_q (p:=⟨vA,vn,vc,V,rA,rn,rc,RR,cA,cn,cc,C⟩) (mx:=KB) (M:=KB+3) (KK:=12590000) (HOK.out.below (bT hB (bT (b:=wr) Bz))) (hx.below (bT hB (bT (b:=wr) Bz))) (zh fun x k=>(hxf.out x k).below (bT hB (bT (b:=wr) Bz))) zda zo zo (Nat.le_refl _) zo (zh fun x k=>brow (HRN.out x k) hKB) zda u v HU (zt hT hB Bz)).mono ?_
   rintro e w21 ⟨rfl,b21⟩;replace b21:=zq (a:=wr) b21;replace hfs:=hfs.below b21;replace hro:=hro.below b21;replace Bz:=bT Bz b21;clear b21;obtain⟨wB,hwB⟩:∃x:World,x=w21:=⟨_,rfl⟩;have HSF:Hid (Sl Fr.cs 4 wB H N c F):=zh (by rw[hwB];exact(OwnR.below hro).sl' elt_frs HFL.out);have HFR:Hid (FRS wB F):=zh (by rw[hwB];exact FRS.below hfs);have HWB:Hid (Below wF.heap.size wF wB):=zh (by rw[hwB];exact bT hWF (bT Bz));have hBW:Below wB.heap.size wB w21:=by rw[hwB];exact Below.refl _ _
   clear hwB;clear pa0 pa1 pa2;replace HX0:=zh (zx HX0 Bz);replace HX1:=zh (zx HX1 Bz);replace hB:=bT hB Bz;replace hWF:=bT hWF Bz;clear Bz;have Bz:=zr w21;go_upto_region 12 with(fail)
   obtain⟨V21,hW,x2,hN⟩:=zAa w21 #[.bool false,.slice none 0 0,.bool false,.slice none 0 0] 33;rw[←hW];clear hW;obtain⟨v2,hb2⟩:=ze w21.heap.size;rw[←hb2] at x2 ⊢;have o0_2:w.heap.size<v2:=zi (zx HX0 Bz).lt;have o1_2:fb<v2:=zi (zx HX1 Bz).lt;have ow_2:w.heap.size≤v2:=zi (zw hB Bz);have ow_2_hBW:wB.heap.size≤v2:=zj hBW.size Bz.size;replace hfs:=hfs.below hN;replace hro:=hro.below hN;replace hB:=bT (bT hB Bz) hN;replace hBW:=bT (bT hBW Bz) hN;replace HX0:=zba HX0 Bz hN;replace HX1:=zba HX1 Bz hN;have HX2:=zh x2;clear x2 hN Bz hb2;have Bz:=zr V21;have pb4:=(zx HX1 Bz).cell 4 (.slice (some ⟨g4,0,none⟩) N N) rfl;go_wp2_with fail
   have HST:Hid (FL2 w wB #[.slice vA vn vc,.slice rA rn rc,.slice cA cn cc] #[.int .i64 (rn:Int),.slice (some ⟨g1,0,none⟩) N N,.slice (some ⟨g2,0,none⟩) N N,.slice (some ⟨g3,0,none⟩) N N,.slice (some ⟨g4,0,none⟩) N N,.slice (some ⟨g5,0,none⟩) rn rn] fb v2 CO F N N (.int .i64 ((0:Nat):Int)) V21):=zh ⟨0,zFr,Nat.zero_le _,rfl,rfl,HX0.out.below Bz,HX1.out.below Bz,HX2.out.below Bz,⟨RN.zero _,Nat.le_trans sz_zero zo⟩,bT hB Bz,bT hBW Bz⟩;obtain⟨cb,hcb⟩:=ze v2;clear hB Bz hBW hWF HX0 HX1 HX2 hro nv0_own nv1_own hfs;subst hcb;obtain⟨wo,hwo⟩:∃x:World,x=wr:=⟨_,rfl⟩;subst hwo;go_loopg [71] N (fun gk s wr=>FL2 w wB #[.slice vA vn vc,.slice rA rn rc,.slice cA cn cc] #[.int .i64 (rn:Int),.slice (some ⟨g1,0,none⟩) N N,.slice (some ⟨g2,0,none⟩) N N,.slice (some ⟨g3,0,none⟩) N N,.slice (some ⟨g4,0,none⟩) N N,.slice (some ⟨g5,0,none⟩) rn rn] fb cb CO F N gk s wr)
   case atStart=>exact HST.out
   case round =>
    clear HST;obtain⟨i,q,hi,hgk,rfl,x0,x1,x2,hu,hB,hBW⟩:=hrel;have HX0:=zh x0;have HX1:=zh x1;have HX2:=zh x2;have HGK:=zh hgk;clear x0 x1 x2 hgk;by_cases hlt:i<N
    ·obtain⟨c4,o4,e4,hel4⟩:=HCOS.out.at Fr.cs_len zo zo;cases e4;obtain⟨xb,xo,rfl,hel⟩:=HSF.out.at Fr.cs_len zo zo;obtain⟨yc,hyc⟩:∃x,CO[i]?=some x:=⟨CO[i]'(zi HCOS.out.1),List.getElem?_eq_getElem _⟩;obtain⟨yf,hyf⟩:∃x,F[i]?=some x:=⟨F[i]'(by rw[HFL.out];exact hlt),List.getElem?_eq_getElem _⟩;have hnd4:=hel4 i yc hyc;have hndf:=hel i yf hyf;have hc4:=HCO.out i yc hyc;have hrc:=(hc4.1.below HWB.out).below hBW;have HZC:Hid (sz yc.q≤300):=zh (zi hc4.2.2.1);have HFI:=zh (HFR.out yf (List.mem_of_getElem? hyf));have HZF:Hid (sz yf.q≤12600001):=zh (zi (R.sz HFI.out.r));have HUS:=zh hu.2;have HSM:Hid (sumTo (fun j=>fq CO j*fq F j) (i+1)=sumTo (fun j=>fq CO j*fq F j) i+yc.q*yf.q):=zh (by show _+fq CO i*fq F i=_;rw[fq_of hyc,fq_of hyf]);have HMU:Hid (1+(i+1)*12600400=1+i*12600400+12600400):=zh zo;have i3:(i:Int)<(N:Int):=zo;have i4:(0:Int)≤(i:Int):=zo;clear hel hel4 hyc hyf hc4;have Bz:=zr wr;have pb4:=(zx HX1 Bz).cell 4 (.slice (some ⟨g4,0,none⟩) N N) rfl;obtain⟨pc0,pc1,pc2,pc3,-⟩:=(zx HX2 Bz).cz;have fc0:=(zx HX2 Bz).frozen 0;have fc1:=(zx HX2 Bz).frozen 1;have fc2:=(zx HX2 Bz).frozen 2;have fc3:=(zx HX2 Bz).frozen 3;have y2:=(zx HX2 Bz).lt;have pA0:=(hnd4.below (bT HWB.out (bT hBW Bz))).c0' (u:=.bool yc.s) rfl;have pA1:=(hnd4.below (bT HWB.out (bT hBW Bz))).at' 1 (.slice yc.A yc.l yc.c) rfl;have pA2:=(hnd4.below (bT HWB.out (bT hBW Bz))).at' 2 (.bool yc.s') rfl;have pA3:=(hnd4.below (bT HWB.out (bT hBW Bz))).at' 3 (.slice yc.A' yc.l' yc.c') rfl;have pB0:=(hndf.below (bT hBW Bz)).c0 (u:=.bool yf.s) rfl;have pB1:=(hndf.below (bT hBW Bz)).at 1 (.slice yf.A yf.l yf.c) rfl;have pB2:=(hndf.below (bT hBW Bz)).at 2 (.bool yf.s') rfl;have pB3:=(hndf.below (bT hBW Bz)).at 3 (.slice yf.A' yf.l' yf.c') rfl;go_wp2_with fail
     (try simp only[vAa,vBa,vC])
     refine zl (.take 0 (.pure 1 (.take 2 (.pure 3 (.pure 4 (.take 5 (.pure 6 (.pure 7 (.pure 8 (.take 9 (.only 10 (.only 11 (.only 12 .done))))))))))))) [12] (zsa pb4 (zsa pc0 (zsa pc1 (zsa pc2 (zsa pc3 (zsa pA0 (zsa pA1 (zsa pA2 (zsa pA3 (zsa pB0 (zsa pB1 (zsa pB2 (zIa pB3))))))))))))) ?_;refine zUa ?_;try simp only[uW,uX,uY,uZ]
     refine zV ?_;try simp only[uW,uX,uY,uZ]
     refine zUa ?_;try simp only[uW,uX,uY,uZ]
     iterate 2 (refine zV ?_;try simp only[uW,uX,uY,uZ])
     refine zUa ?_;try simp only[uW,uX,uY,uZ]
     iterate 3 (refine zV ?_;try simp only[uW,uX,uY,uZ])
     refine zUa ?_;try simp only[uW,uX,uY,uZ]
     refine zC 84 rfl rfl (fun K hK=>?_);go_simp
     with_reducible refine(mul_q (RN.r' (RN.below hrc) HZC.out) (FrOk.below HFI.out (bT hBW (bT (b:=wr) Bz))).r zda (zt hT hB Bz)).mono ?_
     rintro e w31 ⟨s31,A31,c31,l31,s31r,A31r,c31r,l31r,rfl,h31,b31⟩;replace b31:=zq (a:=wr) b31;replace hu:=hu.below b31;replace Bz:=bT Bz b31;clear b31;have hs1:=sz_mul HZC.out HZF.out;clear pb4 pc0 pc1 pc2 pc3 fc0 fc1 fc2 fc3 y2 pA0 pA1 pA2 pA3 pB0 pB1 pB2 pB3;have pb4:=(zx HX1 Bz).cell 4 (.slice (some ⟨g4,0,none⟩) N N) rfl;obtain⟨pc0,pc1,pc2,pc3,-⟩:=(zx HX2 Bz).cz;have fc0:=(zx HX2 Bz).frozen 0;have fc1:=(zx HX2 Bz).frozen 1;have fc2:=(zx HX2 Bz).frozen 2;have fc3:=(zx HX2 Bz).frozen 3;have y2:=(zx HX2 Bz).lt;have pA0:=(hnd4.below (bT HWB.out (bT hBW Bz))).c0' (u:=.bool yc.s) rfl;have pA1:=(hnd4.below (bT HWB.out (bT hBW Bz))).at' 1 (.slice yc.A yc.l yc.c) rfl;have pA2:=(hnd4.below (bT HWB.out (bT hBW Bz))).at' 2 (.bool yc.s') rfl;have pA3:=(hnd4.below (bT HWB.out (bT hBW Bz))).at' 3 (.slice yc.A' yc.l' yc.c') rfl;have pB0:=(hndf.below (bT hBW Bz)).c0 (u:=.bool yf.s) rfl;have pB1:=(hndf.below (bT hBW Bz)).at 1 (.slice yf.A yf.l yf.c) rfl;have pB2:=(hndf.below (bT hBW Bz)).at 2 (.bool yf.s') rfl;have pB3:=(hndf.below (bT hBW Bz)).at 3 (.slice yf.A' yf.l' yf.c') rfl;refine hK.out _ _ ⟨pb4,pc0,pc1,pc2,pc3,pA0,pA1,pA2,pA3,pB0,pB1,pB2,pB3⟩ (fun _=>?_);try simp only[uW,uX,uY,uZ]
     clear hK K;refine zC 85 rfl rfl (fun K hK=>?_);go_simp
     with_reducible refine(add_q (NumIs.rr (NumIs.below hu)) (RN.r' (RN.below h31) hs1) zo (zt hT hB Bz)).mono ?_
     rintro e w32 ⟨s32,A32,c32,l32,s32r,A32r,c32r,l32r,rfl,h32,b32⟩;replace b32:=zq (a:=w31) b32;replace Bz:=bT Bz b32;clear b32;clear pb4 pc0 pc1 pc2 pc3 fc0 fc1 fc2 fc3 y2 pA0 pA1 pA2 pA3 pB0 pB1 pB2 pB3;have pb4:=(zx HX1 Bz).cell 4 (.slice (some ⟨g4,0,none⟩) N N) rfl;obtain⟨pc0,pc1,pc2,pc3,-⟩:=(zx HX2 Bz).cz;have fc0:=(zx HX2 Bz).frozen 0;have fc1:=(zx HX2 Bz).frozen 1;have fc2:=(zx HX2 Bz).frozen 2;have fc3:=(zx HX2 Bz).frozen 3;have y2:=(zx HX2 Bz).lt;have pA0:=(hnd4.below (bT HWB.out (bT hBW Bz))).c0' (u:=.bool yc.s) rfl;have pA1:=(hnd4.below (bT HWB.out (bT hBW Bz))).at' 1 (.slice yc.A yc.l yc.c) rfl;have pA2:=(hnd4.below (bT HWB.out (bT hBW Bz))).at' 2 (.bool yc.s') rfl;have pA3:=(hnd4.below (bT HWB.out (bT hBW Bz))).at' 3 (.slice yc.A' yc.l' yc.c') rfl;have pB0:=(hndf.below (bT hBW Bz)).c0 (u:=.bool yf.s) rfl;have pB1:=(hndf.below (bT hBW Bz)).at 1 (.slice yf.A yf.l yf.c) rfl;have pB2:=(hndf.below (bT hBW Bz)).at 2 (.bool yf.s') rfl;have pB3:=(hndf.below (bT hBW Bz)).at 3 (.slice yf.A' yf.l' yf.c') rfl;refine hK.out _ _ ⟨pb4,pc0,pc1,pc2,pc3,pA0,pA1,pA2,pA3,pB0,pB1,pB2,pB3⟩ (fun _=>?_);try simp only[uW,uX,uY,uZ]
     clear hK K;refine wpPlan_late (o:=⟨none,_,_,_,_,_⟩) rfl rfl zda (fun K hK=>?_);go_simp
     refine hK.out _ _ ?_;try simp only[Act.put,uX,uY,uZ]
     clear hK K;refine wpPlan_done ?_;obtain⟨V31,hW,x,kk,far,bel⟩:=store4 (.bool s32) (.slice A32 l32 c32) (.bool s32r) (.slice A32r l32r c32r) (zx HX2 Bz) nofun nofun nofun nofun;rw[←hW];clear hW;replace h32:=h32.k kk;replace hB:=bel w.heap.size w zo (bT hB Bz);replace hBW:=bel wB.heap.size wB zo (bT hBW Bz);replace HX0:=zf far HX0 Bz;replace HX1:=zf far HX1 Bz;replace HX2:=zh x;clear x kk far bel Bz;have Bz:=zr V31;clear pb4 pc0 pc1 pc2 pc3 fc0 fc1 fc2 fc3 y2 pA0 pA1 pA2 pA3 pB0 pB1 pB2 pB3;go_wp2_with fail
     go_roundg (N-(i+1))
     case measure=>have:=HGK.out;omega
     case rel=>exact⟨i+1,⟨s32,A32,c32,l32,s32r,A32r,c32r,l32r,q.q+yc.q*yf.q,true⟩,zo,rfl,by go_num,HX0.out.below (bT Bz),HX1.out.below (bT Bz),HX2.out.below (bT Bz),⟨by rw[HSM.out];exact RN.below h32,by rw[HSM.out,HMU.out];have:=sz_add HUS.out hs1;omega⟩,bT (bT hB Bz),bT (bT hBW Bz)⟩
    ·obtain rfl:i=N:=zo;obtain⟨N,hN0⟩:∃N,N=i:=⟨_,rfl⟩;subst hN0;have j2:¬(N:Int)<(N:Int):=zo;have hrr:=rightP_rows hr;obtain⟨kl1,kl2,kl3,kl4,kl5⟩:=HFS.out.fm.lens;have HRL:Hid (RR.length=rn):=zh hrsl.1;have HVL:Hid (V.length=vn):=zh h.vsl.1;have HCVS:=zh (HFS.out.fm.r1.sl' elt_vcs kl1);have HLOS:=zh (HFS.out.fm.r2.sl' elt_frs kl2);have HHIS:=zh (HFS.out.fm.r3.sl' elt_frs kl3);have HBBS:=zh (HFS.out.fm.r5.sl' elt_frs kl5);have hck:=cols_ok (by have h9:=HCL.out;rw[←HRL.out] at h9;exact h9) (by rw[kl1,HRL.out];exact hN.symm) hrr (by rw[HRL.out];exact hrn);have HCVC:Hid (∀v∈CV,CN wF v 10∧v.n≤1000∧Rise (prs v.L)):=zh fun v k=>⟨HFS.out.ts.cn.2 v k,by have h8:=(HFS.out.ts.cn.2 v k).1.1;have:=(hck v k).1;omega,(hck v k).2⟩;have hha:=forms_all HVL.out HRL.out hN HCL.out kl1 kl2 kl3 kl5 HLO.out HHI.out HBB.out HFU.out hx.1 hrr HU.out;have hcl:C.length≤vn:=right_len (rightP_parts hr).2.2.2;have hcl2:C.length=cn:=h.csl.1;have HCN:Hid (cn≤1000):=zh zo;have HCK:Hid (1+cn*(cn*(8+2)+(KB+3)+3)≤12590000):=zh (brow zo hKB).2;have HCE:Hid (sumTo (fun j=>fq CO j*fq F j) N=pdot (prs C) (idxP (X.map fun x=>x.q))):=zh (by
      have h9:=forms_cost (CO:=CO) (C:=C) HFU.out (fun t ht=>by
       obtain⟨y,hy,rfl⟩:=prs_mem ht;have h8:=(rightB_nrm (rightP_parts hr).2.2.2).2 y hy;exact⟨h8.1,h8.2.1⟩) (fun j y hy=>by rw[(HCO.out j y hy).2.2.2];unfold coF;rw[h.csl.1]) (by rw[kl4,HRL.out];exact hN.symm)
      rwa [HRL.out,hN] at h9)
     have hkn:1+N*12600400≤1000000000:=zo;clear hck hcl hcl2 hrr;by_cases hu0:u=0
     ·have HHF:Hid (holdsF CV LO HI BB F N rn=true):=zh (by rw[hha,hu0];rfl);clear hha HU;subst hu0;have Bz:=zr wr;obtain⟨pa0,pa1,pa2,-⟩:=(zx HX0 Bz).cz;obtain⟨pb0,pb1,pb2,pb3,pb4,pb5,-⟩:=(zx HX1 Bz).cz;obtain⟨pc0,pc1,pc2,pc3,-⟩:=(zx HX2 Bz).cz;go_wp2_with fail
      (try simp only[vAa,vBa,vC])
      refine zl (zz [0,1,3,4] (.only 2 (zz [5,6,7,8,9,10,11,12,13] (.only 14 (.only 15 (zz [16,17] (.only 18 (zz [19,20] .done)))))))) [] (zsa pa0 (zsa pa1 (zsa pa2 (zsa pb0 (zsa pb1 (zsa pb2 (zsa pb3 (zsa pb4 (zsa pb5 (zsa pc0 (zsa pc1 (zsa pc2 (zIa pc3))))))))))))) ?_;iterate 4 (refine zUa ?_;try simp only[uW,uX,uY,uZ])
      refine zC 89 rfl rfl (fun K hK=>?_);go_simp
      with_reducible refine(holds15_q (MC:=10) (KD:=300) (mx:=12600000) (HCVS.out.below (bT HWB.out (bT hBW (bT (b:=wr) Bz)))) (zh fun v k=>⟨(HCVC.out v k).1.below (bT HWB.out (bT hBW (bT (b:=wr) Bz))),(HCVC.out v k).2⟩) (HLOS.out.below (bT HWB.out (bT hBW (bT (b:=wr) Bz)))) (zh (HLO.out.all.below (bT HWB.out (bT hBW (bT (b:=wr) Bz))))) (HHIS.out.below (bT HWB.out (bT hBW (bT (b:=wr) Bz)))) (zh (HHI.out.all.below (bT HWB.out (bT hBW (bT (b:=wr) Bz))))) (HBBS.out.below (bT HWB.out (bT hBW (bT (b:=wr) Bz)))) (zh (HBB.out.all.below (bT HWB.out (bT hBW (bT (b:=wr) Bz))))) (HSF.out.below (bT hBW (bT (b:=wr) Bz))) (zh (FRS.all (FRS.below HFR.out (bT hBW (bT (b:=wr) Bz))))) zo zo zda zda zda true HHF (zt hT hB Bz)).mono ?_
      rintro e w51 ⟨rfl,b51⟩;replace b51:=zq (a:=wr) b51;replace hu:=hu.below b51;replace Bz:=bT Bz b51;clear b51;clear pa0 pa1 pa2 pb0 pb1 pb2 pb3 pb4 pb5 pc0 pc1 pc2 pc3;obtain⟨pa0,pa1,pa2,-⟩:=(zx HX0 Bz).cz;obtain⟨pb0,pb1,pb2,pb3,pb4,pb5,-⟩:=(zx HX1 Bz).cz;obtain⟨pc0,pc1,pc2,pc3,-⟩:=(zx HX2 Bz).cz;refine hK.out _ _ ⟨pa0,pa1,pa2,pb0,pb1,pb2,pb3,pb4,pb5,pc0,pc1,pc2,pc3⟩ (fun _=>?_);try simp only[uW,uX,uY,uZ]
      clear hK K;refine zUa ?_;try simp only[uW,uX,uY,uZ]
      iterate 2 (refine zN rfl rfl ?_;try simp only[uW,uX,uY,uZ])
      iterate 6 (refine zUa ?_;try simp only[uW,uX,uY,uZ])
      refine zC 101 rfl rfl (fun K hK=>?_);go_simp
      with_reducible refine(value_q (p:=⟨vA,vn,vc,V,rA,rn,rc,RR,cA,cn,cc,C⟩) (mx:=KB) (KK:=12590000) (HOK.out.below (bT hB (bT (b:=w51) Bz))) (hx.below (bT hB (bT (b:=w51) Bz))) (zh fun x k=>(hxf.out x k).below (bT hB (bT (b:=w51) Bz))) zo zo HCN.out HCK.out zda (zt hT hB Bz)).mono ?_
      rintro e w52 ⟨s52,A52,c52,l52,s52r,A52r,c52r,l52r,rfl,h52,z52,b52⟩;replace b52:=zq (a:=w51) b52;replace hu:=hu.below b52;replace Bz:=bT Bz b52;clear b52;clear pa0 pa1 pa2 pb0 pb1 pb2 pb3 pb4 pb5 pc0 pc1 pc2 pc3;obtain⟨pa0,pa1,pa2,-⟩:=(zx HX0 Bz).cz;obtain⟨pb0,pb1,pb2,pb3,pb4,pb5,-⟩:=(zx HX1 Bz).cz;obtain⟨pc0,pc1,pc2,pc3,-⟩:=(zx HX2 Bz).cz;refine hK.out _ _ ⟨pa0,pa1,pa2,pb0,pb1,pb2,pb3,pb4,pb5,pc0,pc1,pc2,pc3⟩ (fun _=>?_);try simp only[uW,uX,uY,uZ]
      clear hK K;refine zC 102 rfl rfl (fun K hK=>?_);go_simp
      with_reducible refine(same_q (NumIs.rr (NumIs.below hu)) (RN.r' (RN.below h52) z52) zo true (zh (decide_eq_true HCE.out))).mono ?_
      rintro e w53 ⟨rfl,b53⟩;replace b53:=zq (a:=w52) b53;replace Bz:=bT Bz b53;clear b53;clear pa0 pa1 pa2 pb0 pb1 pb2 pb3 pb4 pb5 pc0 pc1 pc2 pc3;obtain⟨pa0,pa1,pa2,-⟩:=(zx HX0 Bz).cz;obtain⟨pb0,pb1,pb2,pb3,pb4,pb5,-⟩:=(zx HX1 Bz).cz;obtain⟨pc0,pc1,pc2,pc3,-⟩:=(zx HX2 Bz).cz;refine hK.out _ _ ⟨pa0,pa1,pa2,pb0,pb1,pb2,pb3,pb4,pb5,pc0,pc1,pc2,pc3⟩ (fun _=>?_);try simp only[uW,uX,uY,uZ]
      clear hK K;iterate 2 (refine zUa ?_;try simp only[uW,uX,uY,uZ])
      refine zC 105 rfl rfl (fun K hK=>?_);go_simp
      with_reducible refine(awake15_q (zt hT hB Bz)).mono ?_
      rintro e w54 ⟨rfl,b54⟩;replace b54:=zq (a:=w53) b54;replace Bz:=bT Bz b54;clear b54;clear pa0 pa1 pa2 pb0 pb1 pb2 pb3 pb4 pb5 pc0 pc1 pc2 pc3;obtain⟨pa0,pa1,pa2,-⟩:=(zx HX0 Bz).cz;obtain⟨pb0,pb1,pb2,pb3,pb4,pb5,-⟩:=(zx HX1 Bz).cz;obtain⟨pc0,pc1,pc2,pc3,-⟩:=(zx HX2 Bz).cz;refine hK.out _ _ ⟨pa0,pa1,pa2,pb0,pb1,pb2,pb3,pb4,pb5,pc0,pc1,pc2,pc3⟩ (fun _=>?_);try simp only[uW,uX,uY,uZ]
      clear hK K;iterate 2 (refine zUa ?_;try simp only[uW,uX,uY,uZ])
      refine wpPlan_done ?_;go_wp2_with fail
      go_ret
      have hF:=bT (c:=w54) hB Bz;exact⟨rfl,bT hF⟩
     ·by_cases hu3:u=3
      ·have HHF:Hid (holdsF CV LO HI BB F N rn=true):=zh (by rw[hha,hu3];rfl);clear hha HU;subst hu3;have Bz:=zr wr;obtain⟨pa0,pa1,pa2,-⟩:=(zx HX0 Bz).cz;obtain⟨pb0,pb1,pb2,pb3,pb4,pb5,-⟩:=(zx HX1 Bz).cz;obtain⟨pc0,pc1,pc2,pc3,-⟩:=(zx HX2 Bz).cz;go_wp2_with fail
       (try simp only[vAa,vBa,vC])
       refine zl (zz [0,1,3,4] (.only 2 (zz [5,6,7,8,9,10,11,12,13] (.only 14 (.only 15 (zz [16,17] (.only 18 (zz [19,20] .done)))))))) [] (zsa pa0 (zsa pa1 (zsa pa2 (zsa pb0 (zsa pb1 (zsa pb2 (zsa pb3 (zsa pb4 (zsa pb5 (zsa pc0 (zsa pc1 (zsa pc2 (zIa pc3))))))))))))) ?_;iterate 4 (refine zUa ?_;try simp only[uW,uX,uY,uZ])
       refine zC 89 rfl rfl (fun K hK=>?_);go_simp
       with_reducible refine(holds15_q (MC:=10) (KD:=300) (mx:=12600000) (HCVS.out.below (bT HWB.out (bT hBW (bT (b:=wr) Bz)))) (zh fun v k=>⟨(HCVC.out v k).1.below (bT HWB.out (bT hBW (bT (b:=wr) Bz))),(HCVC.out v k).2⟩) (HLOS.out.below (bT HWB.out (bT hBW (bT (b:=wr) Bz)))) (zh (HLO.out.all.below (bT HWB.out (bT hBW (bT (b:=wr) Bz))))) (HHIS.out.below (bT HWB.out (bT hBW (bT (b:=wr) Bz)))) (zh (HHI.out.all.below (bT HWB.out (bT hBW (bT (b:=wr) Bz))))) (HBBS.out.below (bT HWB.out (bT hBW (bT (b:=wr) Bz)))) (zh (HBB.out.all.below (bT HWB.out (bT hBW (bT (b:=wr) Bz))))) (HSF.out.below (bT hBW (bT (b:=wr) Bz))) (zh (FRS.all (FRS.below HFR.out (bT hBW (bT (b:=wr) Bz))))) zo zo zda zda zda true HHF (zt hT hB Bz)).mono ?_
       rintro e w51 ⟨rfl,b51⟩;replace b51:=zq (a:=wr) b51;replace hu:=hu.below b51;replace Bz:=bT Bz b51;clear b51;clear pa0 pa1 pa2 pb0 pb1 pb2 pb3 pb4 pb5 pc0 pc1 pc2 pc3;obtain⟨pa0,pa1,pa2,-⟩:=(zx HX0 Bz).cz;obtain⟨pb0,pb1,pb2,pb3,pb4,pb5,-⟩:=(zx HX1 Bz).cz;obtain⟨pc0,pc1,pc2,pc3,-⟩:=(zx HX2 Bz).cz;refine hK.out _ _ ⟨pa0,pa1,pa2,pb0,pb1,pb2,pb3,pb4,pb5,pc0,pc1,pc2,pc3⟩ (fun _=>?_);try simp only[uW,uX,uY,uZ]
       clear hK K;iterate 9 (refine zUa ?_;try simp only[uW,uX,uY,uZ])
       refine zC 101 rfl rfl (fun K hK=>?_);go_simp
       with_reducible refine(value_q (p:=⟨vA,vn,vc,V,rA,rn,rc,RR,cA,cn,cc,C⟩) (mx:=KB) (KK:=12590000) (HOK.out.below (bT hB (bT (b:=w51) Bz))) (hx.below (bT hB (bT (b:=w51) Bz))) (zh fun x k=>(hxf.out x k).below (bT hB (bT (b:=w51) Bz))) zo zo HCN.out HCK.out zda (zt hT hB Bz)).mono ?_
       rintro e w52 ⟨s52,A52,c52,l52,s52r,A52r,c52r,l52r,rfl,h52,z52,b52⟩;replace b52:=zq (a:=w51) b52;replace hu:=hu.below b52;replace Bz:=bT Bz b52;clear b52;clear pa0 pa1 pa2 pb0 pb1 pb2 pb3 pb4 pb5 pc0 pc1 pc2 pc3;obtain⟨pa0,pa1,pa2,-⟩:=(zx HX0 Bz).cz;obtain⟨pb0,pb1,pb2,pb3,pb4,pb5,-⟩:=(zx HX1 Bz).cz;obtain⟨pc0,pc1,pc2,pc3,-⟩:=(zx HX2 Bz).cz;refine hK.out _ _ ⟨pa0,pa1,pa2,pb0,pb1,pb2,pb3,pb4,pb5,pc0,pc1,pc2,pc3⟩ (fun _=>?_);try simp only[uW,uX,uY,uZ]
       clear hK K;refine zC 102 rfl rfl (fun K hK=>?_);go_simp
       with_reducible refine(same_q (NumIs.rr (NumIs.below hu)) (RN.r' (RN.below h52) z52) zo true (zh (decide_eq_true HCE.out))).mono ?_
       rintro e w53 ⟨rfl,b53⟩;replace b53:=zq (a:=w52) b53;replace Bz:=bT Bz b53;clear b53;clear pa0 pa1 pa2 pb0 pb1 pb2 pb3 pb4 pb5 pc0 pc1 pc2 pc3;obtain⟨pa0,pa1,pa2,-⟩:=(zx HX0 Bz).cz;obtain⟨pb0,pb1,pb2,pb3,pb4,pb5,-⟩:=(zx HX1 Bz).cz;obtain⟨pc0,pc1,pc2,pc3,-⟩:=(zx HX2 Bz).cz;refine hK.out _ _ ⟨pa0,pa1,pa2,pb0,pb1,pb2,pb3,pb4,pb5,pc0,pc1,pc2,pc3⟩ (fun _=>?_);try simp only[uW,uX,uY,uZ]
       clear hK K;iterate 2 (refine zUa ?_;try simp only[uW,uX,uY,uZ])
       refine zC 105 rfl rfl (fun K hK=>?_);go_simp
       with_reducible refine(awake15_q (zt hT hB Bz)).mono ?_
       rintro e w54 ⟨rfl,b54⟩;replace b54:=zq (a:=w53) b54;replace Bz:=bT Bz b54;clear b54;clear pa0 pa1 pa2 pb0 pb1 pb2 pb3 pb4 pb5 pc0 pc1 pc2 pc3;obtain⟨pa0,pa1,pa2,-⟩:=(zx HX0 Bz).cz;obtain⟨pb0,pb1,pb2,pb3,pb4,pb5,-⟩:=(zx HX1 Bz).cz;obtain⟨pc0,pc1,pc2,pc3,-⟩:=(zx HX2 Bz).cz;refine hK.out _ _ ⟨pa0,pa1,pa2,pb0,pb1,pb2,pb3,pb4,pb5,pc0,pc1,pc2,pc3⟩ (fun _=>?_);try simp only[uW,uX,uY,uZ]
       clear hK K;iterate 2 (refine zUa ?_;try simp only[uW,uX,uY,uZ])
       refine wpPlan_done ?_;go_wp2_with fail
       go_ret
       have hF:=bT (c:=w54) hB Bz;exact⟨rfl,bT hF⟩
      ·have u0:(u==0)=false:=beq_eq_false_iff_ne.2 hu0;have u3:(u==3)=false:=beq_eq_false_iff_ne.2 hu3;have HHF:Hid (holdsF CV LO HI BB F N rn=false):=zh (by rw[hha,u0,u3];rfl);clear hha HU hu0 hu3;have Bz:=zr wr;obtain⟨pa0,pa1,pa2,-⟩:=(zx HX0 Bz).cz;obtain⟨pb0,pb1,pb2,pb3,pb4,pb5,-⟩:=(zx HX1 Bz).cz;obtain⟨pc0,pc1,pc2,pc3,-⟩:=(zx HX2 Bz).cz;go_wp2_with fail
       (try simp only[vAa,vBa,vC])
       refine zl (zz [0,1,3,4] (.only 2 (zz [5,6,7,8,9,10,11,12,13] (.only 14 (.only 15 (zz [16,17] (.only 18 (zz [19,20] .done)))))))) [] (zsa pa0 (zsa pa1 (zsa pa2 (zsa pb0 (zsa pb1 (zsa pb2 (zsa pb3 (zsa pb4 (zsa pb5 (zsa pc0 (zsa pc1 (zsa pc2 (zIa pc3))))))))))))) ?_;iterate 4 (refine zUa ?_;try simp only[uW,uX,uY,uZ])
       refine zC 89 rfl rfl (fun K hK=>?_);go_simp
       with_reducible refine(holds15_q (MC:=10) (KD:=300) (mx:=12600000) (HCVS.out.below (bT HWB.out (bT hBW (bT (b:=wr) Bz)))) (zh fun v k=>⟨(HCVC.out v k).1.below (bT HWB.out (bT hBW (bT (b:=wr) Bz))),(HCVC.out v k).2⟩) (HLOS.out.below (bT HWB.out (bT hBW (bT (b:=wr) Bz)))) (zh (HLO.out.all.below (bT HWB.out (bT hBW (bT (b:=wr) Bz))))) (HHIS.out.below (bT HWB.out (bT hBW (bT (b:=wr) Bz)))) (zh (HHI.out.all.below (bT HWB.out (bT hBW (bT (b:=wr) Bz))))) (HBBS.out.below (bT HWB.out (bT hBW (bT (b:=wr) Bz)))) (zh (HBB.out.all.below (bT HWB.out (bT hBW (bT (b:=wr) Bz))))) (HSF.out.below (bT hBW (bT (b:=wr) Bz))) (zh (FRS.all (FRS.below HFR.out (bT hBW (bT (b:=wr) Bz))))) zo zo zda zda zda false HHF (zt hT hB Bz)).mono ?_
       rintro e w51 ⟨rfl,b51⟩;replace b51:=zq (a:=wr) b51;replace hu:=hu.below b51;replace Bz:=bT Bz b51;clear b51;clear pa0 pa1 pa2 pb0 pb1 pb2 pb3 pb4 pb5 pc0 pc1 pc2 pc3;obtain⟨pa0,pa1,pa2,-⟩:=(zx HX0 Bz).cz;obtain⟨pb0,pb1,pb2,pb3,pb4,pb5,-⟩:=(zx HX1 Bz).cz;obtain⟨pc0,pc1,pc2,pc3,-⟩:=(zx HX2 Bz).cz;refine hK.out _ _ ⟨pa0,pa1,pa2,pb0,pb1,pb2,pb3,pb4,pb5,pc0,pc1,pc2,pc3⟩ (fun _=>?_);try simp only[uW,uX,uY,uZ]
       clear hK K;iterate 9 (refine zUa ?_;try simp only[uW,uX,uY,uZ])
       refine zC 101 rfl rfl (fun K hK=>?_);go_simp
       with_reducible refine(value_q (p:=⟨vA,vn,vc,V,rA,rn,rc,RR,cA,cn,cc,C⟩) (mx:=KB) (KK:=12590000) (HOK.out.below (bT hB (bT (b:=w51) Bz))) (hx.below (bT hB (bT (b:=w51) Bz))) (zh fun x k=>(hxf.out x k).below (bT hB (bT (b:=w51) Bz))) zo zo HCN.out HCK.out zda (zt hT hB Bz)).mono ?_
       rintro e w52 ⟨s52,A52,c52,l52,s52r,A52r,c52r,l52r,rfl,h52,z52,b52⟩;replace b52:=zq (a:=w51) b52;replace hu:=hu.below b52;replace Bz:=bT Bz b52;clear b52;clear pa0 pa1 pa2 pb0 pb1 pb2 pb3 pb4 pb5 pc0 pc1 pc2 pc3;obtain⟨pa0,pa1,pa2,-⟩:=(zx HX0 Bz).cz;obtain⟨pb0,pb1,pb2,pb3,pb4,pb5,-⟩:=(zx HX1 Bz).cz;obtain⟨pc0,pc1,pc2,pc3,-⟩:=(zx HX2 Bz).cz;refine hK.out _ _ ⟨pa0,pa1,pa2,pb0,pb1,pb2,pb3,pb4,pb5,pc0,pc1,pc2,pc3⟩ (fun _=>?_);try simp only[uW,uX,uY,uZ]
       clear hK K;refine zC 102 rfl rfl (fun K hK=>?_);go_simp
       with_reducible refine(same_q (NumIs.rr (NumIs.below hu)) (RN.r' (RN.below h52) z52) zo true (zh (decide_eq_true HCE.out))).mono ?_
       rintro e w53 ⟨rfl,b53⟩;replace b53:=zq (a:=w52) b53;replace Bz:=bT Bz b53;clear b53;clear pa0 pa1 pa2 pb0 pb1 pb2 pb3 pb4 pb5 pc0 pc1 pc2 pc3;obtain⟨pa0,pa1,pa2,-⟩:=(zx HX0 Bz).cz;obtain⟨pb0,pb1,pb2,pb3,pb4,pb5,-⟩:=(zx HX1 Bz).cz;obtain⟨pc0,pc1,pc2,pc3,-⟩:=(zx HX2 Bz).cz;refine hK.out _ _ ⟨pa0,pa1,pa2,pb0,pb1,pb2,pb3,pb4,pb5,pc0,pc1,pc2,pc3⟩ (fun _=>?_);try simp only[uW,uX,uY,uZ]
       clear hK K;iterate 2 (refine zUa ?_;try simp only[uW,uX,uY,uZ])
       refine zC 105 rfl rfl (fun K hK=>?_);go_simp
       with_reducible refine(awake15_q (zt hT hB Bz)).mono ?_
       rintro e w54 ⟨rfl,b54⟩;replace b54:=zq (a:=w53) b54;replace Bz:=bT Bz b54;clear b54;clear pa0 pa1 pa2 pb0 pb1 pb2 pb3 pb4 pb5 pc0 pc1 pc2 pc3;obtain⟨pa0,pa1,pa2,-⟩:=(zx HX0 Bz).cz;obtain⟨pb0,pb1,pb2,pb3,pb4,pb5,-⟩:=(zx HX1 Bz).cz;obtain⟨pc0,pc1,pc2,pc3,-⟩:=(zx HX2 Bz).cz;refine hK.out _ _ ⟨pa0,pa1,pa2,pb0,pb1,pb2,pb3,pb4,pb5,pc0,pc1,pc2,pc3⟩ (fun _=>?_);try simp only[uW,uX,uY,uZ]
       clear hK K;iterate 2 (refine zUa ?_;try simp only[uW,uX,uY,uZ])
       refine wpPlan_done ?_;go_wp2_with fail
       go_ret
       have hF:=bT (c:=w54) hB Bz;exact⟨rfl,bT hF⟩
end Go.Proofs.YtjkgjiofmgapfaaGreatDoor
