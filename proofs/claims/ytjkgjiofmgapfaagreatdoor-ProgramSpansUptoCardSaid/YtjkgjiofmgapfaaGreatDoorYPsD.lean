/-
  ProgramSpans, the walk. Written by wip/gen/pr12.py.
-/
import Derived.Test.YtjkgjiofmgapfaaGreatDoorYPgI
import Derived.Test.YtjkgjiofmgapfaaGreatDoorYPr9
set_option maxHeartbeats 4000000
set_option maxRecDepth 100000
namespace Go.Proofs.YtjkgjiofmgapfaaGreatDoor
open Go.RowKit Tw
theorem longF_no {k:Nat} {x:Fr} (h:longF k x=false):x.l≤k∧x.l'≤k:=by
 unfold longF at h
 rw[Bool.or_eq_false_iff,decide_eq_false_iff_not,decide_eq_false_iff_not] at h
 omega
theorem FrIn.ok {w:World} {x:Fr} {m:Nat} (h:FrIn w x) (hl:x.l≤m∧x.l'≤m):FrOk w m x:=h.2.2 m hl.1 hl.2
theorem FrIn.lens {w:World} {x:Fr} (h:FrIn w x):x.l≤9223372036854775807∧x.l'≤9223372036854775807:=⟨h.1,h.2.1⟩
theorem FrIn.below {w w':World} {x:Fr} (h:FrIn w x) (hb:Below w.heap.size w w'):FrIn w' x:=⟨h.1,h.2.1,fun m h1 h2=>(h.2.2 m h1 h2).below hb⟩
theorem TmIn.below {w w':World} {t:Tm} (h:TmIn w t) (hb:Below w.heap.size w w'):TmIn w' t:=⟨h.1.below hb,h.2⟩
theorem RwIn.below {w w':World} {x:Rw} (h:RwIn w x) (hb:Below w.heap.size w w'):RwIn w' x:=⟨h.sl.below hb,fun t ht=>(h.t t ht).below hb,h.n,h.nil,h.b.below hb⟩
theorem PgIn.below {w w':World} {KB:Nat} {p:Pg} (h:PgIn w KB p) (hb:Below w.heap.size w w'):PgIn w' KB p :=
 ⟨h.vsl.below hb,fun x hx=>⟨(h.v x hx).1.below hb,(h.v x hx).2.below hb⟩,h.rsl.below hb,fun x hx=>⟨(h.r x hx).1.below hb,(h.r x hx).2⟩,h.csl.below hb,fun t ht=>(h.c t ht).below hb,h.ns,h.nil⟩
theorem any_no {α:Type} {L:List α} {f:α→Bool} (h:L.any f=false):∀x∈L,f x=false:=fun x hx=>by
 cases e:f x with
 | false=>rfl
 | true=>rw[List.any_eq_true.2 ⟨x,hx,e⟩] at h;cases h
theorem rightP_bnd {p:Pg} (h:rightP p=true):∀x∈p.V,x.lo.q≤x.hi.q:=fun x hx=>by
 unfold rightP at h
 simp only[Bool.and_eq_true,decide_eq_true_eq,List.all_eq_true] at h
 have h1:=h.2.1 x hx
 unfold bndB at h1
 rw[decide_eq_true_eq] at h1
 unfold cmpQ at h1
 by_cases e:x.lo.q<x.hi.q
 ·exact Rat.le_of_lt e
 ·rw[if_neg e] at h1
  by_cases e2:x.lo.q=x.hi.q
  ·rw[e2];exact Rat.le_refl
  ·rw[if_neg e2] at h1
   omega
theorem rise_len {P:List (Int×Rat)} (h:Rise P) {n:Int} (hb:∀x∈P,0≤x.1∧x.1<n):(P.length:Int)≤max n 0:=by
 have key:∀(k:Nat) (hk:k<P.length),(k:Int)≤(P[k]).1:=by
  intro k
  induction k with
  | zero=>intro hk;exact(hb _ (List.getElem_mem hk)).1
  | succ k ih =>
   intro hk
   have h1:=ih (by omega)
   have h2:=List.pairwise_iff_getElem.1 h k (k+1) (by omega) hk (by omega)
   omega
 by_cases e:P.length=0
 ·rw[e];omega
 ·have h1:=key (P.length-1) (by omega)
  have h2:=(hb _ (List.getElem_mem (show P.length-1<P.length by omega))).2
  omega
theorem right_len {L:List Tm} {n:Nat} (h:rightB L (n:Int)=true):L.length≤n:=by
 have h1:=rightB_nrm h
 have h2:=rise_len h1.1.rise (n:=(n:Int)) (fun x hx=>by obtain⟨t,ht,rfl⟩:=prs_mem hx;exact⟨(h1.2 t ht).1,(h1.2 t ht).2.1⟩)
 rw[prs_len] at h2
 omega
theorem PgIn.ok {w:World} {KB:Nat} {p:Pg} (h:PgIn w KB p) (hKB:KB≤2000000) (hg:greatP p=false):PgOk w 8 p∧p.vn≤12∧p.rn≤12:=by
 unfold greatP longP at hg
 rw[Bool.or_eq_false_iff,Bool.or_eq_false_iff,Bool.or_eq_false_iff,Bool.or_eq_false_iff,decide_eq_false_iff_not,decide_eq_false_iff_not] at hg
 obtain⟨h1,h2,⟨h3,h4⟩,h5⟩:=hg
 refine⟨⟨h.vsl,fun x hx=>?_,h.rsl,fun x hx=>?_,h.csl,fun t ht=>?_,⟨Nat.le_trans h.ns.1 hKB,Nat.le_trans h.ns.2.1 hKB,Nat.le_trans h.ns.2.2 hKB⟩,h.nil⟩,by omega,by omega⟩
 ·have:=any_no h4 x hx
  unfold longV at this
  rw[Bool.or_eq_false_iff] at this
  exact⟨(h.v x hx).1.ok (longF_no this.1),(h.v x hx).2.ok (longF_no this.2)⟩
 ·have:=any_no h5 x hx
  unfold longW at this
  rw[Bool.or_eq_false_iff] at this
  obtain⟨r1,r2⟩:=h.r x hx
  exact⟨r1.sl,fun t ht=>(r1.t t ht).1.ok (longF_no (any_no this.1 t ht)),Nat.le_trans r2 hKB,r1.nil,r1.b.ok (longF_no this.2)⟩
 ·exact(h.c t ht).1.ok (longF_no (any_no h3 t ht))
theorem great_p {w:World} {KB:Nat} {p:Pg} (h:PgIn w KB p) (hKB:KB≤2000000) (q:Bool) (hq:Hid (greatP p=q)) :
  Calls Tryz.prog 16 #[.agg #[.slice p.vA p.vn p.vc,.slice p.rA p.rn p.rc,.slice p.cA p.cn p.cc]] w fun e w'=>e=.returned (.bool q)∧Below w.heap.size w w':=by
 obtain⟨vA,vn,vc,V,rA,rn,rc,R,cA,cn,cc,C⟩:=p
 have hns:vn≤KB∧rn≤KB∧cn≤KB:=h.ns
 have hn1:vn≤9223372036854775807:=by omega
 have hn2:rn≤9223372036854775807:=by omega
 have hn3:cn≤9223372036854775807:=by omega
 exact great_q (zh h.vsl) (zh h.rsl) (zh h.csl) (zh fun t ht=>(h.c t ht).1.lens) (zh fun x hx=>⟨(h.v x hx).1.lens,(h.v x hx).2.lens⟩)
  (zh fun x hx=>⟨(h.r x hx).1.b.lens,(h.r x hx).1.sl,zh fun t ht=>((h.r x hx).1.t t ht).1.lens,by have:=(h.r x hx).2;omega⟩) hn1 hn2 hn3 q hq
theorem spans_0 {w:World} {KB n c qn qc:Nat} {A qA:Option Addr} {p:Pg} (h:PgIn w KB p) (hKB:KB≤1048576) (HG:Hid (greatP p=true)) (hT:Hid (Tab w)) :
  Calls Tryz.prog 4 #[.agg #[.slice p.vA p.vn p.vc,.slice p.rA p.rn p.rc,.slice p.cA p.cn p.cc],.slice A n c,.slice qA qn qc] w (Yes w):=by
 have hK2:KB≤2000000:=by omega
 obtain⟨W,hW,x0,hB⟩:=zAc w #[.slice p.vA p.vn p.vc,.slice p.rA p.rn p.rc,.slice p.cA p.cn p.cc] 27
 have HX0:=zh x0
 clear x0
 have Bz:=Below.refl W.heap.size W
 obtain⟨p0_0,p0_1,p0_2,-⟩:=(zx HX0 Bz).cz
 go_enter Tryz.func4,Tryz.ntmps4
 go_wp2_with fail
 rw[←hW]
 clear hW
 go_wp2_with fail
 with_reducible refine(great_p (h.below (zAa hB (zAa (b:=W) Bz (by go_grown)))) hK2 true HG).mono ?_
 rintro e w1 ⟨rfl,b1⟩
 replace b1:=zAa (a:=W) (by go_grown) b1
 replace Bz:=zAa Bz b1
 clear b1
 clear p0_0 p0_1 p0_2
 go_wp2_with fail
 with_reducible refine(awake15_q (zh (Tab.below hT.out (zAa hB (zAa (b:=w1) Bz (by go_grown)))))).mono ?_
 rintro e w2 ⟨rfl,b2⟩
 replace b2:=zAa (a:=w1) (by go_grown) b2
 replace Bz:=zAa Bz b2
 clear b2
 go_wp2_with fail
 go_ret
 have hF:=zAa (c:=w2) hB Bz
 exact⟨rfl,zAa hF (by go_grown)⟩
theorem spans_1 {w:World} {KB n c qn qc:Nat} {A qA:Option Addr} {p:Pg} (h:PgIn w KB p) (hKB:KB≤1048576) (HG:Hid (greatP p=false)) (hr:rightP p=false) (hT:Hid (Tab w)) :
  Calls Tryz.prog 4 #[.agg #[.slice p.vA p.vn p.vc,.slice p.rA p.rn p.rc,.slice p.cA p.cn p.cc],.slice A n c,.slice qA qn qc] w (Yes w):=by
 have hK2:KB≤2000000:=by omega
 have HOK:=zh (h.ok hK2 HG.out).1
 have HR:Hid ((if rightP p then(0:Int) else 100)=100):=zh (by rw[hr];rfl)
 obtain⟨W,hW,x0,hB⟩:=zAc w #[.slice p.vA p.vn p.vc,.slice p.rA p.rn p.rc,.slice p.cA p.cn p.cc] 27
 have HX0:=zh x0
 clear x0
 have Bz:=Below.refl W.heap.size W
 obtain⟨p0_0,p0_1,p0_2,-⟩:=(zx HX0 Bz).cz
 go_enter Tryz.func4,Tryz.ntmps4
 go_wp2_with fail
 rw[←hW]
 clear hW
 go_wp2_with fail
 with_reducible refine(great_p (h.below (zAa hB (zAa (b:=W) Bz (by go_grown)))) hK2 false HG).mono ?_
 rintro e w1 ⟨rfl,b1⟩
 replace b1:=zAa (a:=W) (by go_grown) b1
 replace Bz:=zAa Bz b1
 clear b1
 clear p0_0 p0_1 p0_2
 obtain⟨p0_0,p0_1,p0_2,-⟩:=(zx HX0 Bz).cz
 go_wp2_with fail
 with_reducible refine(pright_q (PgOk.below HOK.out (zAa hB (zAa (b:=w1) Bz (by go_grown)))) (by decide) 100 HR (zh (Tab.below hT.out (zAa hB (zAa (b:=w1) Bz (by go_grown)))))).mono ?_
 rintro e w2 ⟨rfl,b2⟩
 replace b2:=zAa (a:=w1) (by go_grown) b2
 replace Bz:=zAa Bz b2
 clear b2
 clear p0_0 p0_1 p0_2
 go_wp2_with fail
 with_reducible refine(awake15_q (zh (Tab.below hT.out (zAa hB (zAa (b:=w2) Bz (by go_grown)))))).mono ?_
 rintro e w3 ⟨rfl,b3⟩
 replace b3:=zAa (a:=w2) (by go_grown) b3
 replace Bz:=zAa Bz b3
 clear b3
 go_wp2_with fail
 go_ret
 have hF:=zAa (c:=w3) hB Bz
 exact⟨rfl,zAa hF (by go_grown)⟩
theorem spans_2 {w:World} {KB n c qn qc:Nat} {A qA:Option Addr} {p:Pg} {L:List Tm} (h:PgIn w KB p) (hKB:KB≤1048576) (ha:Sl Tm.cs 5 w A n c L) (haf:Hid (∀t∈L,FrOk w KB t.x)) (hn:n≤KB) (HG:Hid (greatP p=false)) (hr:rightP p=true) (HA:Hid (rightB L (p.vn:Int)=false)) (hT:Hid (Tab w)) :
  Calls Tryz.prog 4 #[.agg #[.slice p.vA p.vn p.vc,.slice p.rA p.rn p.rc,.slice p.cA p.cn p.cc],.slice A n c,.slice qA qn qc] w (Yes w):=by
 have hK2:KB≤2000000:=by omega
 have HOK:=zh (h.ok hK2 HG.out).1
 have HR:Hid ((if rightP p then(0:Int) else 100)=0):=zh (by rw[hr];rfl)
 obtain⟨W,hW,x0,hB⟩:=zAc w #[.slice p.vA p.vn p.vc,.slice p.rA p.rn p.rc,.slice p.cA p.cn p.cc] 27
 have HX0:=zh x0
 clear x0
 have Bz:=Below.refl W.heap.size W
 obtain⟨p0_0,p0_1,p0_2,-⟩:=(zx HX0 Bz).cz
 go_enter Tryz.func4,Tryz.ntmps4
 go_wp2_with fail
 rw[←hW]
 clear hW
 go_wp2_with fail
 with_reducible refine(great_p (h.below (zAa hB (zAa (b:=W) Bz (by go_grown)))) hK2 false HG).mono ?_
 rintro e w1 ⟨rfl,b1⟩
 replace b1:=zAa (a:=W) (by go_grown) b1
 replace Bz:=zAa Bz b1
 clear b1
 clear p0_0 p0_1 p0_2
 obtain⟨p0_0,p0_1,p0_2,-⟩:=(zx HX0 Bz).cz
 go_wp2_with fail
 with_reducible refine(pright_q (PgOk.below HOK.out (zAa hB (zAa (b:=w1) Bz (by go_grown)))) (by decide) 0 HR (zh (Tab.below hT.out (zAa hB (zAa (b:=w1) Bz (by go_grown)))))).mono ?_
 rintro e w2 ⟨rfl,b2⟩
 replace b2:=zAa (a:=w1) (by go_grown) b2
 replace Bz:=zAa Bz b2
 clear b2
 clear p0_0 p0_1 p0_2
 have p0_0:=(zx HX0 Bz).cell 0 (.slice p.vA p.vn p.vc) rfl
 go_wp2_with fail
 with_reducible refine(right_q (ha.below (zAa hB (zAa (b:=w2) Bz (by go_grown)))) (fun t ht=>(haf.out t ht).below (zAa hB (zAa (b:=w2) Bz (by go_grown)))) (by omega) (by omega) false HA (zh (Tab.below hT.out (zAa hB (zAa (b:=w2) Bz (by go_grown)))))).mono ?_
 rintro e w3 ⟨rfl,b3⟩
 replace b3:=zAa (a:=w2) (by go_grown) b3
 replace Bz:=zAa Bz b3
 clear b3
 clear p0_0
 go_wp2_with fail
 with_reducible refine(awake15_q (zh (Tab.below hT.out (zAa hB (zAa (b:=w3) Bz (by go_grown)))))).mono ?_
 rintro e w4 ⟨rfl,b4⟩
 replace b4:=zAa (a:=w3) (by go_grown) b4
 replace Bz:=zAa Bz b4
 clear b4
 go_wp2_with fail
 go_ret
 have hF:=zAa (c:=w4) hB Bz
 exact⟨rfl,zAa hF (by go_grown)⟩
def lstF (V:List Vr) (P:List (Int×Rat)) (i:Nat):List Fr:=(List.range i).map fun j=>match V[j]? with | some v=>if(pget P (j:Int)).num.sign<0 then v.hi else v.lo | none=>zFr
def mstF (V:List Vr) (P:List (Int×Rat)) (i:Nat):List Fr:=(List.range i).map fun j=>match V[j]? with | some v=>if(pget P (j:Int)).num.sign<0 then v.lo else v.hi | none=>zFr
theorem lstF_neg {V:List Vr} {P:List (Int×Rat)} {i:Nat} {v:Vr} (h:V[i]?=some v) (hn:(pget P (i:Int)).num.sign<0):lstF V P (i+1)=lstF V P i++[v.hi]:=by unfold lstF;rw[List.range_succ,List.map_append,List.map_singleton,h];simp only[if_pos hn]
theorem lstF_pos {V:List Vr} {P:List (Int×Rat)} {i:Nat} {v:Vr} (h:V[i]?=some v) (hn:0≤(pget P (i:Int)).num.sign):lstF V P (i+1)=lstF V P i++[v.lo]:=by unfold lstF;rw[List.range_succ,List.map_append,List.map_singleton,h];simp only[if_neg (Int.not_lt.2 hn)]
theorem mstF_neg {V:List Vr} {P:List (Int×Rat)} {i:Nat} {v:Vr} (h:V[i]?=some v) (hn:(pget P (i:Int)).num.sign<0):mstF V P (i+1)=mstF V P i++[v.lo]:=by unfold mstF;rw[List.range_succ,List.map_append,List.map_singleton,h];simp only[if_pos hn]
theorem mstF_pos {V:List Vr} {P:List (Int×Rat)} {i:Nat} {v:Vr} (h:V[i]?=some v) (hn:0≤(pget P (i:Int)).num.sign):mstF V P (i+1)=mstF V P i++[v.hi]:=by unfold mstF;rw[List.range_succ,List.map_append,List.map_singleton,h];simp only[if_neg (Int.not_lt.2 hn)]
def Btw (X:List Fr) (V:List Vr):Prop:=∀(j:Nat) y v,X[j]?=some y→V[j]?=some v→v.lo.q≤y.q∧y.q≤v.hi.q
theorem Btw.snoc {X:List Fr} {V:List Vr} {i:Nat} {y:Fr} {v:Vr} (h:Btw X V) (hl:X.length=i) (hv:V[i]?=some v) (hy:v.lo.q≤y.q∧y.q≤v.hi.q):Btw (X++[y]) V:=fun j y' v' h1 h2=>by
 by_cases e:j<X.length
 ·rw[List.getElem?_append_left e] at h1
  exact h j y' v' h1 h2
 ·rw[List.getElem?_append_right (by omega)] at h1
  have e2:j-X.length=0:=by
   by_cases e3:j-X.length=0
   ·exact e3
   ·rw[List.getElem?_eq_none (by simp;omega)] at h1;cases h1
  rw[e2] at h1
  obtain rfl:y=y':=by simpa using h1
  obtain rfl:j=i:=by omega
  rw[hv] at h2
  cases h2
  exact hy
theorem AllRn.snoc {w:World} {KB:Nat} {L:List Fr} (h:AllRn w KB L) {x:Fr} (hx:RN w x.s x.A x.c x.l x.s' x.A' x.c' x.l' x.q∧x.ex=true∧sz x.q+1≤KB):AllRn w KB (L++[x]):=fun y hy=>by
 rcases List.mem_append.1 hy with hy | hy
 ·exact h y hy
 ·rw[List.mem_singleton.1 hy];exact hx
theorem sz_of4 {z:Nat} (h:z≤4):sz (qof (z:Int) 4)≤1:=sz_one (by omega) (by decide) (by decide)
theorem btw_q {z:Nat} (h:z≤4) {lo hi:Rat} (hle:lo≤hi):lo≤lo+qof (z:Int) 4*(hi-lo)∧lo+qof (z:Int) 4*(hi-lo)≤hi:=by
 have hd:0≤hi-lo:=by grind
 have h0:0≤qof (z:Int) 4∧qof (z:Int) 4≤1:=by
  obtain rfl | rfl | rfl | rfl | rfl:z=0∨z=1∨z=2∨z=3∨z=4:=by omega
  all_goals decide +kernel
 have h1:=Rat.mul_nonneg h0.1 hd
 have h2:=Rat.mul_nonneg (show 0≤1-qof (z:Int) 4 by grind) hd
 constructor<;>grind
theorem rem5 (u:Int):∃z:Nat,z≤4∧IntKind.i64.wrap (u.tmod 5)=u.tmod 5∧IntKind.i64.wrap (u.tmod 5+5)=u.tmod 5+5∧(u.tmod 5+5).tmod 5=(z:Int)∧IntKind.i64.wrap (z:Int)=(z:Int)∧True:=by
 have h1:-4≤u.tmod 5∧u.tmod 5≤4:=by
  by_cases e:0≤u
  ·rw[Int.tmod_eq_emod_of_nonneg e];omega
  ·have h3:(-u).tmod 5 = -(u.tmod 5):=Int.neg_tmod u 5
   rw[Int.tmod_eq_emod_of_nonneg (by omega)] at h3
   omega
 generalize u.tmod 5=r at h1 ⊢
 have h2:0≤(r+5).tmod 5∧(r+5).tmod 5≤4:=by rw[Int.tmod_eq_emod_of_nonneg (by omega)];omega
 exact⟨((r+5).tmod 5).toNat,by omega,IntWalk.i64_in _ (by omega),IntWalk.i64_in _ (by omega),by omega,IntWalk.i64_in _ (by omega),trivial⟩
theorem Sl.at' {α:Type} {f:α→List Value} {k:Nat} {w:World} {A:Option Addr} {n c i:Nat} {L:List α} (h:Sl f k w A n c L) (hk:∀x,(f x).length=k) (h0:0<k) (hi:i<n):∃b off,A=some ⟨b,off,none⟩∧∀i x,L[i]?=some x→ElA w b (off+i*k) (f x):=h.at hk h0 (by omega)
def SPS (w W:World) (V:List Vr) (P:List (Int×Rat)) (PRG:Array Value) (n gk:Nat) (s7 s8 s9 s35:Value) (wr:World):Prop :=
 ∃(i:Nat) (H1 H2 H3:Option Addr) (c1 c2 c3:Nat) (X:List Fr),i≤n∧n-i=gk∧s7=.slice H1 i c1∧s8=.slice H2 i c2∧s9=.slice H3 i c3∧s35=.int .i64 (i:Int)∧Bx wr w.heap.size PRG 27∧
  OwnR wr W.heap.size 33 4 (.slice H1 i c1) i (flat Fr.cs X)∧OwnR wr W.heap.size 33 4 (.slice H2 i c2) i (flat Fr.cs (lstF V P i))∧OwnR wr W.heap.size 33 4 (.slice H3 i c3) i (flat Fr.cs (mstF V P i))∧
  Ap (.slice H1 i c1) (.slice H2 i c2)∧Ap (.slice H1 i c1) (.slice H3 i c3)∧Ap (.slice H2 i c2) (.slice H3 i c3)∧AllRn wr 40 X∧Btw X V∧Below w.heap.size w wr∧Below W.heap.size W wr
open Tw
theorem pget_mem {P:List (Int×Rat)} (h:Rise P):∀{t:Int×Rat},t∈P→pget P t.1=t.2:=by
 induction P with
 | nil=>intro t ht;cases ht
 | cons x P ih =>
  intro t ht
  have hr:=List.pairwise_cons.1 h
  rw[zAd]
  rcases List.mem_cons.1 ht with rfl | ht
  ·rw[if_pos rfl,pget_none (fun y hy=>by have:=hr.1 y hy;omega),Rat.add_zero]
  ·have:=hr.1 t ht
   rw[if_neg (by omega),ih hr.2 ht]
theorem idx_at {X:List Fr} {a:Int} {y:Fr} (h0:¬a<0) (hy:X[a.toNat]?=some y):pget (idxP (X.map fun x=>x.q)) a=y.q:=by
 have hl:=(List.getElem?_eq_some_iff.1 hy).1
 rw[idxP_get,if_pos ⟨by omega,by rw[List.length_map];omega⟩,List.getD_eq_getElem?_getD,List.getElem?_map,hy]
 rfl
theorem span_term {V:List Vr} {X:List Fr} {t:Int×Rat} (h0:0≤t.1) (h1:t.1<(V.length:Int)) (hX:X.length=V.length) (hbt:Btw X V) :
  spT minQ (bnds V) t≤t.2*pget (idxP (X.map fun x=>x.q)) t.1∧t.2*pget (idxP (X.map fun x=>x.q)) t.1≤spT maxQ (bnds V) t:=by
 have n1:t.1.toNat<V.length:=by omega
 have n2:t.1.toNat<X.length:=by rw[hX];exact n1
 have n3:¬t.1<0:=by omega
 obtain⟨y,hy⟩:∃y,V[t.1.toNat]?=some y:=⟨V[t.1.toNat]'n1,List.getElem?_eq_getElem _⟩
 obtain⟨x,hx⟩:∃x,X[t.1.toNat]?=some x:=⟨X[t.1.toNat]'n2,List.getElem?_eq_getElem _⟩
 have h2:=hbt _ _ _ hx hy
 have e1:spT minQ (bnds V) t=minQ (t.2*y.lo.q) (t.2*y.hi.q):=spT_at n3 hy
 have e2:spT maxQ (bnds V) t=maxQ (t.2*y.lo.q) (t.2*y.hi.q):=spT_at n3 hy
 have e3:=idx_at n3 hx
 rw[e1,e2,e3]
 exact mul_between h2.1 h2.2
theorem span_le {V:List Vr} {X:List Fr} {P:List (Int×Rat)} (hb:∀t∈P,0≤t.1∧t.1<(V.length:Int)) (hX:X.length=V.length) (hbt:Btw X V) :
  spS minQ (bnds V) P≤pdot P (idxP (X.map fun x=>x.q))∧pdot P (idxP (X.map fun x=>x.q))≤spS maxQ (bnds V) P:=by
 have z:(0:Rat)≤0:=Rat.le_refl
 have k1:∀t∈P,spT minQ (bnds V) t≤t.2*pget (idxP (X.map fun x=>x.q)) t.1:=fun t ht=>(span_term (hb t ht).1 (hb t ht).2 hX hbt).1
 have k2:∀t∈P,t.2*pget (idxP (X.map fun x=>x.q)) t.1≤spT maxQ (bnds V) t:=fun t ht=>(span_term (hb t ht).1 (hb t ht).2 hX hbt).2
 generalize idxP (X.map fun x=>x.q)=M at k1 k2 ⊢
 have a:=spS_lo z k1
 have b:=spS_hi z k2
 rw[Rat.zero_add] at a b
 unfold spS
 exact⟨a,b⟩
theorem sign_neg (q:Rat):q.num.sign<0↔q<0:=by
 rw[Int.sign_neg_iff]
 constructor
 ·intro h
  exact Rat.not_le.1 fun h2=>by have:=Rat.num_nonneg.2 h2;omega
 ·intro h
  exact Int.not_le.1 fun h2=>Rat.not_le.2 h (Rat.num_nonneg.1 h2)
theorem lstF_get {V:List Vr} {P:List (Int×Rat)} {n i:Nat} (h:i<n):(lstF V P n)[i]?=some (match V[i]? with | some v=>if(pget P (i:Int)).num.sign<0 then v.hi else v.lo | none=>zFr):=by
 unfold lstF
 rw[List.getElem?_map,List.getElem?_range h]
 rfl
theorem mstF_get {V:List Vr} {P:List (Int×Rat)} {n i:Nat} (h:i<n):(mstF V P n)[i]?=some (match V[i]? with | some v=>if(pget P (i:Int)).num.sign<0 then v.lo else v.hi | none=>zFr):=by
 unfold mstF
 rw[List.getElem?_map,List.getElem?_range h]
 rfl
theorem span_ends {V:List Vr} {P:List (Int×Rat)} (hP:Rise P) (hb:∀t∈P,0≤t.1∧t.1<(V.length:Int)) (hv:∀x∈V,x.lo.q≤x.hi.q) :
  spS minQ (bnds V) P=pdot P (idxP ((lstF V P V.length).map fun x=>x.q))∧spS maxQ (bnds V) P=pdot P (idxP ((mstF V P V.length).map fun x=>x.q)):=by
 have key:∀t∈P,spT minQ (bnds V) t=t.2*pget (idxP ((lstF V P V.length).map fun x=>x.q)) t.1∧spT maxQ (bnds V) t=t.2*pget (idxP ((mstF V P V.length).map fun x=>x.q)) t.1:=fun t ht=>by
  have h1:=hb t ht
  obtain⟨y,hy⟩:∃y,V[t.1.toNat]?=some y:=⟨V[t.1.toNat]'(by omega),List.getElem?_eq_getElem _⟩
  have h2:=hv y (List.mem_of_getElem? hy)
  have e1:=lstF_get (V:=V) (P:=P) (n:=V.length) (i:=t.1.toNat) (by omega)
  have e2:=mstF_get (V:=V) (P:=P) (n:=V.length) (i:=t.1.toNat) (by omega)
  rw[hy] at e1 e2
  simp only[Int.toNat_of_nonneg h1.1,pget_mem hP ht] at e1 e2
  have n3:¬t.1<0:=by omega
  have e3:spT minQ (bnds V) t=minQ (t.2*y.lo.q) (t.2*y.hi.q):=spT_at n3 hy
  have e4:spT maxQ (bnds V) t=maxQ (t.2*y.lo.q) (t.2*y.hi.q):=spT_at n3 hy
  rw[idx_at n3 e1,idx_at n3 e2,e3,e4]
  by_cases e:t.2<0
  ·rw[if_pos ((sign_neg _).2 e),if_pos ((sign_neg _).2 e)]
   exact minQ_neg h2 e
  ·rw[if_neg (fun h=>e ((sign_neg _).1 h)),if_neg (fun h=>e ((sign_neg _).1 h))]
   exact minQ_pos h2 (Rat.not_lt.1 e)
 exact⟨spS_eq fun t ht=>(key t ht).1,spS_eq fun t ht=>(key t ht).2⟩
end Go.Proofs.YtjkgjiofmgapfaaGreatDoor
