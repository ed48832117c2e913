import Derived.Test.YteggjbgbknkoiaaGreatDoorURead
import Derived.Test.YteggjbgbknkoiaaGreatDoorUVj
import Derived.Test.YteggjbgbknkoiaaGreatDoorUSo4
import Derived.Maps.OwnSet
set_option maxHeartbeats 4000000
set_option maxRecDepth 100000
namespace Go.Proofs.YteggjbgbknkoiaaGreatDoor
open Go.RowKit Tw
theorem elt_ics:Elt ics 1 40 3:=Elt.of (.int .i64 0) 8 Tryz.underlying40 (by kernel_rfl) zo (by kernel_rfl) (nou_list (by kernel_rfl)) ics_len (fun x u hu=>by simp[ics] at hu;subst hu;rfl) (fun x u hu n=>by simp[ics] at hu;subst hu;simp)
section
variable {α:Type} {f:α→List Value} {k:Nat} {t te:TypeId}
theorem Elt.makeN (E:Elt f k t te) (z0:α) (hz0:∀i z,Tryz.prog.info? te=some i→i.zero=some z→z.cells.toList=f z0) {w:World} {ops:Array Oper} {rest:List Oper} {o:Oper} {a:Act} {Q:Exit→Act→World→Prop} (hgd:o.guard=none) (l c:Operand) (ho:o.op=.makeSlice t l c)
  (kl kc:IntKind) (n:Nat) (hl:a.eval l=.int kl (n:Int)) (hc:a.eval c=.int kc (n:Int)) (hn:n≤100000000000) (B:Nat) (hB:B≤w.heap.size)
  (hK:∀g w',OwnR w' B te k (.slice (some ⟨g,0,none⟩) n n) n (flat f (List.replicate n z0))→Below w.heap.size w w'→wpList Tryz.prog ops Q rest (a.put o.dst (.slice (some ⟨g,0,none⟩) n n)) w'):wpList Tryz.prog ops Q (o :: rest) a w:=by
 obtain⟨i,z,h1,h2,h3,h4,h5,h6⟩:=E.info;have hzc:=hz0 i z h1 h2;refine wpList_plain hgd fun K hK'=>?_;have hb:(i.bytes:Int)*(n:Int)≤281474976710656:=by
  have h:=pC h4 hn;have h':((i.bytes*n:Nat):Int)≤281474976710656:=zo;rwa [Int.natCast_mul] at h'
 have hrun:=run_make (P:=Tryz.prog) w t te i z E.ut h1 h2 kl kc n n zo (Int.le_refl _) hb zo;simp only[eF] at hrun
 have hcells:(madeCells z.cells (n*i.size)).toList=flat f (List.replicate n z0):=by
  rw[h3];apply tE
  intro j;by_cases hj:j<n*k
  ·have k0:0<k:=by
    rcases mB k with h | h
    ·subst h;omega
    ·exact h
   have hi:j / k<n:=Nat.div_lt_of_lt_mul (by rw[tA];exact hj);have hm:j % k<k:=gC _ k0;have e:j / k*k+j % k=j:=by rw[tA];exact dC j k
   have h7:=flat_get E.len (List.replicate n z0) (j / k) z0 (by rw[cD,gA hi]) (j % k) hm;rw[e] at h7;rw[h7,←hzc,uD,uD];unfold madeCells
   rw[Array.getElem?_map,Array.getElem?_range,gA hj,cE,h5,getElem!_pos z.cells (j % k) zo,jE zo]
  ·rw[bB (by rw[Array.length_toList,size_madeCells];omega),bB (by rw[flat_len E.len,nC];omega)]
 unfold Oper.wp
 simp[execOp,ho,hl,hc,hrun,Result.andThen]
 refine hK' _ _ (hK _ _ ⟨by rw[flat_len E.len,nC],.inr ⟨w.heap.size,n,madeCells z.cells (n*i.size),rfl,hB,Bx.new w _ _,cA _,by unfold maxLen;omega,by rw[size_madeCells,h3],?_,h6.made _⟩⟩ (zAi _ _));rw[hcells,eA (by rw[flat_len E.len,nC];exact cA _)]
end
theorem int_zero {i:TypeInfo} {z:Value} (h:Tryz.prog.info? 3=some i) (hz:i.zero=some z):z.cells.toList=ics 0:=by
 have h1:(Tryz.prog.info? 3).map (fun i=>i.zero)=some (some (.int .i64 0)):=by kernel_rfl
 rw[h,cE,hz] at h1;obtain rfl:z=.int .i64 0:=by simpa using h1
 rfl
theorem int_store {w:World} {B g n cap i:Nat} {L:List Int} (h:OwnR w B 3 1 (.slice (some ⟨g,0,none⟩) n cap) n (flat ics L)) {y:Int} (hy:L[i]?=some y) (x:Int) :
  ∃V,V=w.setCell ⟨g,i,none⟩ (.int .i64 x)∧OwnR V B 3 1 (.slice (some ⟨g,0,none⟩) n cap) n (flat ics (L.set i x))∧Grew w V (.slice (some ⟨g,0,none⟩) n cap) (.slice (some ⟨g,0,none⟩) n cap):=by
 have:=elt_ics.sets h hy (y:=x) [(0,.int .i64 x)] (fun p hp=>by simp at hp;subst hp;exact⟨by simp,by simp⟩) rfl;refine⟨_,rfl,?_⟩;have e:setsW w g (i*1) [(0,.int .i64 x)]=w.setCell ⟨g,i,none⟩ (.int .i64 x):=by simp[setsW]
 rw[e] at this;exact this
theorem int_cell {w:World} {B g n cap i:Nat} {L:List Int} (h:OwnR w B 3 1 (.slice (some ⟨g,0,none⟩) n cap) n (flat ics L)) {y:Int} (hy:L[i]?=some y):w.cell? ⟨g,i,none⟩=some (.int .i64 y):=by
 have:=elt_ics.cell h hy (j:=0) (u:=.int .i64 y) zo rfl;simpa using this
theorem elt_vcs:Elt Vc.cs 1 36 35:=Elt.of (.slice none 0 0) 24 Tryz.underlying36 (by kernel_rfl) zo (by kernel_rfl) (nou_list (by kernel_rfl)) Vc.cs_len
 (fun x u hu=>by simp[Vc.cs] at hu;subst hu;rfl) (fun x u hu n=>by simp[Vc.cs] at hu;subst hu;simp)
def vsl (v:Vc):Value:=.slice v.A v.n v.c
def zVc:Vc:=⟨none,0,0,[]⟩
theorem vc_zero {i:TypeInfo} {z:Value} (h:Tryz.prog.info? 35=some i) (hz:i.zero=some z):z.cells.toList=Vc.cs zVc:=by
 have h1:(Tryz.prog.info? 35).map (fun i=>i.zero)=some (some (.slice none 0 0)):=by kernel_rfl
 rw[h,cE,hz] at h1;obtain rfl:z=.slice none 0 0:=by simpa using h1
 rfl
theorem vc_store {w:World} {B g n cap i:Nat} {V:List Vc} (h:OwnR w B 35 1 (.slice (some ⟨g,0,none⟩) n cap) n (flat Vc.cs V)) {y:Vc} (hy:V[i]?=some y) (x:Vc) :
  ∃W,W=w.setCell ⟨g,i,none⟩ (.slice x.A x.n x.c)∧OwnR W B 35 1 (.slice (some ⟨g,0,none⟩) n cap) n (flat Vc.cs (V.set i x))∧Grew w W (.slice (some ⟨g,0,none⟩) n cap) (.slice (some ⟨g,0,none⟩) n cap):=by
 have:=elt_vcs.sets h hy (y:=x) [(0,.slice x.A x.n x.c)] (fun p hp=>by simp at hp;subst hp;exact⟨by simp,by simp⟩) rfl;simp only[setsW,wC,jC] at this
 exact⟨_,rfl,this⟩
theorem vc_cell {w:World} {B g n cap i:Nat} {V:List Vc} (h:OwnR w B 35 1 (.slice (some ⟨g,0,none⟩) n cap) n (flat Vc.cs V)) {y:Vc} (hy:V[i]?=some y):w.cell? ⟨g,i,none⟩=some (.slice y.A y.n y.c):=by
 have:=elt_vcs.cell h hy (j:=0) (u:=.slice y.A y.n y.c) zo rfl;rwa [wC,jC] at this
structure TS (w:World) (B g n:Nat) (X:Value) (nx:Nat) (xs:List Value) (V:List Vc) (M:Nat):Prop where
 out:OwnR w B 35 1 (.slice (some ⟨g,0,none⟩) n n) n (flat Vc.cs V)
 row:∀v∈V,OwnR w B 32 5 (vsl v) v.n (flat Tm.cs v.L)∧OnT w v.L (fun _=>M)
 og:∀v∈V,Ap (.slice (some ⟨g,0,none⟩) n n) (vsl v)∧Ap X (vsl v)
 xg:Ap X (.slice (some ⟨g,0,none⟩) n n)
 xo:OwnR w B 32 5 X nx xs
 ap:∀(i j:Nat) (u v:Vc),V[i]?=some u→V[j]?=some v→i≠j→Ap (vsl u) (vsl v)
theorem TS.len {w:World} {B g n nx M:Nat} {X:Value} {xs:List Value} {V:List Vc} (h:TS w B g n X nx xs V M):V.length=n:=h.out.eltn elt_vcs zo
theorem TS.below {w w':World} {B g n nx M:Nat} {X:Value} {xs:List Value} {V:List Vc} (h:TS w B g n X nx xs V M) (hb:Below w.heap.size w w':=by go_grown):TS w' B g n X nx xs V M :=
 ⟨h.out.below hb,fun v hv=>⟨(h.row v hv).1.below hb,(h.row v hv).2.below hb⟩,h.og,h.xg,h.xo.below hb,h.ap⟩
theorem TS.start {w:World} {B g n M:Nat} (h:OwnR w B 35 1 (.slice (some ⟨g,0,none⟩) n n) n (flat Vc.cs (List.replicate n zVc))):TS w B g n (.slice none 0 0) 0 [] (List.replicate n zVc) M :=
 have z:∀v∈List.replicate n zVc,v=zVc:=fun v hv=>zD hv;⟨h,fun v hv=>by rw[z v hv];exact⟨OwnR.nil _ _ _ _,OnT.nil _ _⟩,fun v hv=>by rw[z v hv];exact⟨(Ap.nil _).symm,Ap.nil _⟩,Ap.nil _,OwnR.nil _ _ _ _,
  fun i j u v hu _ _=>by rw[z u (dA hu)];exact Ap.nil _⟩
theorem TS.beside {w w':World} {B g n nx nx' M:Nat} {X X':Value} {xs xs':List Value} {V:List Vc} (h:TS w B g n X nx xs V M) (hb:Below w.heap.size w w') (hB:B≤w.heap.size) (hx:OwnR w' w.heap.size 32 5 X' nx' xs'):TS w' B g n X' nx' xs' V M:=by
 have key:∀{v:Value} {n k:Nat} {e:TypeId} {ys:List Value},OwnR w B e k v n ys→Ap X' v:=fun ho=>by
  cases e:X'.ownBlock with
  | none=>exact .inl e
  | some b =>
   refine .inr fun e2=>?_;rw[e] at e2;have h1:=hx.base b e;have h2:=ho.lt b e2.symm;omega
 have h':=h.below hb;exact⟨h'.out,h'.row,fun v hv=>⟨(h.og v hv).1,key (h.row v hv).1⟩,key h.out,hx.rebase hB,h.ap⟩
theorem TS.alone {w:World} {B g n nx M:Nat} {X:Value} {xs:List Value} {V:List Vc} (h:TS w B g n X nx xs V M):TS w B g n (.slice none 0 0) 0 [] V M :=
 ⟨h.out,h.row,fun v hv=>⟨(h.og v hv).1,Ap.nil _⟩,Ap.nil _,OwnR.nil _ _ _ _,h.ap⟩
theorem TS.step {w w':World} {B g n nx M a:Nat} {X:Value} {xs:List Value} {V:List Vc} (h:TS w B g n X nx xs V M) {v:Vc} (hv:V[a]?=some v) {t:Tm} {H:Option Addr} {c k:Nat}
  (ho:OwnR w' B 32 5 (.slice H k c) k (flat Tm.cs (v.L++[t]))) (hg:Grew w w' (.slice v.A v.n v.c) (.slice H k c)) (ht:OnT w' [t] (fun _=>M)) :
  ∃W,W=w'.setCell ⟨g,a,none⟩ (.slice H k c)∧TS W B g n X nx xs (V.set a ⟨H,k,c,v.L++[t]⟩) M∧Grew w' W (.slice (some ⟨g,0,none⟩) n n) (.slice (some ⟨g,0,none⟩) n n):=by
 have hg':Grew w w' (vsl v) (.slice H k c):=hg;have hm:=dA hv;have ha:=(yA.1 hv).1;obtain⟨W,hW,h1,h2⟩:=vc_store (h.out.grown hg' (h.og v hm).1) hv ⟨H,k,c,v.L++[t]⟩;refine⟨W,hW,?_,h2⟩;have hn1:Ap (.slice (some ⟨g,0,none⟩) n n) (.slice H k c):=hg'.ap h.out (h.og v hm).1;have old:∀(j:Nat) (u:Vc),V[j]?=some u→j≠a→OwnR W B 32 5 (vsl u) u.n (flat Tm.cs u.L)∧OnT W u.L (fun _=>M):=fun j u hu hj=>by
  have hum:=dA hu;exact⟨((h.row u hum).1.grown hg' (h.ap j a u v hu hv hj)).grown h2 (h.og u hum).1.symm,((h.row u hum).2.k hg'.k).k h2.k⟩
 have new:OwnR W B 32 5 (.slice H k c) k (flat Tm.cs (v.L++[t]))∧OnT W (v.L++[t]) (fun _=>M):=by
  refine⟨ho.grown h2 hn1.symm,fun u hu=>?_⟩;rcases bC.1 hu with hu | hu
  ·exact(((h.row v hm).2.k hg'.k).k h2.k) u hu
  ·exact(ht.k h2.k) u hu
 have get:∀(j:Nat) (u:Vc),(V.set a ⟨H,k,c,v.L++[t]⟩)[j]?=some u→(j=a∧u=⟨H,k,c,v.L++[t]⟩)∨(j≠a∧V[j]?=some u):=fun j u hu=>by
  by_cases e:j=a
  ·subst e;rw[pD ha] at hu;exact .inl ⟨rfl,(Option.some.inj hu).symm⟩
  ·rw[rD (fun e2=>e e2.symm)] at hu;exact .inr ⟨e,hu⟩
 refine⟨h1,fun u hu=>?_,fun u hu=>?_,h.xg,(h.xo.grown hg' (h.og v hm).2).grown h2 h.xg,fun i j u u' hu hu' hij=>?_⟩
 ·obtain⟨j,hj⟩:=bD hu;rcases get j u hj with⟨_,rfl⟩ | ⟨h3,h4⟩
  ·exact new
  ·exact old j u h4 h3
 ·obtain⟨j,hj⟩:=bD hu;rcases get j u hj with⟨_,rfl⟩ | ⟨h3,h4⟩
  ·exact⟨hn1,hg'.ap h.xo (h.og v hm).2⟩
  ·exact h.og u (dA h4)
 ·rcases get i u hu with⟨e1,rfl⟩ | ⟨h3,h4⟩<;>rcases get j u' hu' with⟨e2,rfl⟩ | ⟨h5,h6⟩
  ·exact absurd (e1.trans e2.symm) hij
  ·exact(hg'.ap (h.row u' (dA h6)).1 (h.ap j a u' v h6 hv h5)).symm
  ·exact hg'.ap (h.row u (dA h4)).1 (h.ap i a u v h4 hv h3)
  ·exact h.ap i j u u' h4 h6 hij
def CN (w:World) (v:Vc) (M:Nat):Prop:=Sl Tm.cs 5 w v.A v.n v.c v.L∧OnT w v.L (fun _=>M)∧(v.A=none→v.c=0)
theorem CN.nv {w:World} {v:Vc} {M:Nat} (h:CN w v M):NV w v.A v.n v.c (prs v.L) M:=⟨v.L,h.1,h.2.1,rfl,h.2.2⟩
theorem CN.below {w w':World} {v:Vc} {M:Nat} (h:CN w v M) (hb:Below w.heap.size w w':=by go_grown):CN w' v M:=⟨h.1.below hb,h.2.1.below hb,h.2.2⟩
theorem TS.cn {w:World} {B g n nx M:Nat} {X:Value} {xs:List Value} {V:List Vc} (h:TS w B g n X nx xs V M):Sl Vc.cs 1 w (some ⟨g,0,none⟩) n n V∧∀v∈V,CN w v M :=
 ⟨h.out.sl' elt_vcs h.len,fun v hv=>by
  obtain⟨h1,h2⟩:=h.row v hv;refine⟨h1.sl' elt_vec (h1.eltn elt_vec zo),h2,fun e=>?_⟩;obtain⟨H,c,e9,h9,_⟩:=h1.slice;unfold vsl at e9
  cases e9;exact(h9 e).2⟩
def zTm:Tm:=⟨0,⟨false,none,0,0,false,none,0,0,0,true⟩⟩
theorem tm_zero {i:TypeInfo} {z:Value} (h:Tryz.prog.info? 32=some i) (hz:i.zero=some z):z.cells.toList=Tm.cs zTm:=by
 have h1:(Tryz.prog.info? 32).map (fun i=>i.zero)=some (some (.agg #[.int .i64 0,.bool false,.slice none 0 0,.bool false,.slice none 0 0])):=by kernel_rfl
 rw[h,cE,hz] at h1;obtain rfl:z=.agg #[.int .i64 0,.bool false,.slice none 0 0,.bool false,.slice none 0 0]:=by simpa using h1
 rfl
def idxT (L:List Fr):List Tm:=L.mapIdx fun i x=>⟨(i:Int),x⟩
def idxK (L:List Fr) (k:Nat):List Tm:=(idxT L).take k++List.replicate (L.length-k) zTm
def idxP (l:List Rat):List (Int×Rat):=l.mapIdx fun i q=>((i:Int),q)
theorem idxT_len (L:List Fr):(idxT L).length=L.length:=List.length_mapIdx
theorem idxT_get {L:List Fr} {i:Nat} {x:Fr} (h:L[i]?=some x):(idxT L)[i]?=some ⟨(i:Int),x⟩:=by unfold idxT;rw[List.getElem?_mapIdx,h];rfl
theorem idxK_len (L:List Fr) {k:Nat} (h:k≤L.length):(idxK L k).length=L.length:=by unfold idxK;rw[yC,zA,idxT_len,nC];omega
theorem idxK_set {L:List Fr} {i:Nat} {x:Fr} (h:L[i]?=some x):(idxK L i).set i ⟨(i:Int),x⟩=idxK L (i+1):=by
 have hi:=(yA.1 h).1;have hl:((idxT L).take i).length=i:=by rw[zA,idxT_len];omega
 unfold idxK
 rw[vF _ _ zo,hl,vE,take_snoc (idxT_get h),show L.length-i=(L.length-(i+1))+1 by omega,pF,List.set_cons_zero,dF];rfl
theorem idxK_end {L:List Fr} {n:Nat} (h:L.length=n):idxK L n=idxT L:=by
 unfold idxK
 rw[eA (by rw[idxT_len];omega),h,vE,List.replicate_zero,mF]
theorem idx_prs (L:List Fr):prs (idxT L)=idxP (L.map fun x=>x.q):=by
 unfold prs idxT idxP
 apply tE
 intro i;rw[rA,List.getElem?_mapIdx,List.getElem?_mapIdx,rA];cases L[i]?<;>rfl
theorem idx_rise (L:List Fr):Rise (prs (idxT L)):=by
 rw[idx_prs];unfold Rise idxP
 rw[bG];intro i j hi hj hij;rw[List.getElem_mapIdx,List.getElem_mapIdx];simp only
 omega
def OF1 (w:World) (g n:Nat) (L:List Fr) (gk:Nat) (s:Value) (wr:World):Prop:=∃i:Nat,i≤n∧n-i=gk∧s=.int .i64 (i:Int)∧OwnR wr w.heap.size 32 5 (.slice (some ⟨g,0,none⟩) n n) n (flat Tm.cs (idxK L i))∧Below w.heap.size w wr
theorem ofV_q {w:World} {A:Option Addr} {n c m:Nat} {L:List Fr} (h:Sl Fr.cs 4 w A n c L) (hok:Hid (∀x∈L,FrOk w m x)) (hm:m≤15000000000) (hn:n≤19) (hT:Hid (Tab w)) :
  Calls Tryz.prog 44 #[.slice A n c] w (TellsV w (nrm (idxP (L.map fun x=>x.q))) (m+2)):=by
 have H:=zh h;have HLN:=zh h.1;clear h;go_enter Tryz.func44,Tryz.ntmps44
 go_wp2_with (at_make;refine And.left (b:=True) ?_)
 refine⟨?_,trivial⟩;refine Elt.makeN elt_term zTm (fun i z h1 h2=>tm_zero h1 h2) rfl _ _ rfl .i64 .i64 n rfl rfl zo w.heap.size (cA _) ?_;intro g w1 ho1 b1;have HO1:Hid (OwnR w1 w.heap.size 32 5 (.slice (some ⟨g,0,none⟩) n n) n (flat Tm.cs (idxK L 0))):=zh (by unfold idxK;rw[HLN.out,cF,pG,Nat.sub_zero];exact ho1);have HB1:=zh b1;clear ho1 b1;go_wp2_with fail
 go_loopg [11] n (fun gk s wr=>OF1 w g n L gk s wr)
 case atStart=>exact⟨0,nA _,rfl,rfl,HO1.out.below (by go_grown),bT HB1.out⟩
 case round =>
  clear HO1 HB1;obtain⟨i,hi,hgk,rfl,ho,hB⟩:=hrel;have HGK:=zh hgk;clear hgk;by_cases hlt:i<n
  ·obtain⟨b,off,rfl,hel⟩:=H.out.at Fr.cs_len zo zo;obtain⟨x,hx⟩:∃x,L[i]?=some x:=⟨L[i]'(by rw[HLN.out];exact hlt),aA _⟩;have hnd:=hel i x hx;obtain⟨y,hy⟩:∃y,(idxK L i)[i]?=some y:=⟨(idxK L i)[i]'(by rw[idxK_len L (by rw[HLN.out];exact hi),HLN.out];exact hlt),aA _⟩;have HY:=zh hy;have HE:=zh (idxK_set hx);have i1:(i:Int)<(n:Int):=zo;have i2:(0:Int)≤(i:Int):=zo;clear hel hx hy;have Bz:=zr wr;obtain⟨pA0,pA1,pA2,pA3,-⟩:=(hnd.below (bT hB Bz)).ez;go_upto_region 5 with(fail)
   obtain⟨V1,hW,x0,hN⟩:=zAe wr #[.bool x.s,.slice x.A x.l x.c,.bool x.s',.slice x.A' x.l' x.c'] 30;rw[←hW];clear hW;obtain⟨v0,hb0⟩:=ze wr.heap.size;rw[←hb0] at x0 ⊢;have ow_0:w.heap.size≤v0:=zi (zw hB Bz);replace ho:=ho.below hN;replace hB:=bT (bT hB Bz) hN;have HX0:=zh x0;clear x0 hN Bz hb0;have Bz:=zr V1;clear pA0 pA1 pA2 pA3;obtain⟨pa0,pa1,pa2,pa3,-⟩:=(zxb HX0 Bz).cz;have pB0:=cell_0 ho HY.out;have pB1:=elt_vec.cell ho HY.out (j:=1) (u:=.bool y.x.s) zo rfl;have pB2:=elt_vec.cell ho HY.out (j:=2) (u:=.slice y.x.A y.x.l y.x.c) zo rfl;have pB3:=elt_vec.cell ho HY.out (j:=3) (u:=.bool y.x.s') zo rfl;have pB4:=elt_vec.cell ho HY.out (j:=4) (u:=.slice y.x.A' y.x.l' y.x.c') zo rfl;have fB0:=ho.frozen (i*5);have fB1:=ho.frozen (i*5+1);have fB2:=ho.frozen (i*5+2);have fB3:=ho.frozen (i*5+3);have fB4:=ho.frozen (i*5+4);have y51:=ho.blk.1;go_upto_region 6 with(fail)
   obtain⟨V2,hV,ho2,hg2⟩:=tm_store elt_vec ho HY.out ⟨(i:Int),x⟩;rw[←hV];clear hV;replace hB:=(bT hB Bz).trans (hg2.below (zi (zw hB Bz)) (fun g' hg'=>ho.base g' hg'));clear HX0;clear ho;have ho:=ho2;clear ho2 hg2 Bz;have Bz:=zr V2;clear pa0 pa1 pa2 pa3 pB0 pB1 pB2 pB3 pB4 fB0 fB1 fB2 fB3 fB4 y51;go_wp2_with fail
   go_roundg (n-(i+1))
   case measure=>have:=HGK.out;omega
   case rel=>exact⟨i+1,zo,rfl,by go_num,by have h9:=OwnR.below ho;rw[HE.out] at h9;exact h9,bT (bT hB Bz)⟩
  ·obtain rfl:i=n:=zo;have i1:¬(i:Int)<(i:Int):=zo;rw[idxK_end HLN.out] at ho;have hfr:∀t∈idxT L,FrOk w m t.x:=fun t ht=>by
    obtain⟨j,hj⟩:=bD ht;unfold idxT at hj
    rw[List.getElem?_mapIdx] at hj;cases e:L[j]? with
    | none=>rw[e] at hj;cases hj
    | some x=>rw[e] at hj;cases hj;exact hok.out x (dA e)
   have hg:GV wr (some ⟨g,0,none⟩) i i (idxP (L.map fun x=>x.q)) (m+2):=⟨idxT L,ho.sl' elt_vec (by rw[idxT_len];exact HLN.out),fun t ht=>((hfr t ht).below hB).rep,idx_prs L,wsum_rise (idx_rise L) (fun t ht=>by have:=(hfr t ht).r.len;unfold dgT;omega),(fun e=>(by cases e))⟩;have hnq:=normV_q hg zo hn (zh (hT.out.below hB));clear hg ho;go_wp2_with fail
   with_reducible refine hnq.mono ?_
   rintro e w3 ⟨A3,n3,c3,rfl,h3,b3⟩;have H3:=zh h3;clear h3 hnq;go_wp2_with fail
   go_ret
   exact⟨A3,n3,c3,rfl,H3.out,bT hB b3⟩
def shL (L:List Int) (k:Nat) (j:Int):List Int:=L.take k++j :: L.drop k
structure PlS (L S:List Int):Prop where
 asc:L.Pairwise (·<·)
 mem:∀b,b∈L↔b∈S
theorem PlS.nil:PlS [] []:=⟨List.Pairwise.nil,fun _=>Iff.rfl⟩
theorem PlS.lt {L S:List Int} (h:PlS L S) {i j:Nat} {x y:Int} (hx:L[i]?=some x) (hy:L[j]?=some y) (hij:i<j):x<y:=by
 obtain⟨hi,rfl⟩:=yA.1 hx;obtain⟨hj,rfl⟩:=yA.1 hy;exact bG.1 h.asc i j hi hj hij
theorem PlS.same {L S:List Int} (h:PlS L S) {n:Nat} {a:Int} (hn:L[n]?=some a):PlS L (S++[a]):=⟨h.asc,fun b=>by
 rw[bC,cC,←h.mem];refine⟨.inl,fun e=>?_⟩;rcases e with e | rfl
 ·exact e
 ·exact dA hn⟩
theorem PlS.new {L S:List Int} (h:PlS L S) {n:Nat} {a:Int} (hn:n≤L.length) (lo:∀i u,i<n→L[i]?=some u→u<a) (hi:∀u,L[n]?=some u→a<u):PlS (shL L n a) (S++[a]):=by
 have hlo:∀u∈L.take n,u<a:=fun u hu=>by
  obtain⟨i,e⟩:=bD hu;have hi:=(yA.1 e).1;rw[zA] at hi;rw[List.getElem?_take_of_lt zo] at e;exact lo i u zo e
 have hhi:∀u∈L.drop n,a<u:=fun u hu=>by
  obtain⟨i,e⟩:=bD hu;rw[List.getElem?_drop] at e;have hl:=(yA.1 e).1;have h1:=hi _ (aA zo);rcases mB i with rfl | h0
  ·rw[jC,aA zo,Option.some.injEq] at e;rw[←e];exact h1
  ·exact Int.lt_trans h1 (h.lt (aA zo) e zo)
 refine⟨?_,fun b=>?_⟩
 ·unfold shL
  refine aF.2 ⟨h.asc.sublist (List.take_sublist _ _),List.pairwise_cons.2 ⟨hhi,h.asc.sublist (List.drop_sublist _ _)⟩,fun x hx y hy=>?_⟩;rcases sB.1 hy with rfl | hy
  ·exact hlo x hx
  ·exact Int.lt_trans (hlo x hx) (hhi y hy)
 ·unfold shL
  rw[bC,sB,bC,cC,←h.mem];have e:b∈L↔b∈L.take n∨b∈L.drop n:=by rw[←bC,xC]
  rw[e];constructor
  ·rintro(h | h | h)
   ·exact .inl (.inl h)
   ·exact .inr h
   ·exact .inl (.inr h)
  ·rintro((h | h) | h)
   ·exact .inl h
   ·exact .inr (.inr h)
   ·exact .inr (.inl h)
theorem nodup_len:∀{L S:List Int},L.Nodup→(∀b∈L,b∈S)→L.length≤S.length
 | [],_,_,_=>nA _
 | a :: L,S,hn,hs=>by
  have h1:=List.nodup_cons.1 hn;have h2:=hs a pA;have h3:=nodup_len (L:=L) (S:=S.erase a) h1.2 fun b hb=>(List.mem_erase_of_ne (by rintro rfl;exact h1.1 hb)).2 (hs b (qA _ hb));rw[List.length_erase_of_mem h2] at h3;have h4:=List.length_pos_of_mem h2;rw[qC];omega
theorem PlS.len {L S:List Int} (h:PlS L S):L.length≤S.length:=by
 have hn:L.Nodup:=h.asc.imp fun e=>by omega
 exact nodup_len hn fun b hb=>(h.mem b).1 hb
end Go.Proofs.YteggjbgbknkoiaaGreatDoor
