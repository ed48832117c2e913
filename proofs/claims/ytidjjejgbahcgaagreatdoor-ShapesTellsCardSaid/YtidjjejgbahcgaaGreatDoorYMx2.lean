/-
  matrix.Inverse, matrix.Move. Written by wip/gen/mx2.py.
-/
import Derived.Test.YtidjjejgbahcgaaGreatDoorYRdV
import Derived.Test.YtidjjejgbahcgaaGreatDoorYVj
import Derived.Test.YtidjjejgbahcgaaGreatDoorYSo4
import Derived.Maps.OwnSet
namespace Go.Proofs.YtidjjejgbahcgaaGreatDoor
open Go.RowKit Tw
theorem elt_ics:Elt ics 1 34 3:=Elt.of (.int .i64 0) 8 Tryz.underlying34 (by kernel_rfl) zo (by kernel_rfl) (nou_list (by kernel_rfl)) ics_len (fun x u hu=>by simp[ics] at hu;subst hu;rfl) (fun x u hu n=>by simp[ics] at hu;subst hu;simp)
section
variable {α:Type} {f:α→List Value} {k:Nat} {t te:TypeId}
end
theorem int_store {w:World} {B g n cap i:Nat} {L:List Int} (h:OwnR w B 3 1 (.slice (some ⟨g,0,none⟩) n cap) n (flat ics L)) {y:Int} (hy:L[i]?=some y) (x:Int) :
  ∃V,V=w.setCell ⟨g,i,none⟩ (.int .i64 x)∧OwnR V B 3 1 (.slice (some ⟨g,0,none⟩) n cap) n (flat ics (L.set i x))∧Grew w V (.slice (some ⟨g,0,none⟩) n cap) (.slice (some ⟨g,0,none⟩) n cap):=by
 have:=elt_ics.sets h hy (y:=x) [(0,.int .i64 x)] (fun p hp=>by simp at hp;subst hp;exact⟨by simp,by simp⟩) rfl;refine⟨_,rfl,?_⟩;have e:setsW w g (i*1) [(0,.int .i64 x)]=w.setCell ⟨g,i,none⟩ (.int .i64 x):=by simp[setsW]
 rw[e] at this;exact this
theorem int_cell {w:World} {B g n cap i:Nat} {L:List Int} (h:OwnR w B 3 1 (.slice (some ⟨g,0,none⟩) n cap) n (flat ics L)) {y:Int} (hy:L[i]?=some y):w.cell? ⟨g,i,none⟩=some (.int .i64 y):=by
 have:=elt_ics.cell h hy (j:=0) (u:=.int .i64 y) zo rfl;simpa using this
def shL (L:List Int) (k:Nat) (j:Int):List Int:=L.take k++j :: L.drop k
theorem shL_start (L:List Int) (j:Int):shL L L.length j=L++[j]:=by
 unfold shL
 rw[List.take_length,List.drop_length]
theorem shL_len (L:List Int) (k:Nat) (j:Int):(shL L k j).length=L.length+1:=by
 unfold shL
 rw[List.length_append,List.length_cons,List.length_take,List.length_drop];omega
theorem shL_set {L:List Int} {k:Nat} (h:k≤L.length) (j v:Int):(shL L k j).set k v=shL L k v:=by
 have hl:(L.take k).length=k:=by rw[List.length_take];omega
 unfold shL
 rw[List.set_append_right _ _ zo,hl,Nat.sub_self,List.set_cons_zero]
theorem shL_get {L:List Int} {k:Nat} {u:Int} (h:L[k]?=some u) (j:Int):(shL L (k+1) j)[k]?=some u:=by
 have hi:=(List.getElem?_eq_some_iff.1 h).1;unfold shL
 rw[List.getElem?_append_left (by rw[List.length_take];omega),List.getElem?_take_of_lt zo,h]
theorem shL_step {L:List Int} {k:Nat} {u:Int} (h:L[k]?=some u) (j:Int):(shL L (k+1) j).set (k+1) u=shL L k u:=by
 have hi:=(List.getElem?_eq_some_iff.1 h).1;rw[shL_set zo];have hd:L.drop k=u :: L.drop (k+1):=by
  rw[List.drop_eq_getElem_cons hi];rw[List.getElem?_eq_getElem hi,Option.some.injEq] at h;rw[h]
 unfold shL
 rw[hd,List.take_add_one,h,List.append_assoc];rfl
structure PlS (L S:List Int):Prop where
 asc:L.Pairwise (·<·)
 mem:∀b,b∈L↔b∈S
theorem PlS.nil:PlS [] []:=⟨List.Pairwise.nil,fun _=>Iff.rfl⟩
theorem PlS.lt {L S:List Int} (h:PlS L S) {i j:Nat} {x y:Int} (hx:L[i]?=some x) (hy:L[j]?=some y) (hij:i<j):x<y:=by
 obtain⟨hi,rfl⟩:=List.getElem?_eq_some_iff.1 hx;obtain⟨hj,rfl⟩:=List.getElem?_eq_some_iff.1 hy;exact List.pairwise_iff_getElem.1 h.asc i j hi hj hij
theorem PlS.same {L S:List Int} (h:PlS L S) {n:Nat} {a:Int} (hn:L[n]?=some a):PlS L (S++[a]):=⟨h.asc,fun b=>by
 rw[List.mem_append,List.mem_singleton,←h.mem];refine⟨.inl,fun e=>?_⟩;rcases e with e | rfl
 ·exact e
 ·exact List.mem_of_getElem? hn⟩
theorem PlS.new {L S:List Int} (h:PlS L S) {n:Nat} {a:Int} (hn:n≤L.length) (lo:∀i u,i<n→L[i]?=some u→u<a) (hi:∀u,L[n]?=some u→a<u):PlS (shL L n a) (S++[a]):=by
 have hlo:∀u∈L.take n,u<a:=fun u hu=>by
  obtain⟨i,e⟩:=List.getElem?_of_mem hu;have hi:=(List.getElem?_eq_some_iff.1 e).1;rw[List.length_take] at hi;rw[List.getElem?_take_of_lt zo] at e;exact lo i u zo e
 have hhi:∀u∈L.drop n,a<u:=fun u hu=>by
  obtain⟨i,e⟩:=List.getElem?_of_mem hu;rw[List.getElem?_drop] at e;have hl:=(List.getElem?_eq_some_iff.1 e).1;have h1:=hi _ (List.getElem?_eq_getElem zo);rcases Nat.eq_zero_or_pos i with rfl | h0
  ·rw[Nat.add_zero,List.getElem?_eq_getElem zo,Option.some.injEq] at e;rw[←e];exact h1
  ·exact Int.lt_trans h1 (h.lt (List.getElem?_eq_getElem zo) e zo)
 refine⟨?_,fun b=>?_⟩
 ·unfold shL
  refine List.pairwise_append.2 ⟨h.asc.sublist (List.take_sublist _ _),List.pairwise_cons.2 ⟨hhi,h.asc.sublist (List.drop_sublist _ _)⟩,fun x hx y hy=>?_⟩;rcases List.mem_cons.1 hy with rfl | hy
  ·exact hlo x hx
  ·exact Int.lt_trans (hlo x hx) (hhi y hy)
 ·unfold shL
  rw[List.mem_append,List.mem_cons,List.mem_append,List.mem_singleton,←h.mem];have e:b∈L↔b∈L.take n∨b∈L.drop n:=by rw[←List.mem_append,List.take_append_drop]
  rw[e];constructor
  ·rintro(h | h | h)
   ·exact .inl (.inl h)
   ·exact .inr h
   ·exact .inl (.inr h)
  ·rintro((h | h) | h)
   ·exact .inl h
   ·exact .inr (.inr h)
   ·exact .inr (.inl h)
theorem nodup_len:∀{L S:List Int},L.Nodup→(∀b∈L,b∈S)→L.length≤S.length
 | [],_,_,_=>Nat.zero_le _
 | a :: L,S,hn,hs=>by
  have h1:=List.nodup_cons.1 hn;have h2:=hs a List.mem_cons_self;have h3:=nodup_len (L:=L) (S:=S.erase a) h1.2 fun b hb=>(List.mem_erase_of_ne (by rintro rfl;exact h1.1 hb)).2 (hs b (List.mem_cons_of_mem _ hb));rw[List.length_erase_of_mem h2] at h3;have h4:=List.length_pos_of_mem h2;rw[List.length_cons];omega
theorem PlS.len {L S:List Int} (h:PlS L S):L.length≤S.length:=by
 have hn:L.Nodup:=h.asc.imp fun e=>by omega
 exact nodup_len hn fun b hb=>(h.mem b).1 hb
def atP (L:List Int) (P:List (Int×Rat)):List (Int×Rat):=L.map fun a=>(a,pget P a)
theorem atP_len (L:List Int) (P:List (Int×Rat)):(atP L P).length=L.length:=List.length_map _
theorem atP_rise {L S:List Int} (h:PlS L S) (P:List (Int×Rat)):Rise (atP L P):=List.pairwise_map.2 h.asc
theorem atP_at {L:List Int} {i:Nat} {a:Int} (h:L[i]?=some a) (P:List (Int×Rat)):(atP L P)[i]?=some (a,pget P a):=by unfold atP;rw[List.getElem?_map,h];rfl
theorem atP_get {L S:List Int} (h:PlS L S) {P:List (Int×Rat)} (hS:∀x∈P,x.1∈S) (b:Int):pget (atP L P) b=pget P b:=by
 by_cases hb:b∈L
 ·exact(atP_rise h P).get (x:=(b,pget P b)) (List.mem_map_of_mem (f:=fun a=>(a,pget P a)) hb)
 ·rw[pget_none (fun x hx e=>?_),pget_none (fun x hx e=>hb ?_)]
  ·subst e;exact(h.mem _).2 (hS x hx)
  ·obtain⟨a,ha,rfl⟩:=List.mem_map.1 hx;exact hb (e ▸ ha)
theorem atP_nrm {L S:List Int} (h:PlS L S) {P:List (Int×Rat)} (hS:∀x∈P,x.1∈S):(atP L P).filter (fun x=>decide (x.2≠0))=nrm P:=by
 refine(nrm_eq ⟨(atP_rise h P).sublist List.filter_sublist,fun x hx=>?_⟩ fun a=>?_).symm
 ·exact of_decide_eq_true (List.mem_filter.1 hx).2
 ·rw[pget_nz,atP_get h hS]
open Go.RowKit Tw
theorem elt_vcs:Elt Vc.cs 1 46 75:=Elt.of (.slice none 0 0) 24 Tryz.underlying46 (by kernel_rfl) zo (by kernel_rfl) (nou_list (by kernel_rfl)) Vc.cs_len
 (fun x u hu=>by simp[Vc.cs] at hu;subst hu;rfl) (fun x u hu n=>by simp[Vc.cs] at hu;subst hu;simp)
def vsl (v:Vc):Value:=.slice v.A v.n v.c
theorem vc_store {w:World} {B g n cap i:Nat} {V:List Vc} (h:OwnR w B 75 1 (.slice (some ⟨g,0,none⟩) n cap) n (flat Vc.cs V)) {y:Vc} (hy:V[i]?=some y) (x:Vc) :
  ∃W,W=w.setCell ⟨g,i,none⟩ (.slice x.A x.n x.c)∧OwnR W B 75 1 (.slice (some ⟨g,0,none⟩) n cap) n (flat Vc.cs (V.set i x))∧Grew w W (.slice (some ⟨g,0,none⟩) n cap) (.slice (some ⟨g,0,none⟩) n cap):=by
 have:=elt_vcs.sets h hy (y:=x) [(0,.slice x.A x.n x.c)] (fun p hp=>by simp at hp;subst hp;exact⟨by simp,by simp⟩) rfl;simp only[setsW,Nat.mul_one,Nat.add_zero] at this
 exact⟨_,rfl,this⟩
theorem vc_cell {w:World} {B g n cap i:Nat} {V:List Vc} (h:OwnR w B 75 1 (.slice (some ⟨g,0,none⟩) n cap) n (flat Vc.cs V)) {y:Vc} (hy:V[i]?=some y):w.cell? ⟨g,i,none⟩=some (.slice y.A y.n y.c):=by
 have:=elt_vcs.cell h hy (j:=0) (u:=.slice y.A y.n y.c) zo rfl;rwa [Nat.mul_one,Nat.add_zero] at this
structure TS (w:World) (B g n:Nat) (X:Value) (nx:Nat) (xs:List Value) (V:List Vc) (M:Nat):Prop where
 out:OwnR w B 75 1 (.slice (some ⟨g,0,none⟩) n n) n (flat Vc.cs V)
 row:∀v∈V,OwnR w B 79 5 (vsl v) v.n (flat Tm.cs v.L)∧OnT w v.L (fun _=>M)
 og:∀v∈V,Ap (.slice (some ⟨g,0,none⟩) n n) (vsl v)∧Ap X (vsl v)
 xg:Ap X (.slice (some ⟨g,0,none⟩) n n)
 xo:OwnR w B 79 5 X nx xs
 ap:∀(i j:Nat) (u v:Vc),V[i]?=some u→V[j]?=some v→i≠j→Ap (vsl u) (vsl v)
theorem TS.len {w:World} {B g n nx M:Nat} {X:Value} {xs:List Value} {V:List Vc} (h:TS w B g n X nx xs V M):V.length=n:=h.out.eltn elt_vcs zo
theorem TS.below {w w':World} {B g n nx M:Nat} {X:Value} {xs:List Value} {V:List Vc} (h:TS w B g n X nx xs V M) (hb:Below w.heap.size w w':=by go_grown):TS w' B g n X nx xs V M :=
 ⟨h.out.below hb,fun v hv=>⟨(h.row v hv).1.below hb,(h.row v hv).2.below hb⟩,h.og,h.xg,h.xo.below hb,h.ap⟩
theorem TS.beside {w w':World} {B g n nx nx' M:Nat} {X X':Value} {xs xs':List Value} {V:List Vc} (h:TS w B g n X nx xs V M) (hb:Below w.heap.size w w') (hB:B≤w.heap.size) (hx:OwnR w' w.heap.size 79 5 X' nx' xs'):TS w' B g n X' nx' xs' V M:=by
 have key:∀{v:Value} {n k:Nat} {e:TypeId} {ys:List Value},OwnR w B e k v n ys→Ap X' v:=fun ho=>by
  cases e:X'.ownBlock with
  | none=>exact .inl e
  | some b =>
   refine .inr fun e2=>?_;rw[e] at e2;have h1:=hx.base b e;have h2:=ho.lt b e2.symm;omega
 have h':=h.below hb;exact⟨h'.out,h'.row,fun v hv=>⟨(h.og v hv).1,key (h.row v hv).1⟩,key h.out,hx.rebase hB,h.ap⟩
theorem TS.alone {w:World} {B g n nx M:Nat} {X:Value} {xs:List Value} {V:List Vc} (h:TS w B g n X nx xs V M):TS w B g n (.slice none 0 0) 0 [] V M :=
 ⟨h.out,h.row,fun v hv=>⟨(h.og v hv).1,Ap.nil _⟩,Ap.nil _,OwnR.nil _ _ _ _,h.ap⟩
theorem TS.step {w w':World} {B g n nx M a:Nat} {X:Value} {xs:List Value} {V:List Vc} (h:TS w B g n X nx xs V M) {v:Vc} (hv:V[a]?=some v) {t:Tm} {H:Option Addr} {c k:Nat}
  (ho:OwnR w' B 79 5 (.slice H k c) k (flat Tm.cs (v.L++[t]))) (hg:Grew w w' (.slice v.A v.n v.c) (.slice H k c)) (ht:OnT w' [t] (fun _=>M)) :
  ∃W,W=w'.setCell ⟨g,a,none⟩ (.slice H k c)∧TS W B g n X nx xs (V.set a ⟨H,k,c,v.L++[t]⟩) M∧Grew w' W (.slice (some ⟨g,0,none⟩) n n) (.slice (some ⟨g,0,none⟩) n n):=by
 have hg':Grew w w' (vsl v) (.slice H k c):=hg;have hm:=List.mem_of_getElem? hv;have ha:=(List.getElem?_eq_some_iff.1 hv).1;obtain⟨W,hW,h1,h2⟩:=vc_store (h.out.grown hg' (h.og v hm).1) hv ⟨H,k,c,v.L++[t]⟩;refine⟨W,hW,?_,h2⟩;have hn1:Ap (.slice (some ⟨g,0,none⟩) n n) (.slice H k c):=hg'.ap h.out (h.og v hm).1;have old:∀(j:Nat) (u:Vc),V[j]?=some u→j≠a→OwnR W B 79 5 (vsl u) u.n (flat Tm.cs u.L)∧OnT W u.L (fun _=>M):=fun j u hu hj=>by
  have hum:=List.mem_of_getElem? hu;exact⟨((h.row u hum).1.grown hg' (h.ap j a u v hu hv hj)).grown h2 (h.og u hum).1.symm,((h.row u hum).2.k hg'.k).k h2.k⟩
 have new:OwnR W B 79 5 (.slice H k c) k (flat Tm.cs (v.L++[t]))∧OnT W (v.L++[t]) (fun _=>M):=by
  refine⟨ho.grown h2 hn1.symm,fun u hu=>?_⟩;rcases List.mem_append.1 hu with hu | hu
  ·exact(((h.row v hm).2.k hg'.k).k h2.k) u hu
  ·exact(ht.k h2.k) u hu
 have get:∀(j:Nat) (u:Vc),(V.set a ⟨H,k,c,v.L++[t]⟩)[j]?=some u→(j=a∧u=⟨H,k,c,v.L++[t]⟩)∨(j≠a∧V[j]?=some u):=fun j u hu=>by
  by_cases e:j=a
  ·subst e;rw[List.getElem?_set_self ha] at hu;exact .inl ⟨rfl,(Option.some.inj hu).symm⟩
  ·rw[List.getElem?_set_ne (fun e2=>e e2.symm)] at hu;exact .inr ⟨e,hu⟩
 refine⟨h1,fun u hu=>?_,fun u hu=>?_,h.xg,(h.xo.grown hg' (h.og v hm).2).grown h2 h.xg,fun i j u u' hu hu' hij=>?_⟩
 ·obtain⟨j,hj⟩:=List.getElem?_of_mem hu;rcases get j u hj with⟨_,rfl⟩ | ⟨h3,h4⟩
  ·exact new
  ·exact old j u h4 h3
 ·obtain⟨j,hj⟩:=List.getElem?_of_mem hu;rcases get j u hj with⟨_,rfl⟩ | ⟨h3,h4⟩
  ·exact⟨hn1,hg'.ap h.xo (h.og v hm).2⟩
  ·exact h.og u (List.mem_of_getElem? h4)
 ·rcases get i u hu with⟨e1,rfl⟩ | ⟨h3,h4⟩<;>rcases get j u' hu' with⟨e2,rfl⟩ | ⟨h5,h6⟩
  ·exact absurd (e1.trans e2.symm) hij
  ·exact(hg'.ap (h.row u' (List.mem_of_getElem? h6)).1 (h.ap j a u' v h6 hv h5)).symm
  ·exact hg'.ap (h.row u (List.mem_of_getElem? h4)).1 (h.ap i a u v h4 hv h3)
  ·exact h.ap i j u u' h4 h6 hij
def CN (w:World) (v:Vc) (M:Nat):Prop:=Sl Tm.cs 5 w v.A v.n v.c v.L∧OnT w v.L (fun _=>M)∧(v.A=none→v.c=0)
theorem CN.below {w w':World} {v:Vc} {M:Nat} (h:CN w v M) (hb:Below w.heap.size w w':=by go_grown):CN w' v M:=⟨h.1.below hb,h.2.1.below hb,h.2.2⟩
end Go.Proofs.YtidjjejgbahcgaaGreatDoor
