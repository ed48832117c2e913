import Derived.Test.YteggjbgbknkoiaaGreatDoorYA
import Derived.Sort.Lot0
namespace Go.Proofs.YteggjbgbknkoiaaGreatDoor
def pget:List (Int×Rat)→Int→Rat
 | [],_=>0
 | x :: L,a=>if x.1=a then x.2+pget L a else pget L a
theorem pget_nil (a:Int):pget [] a=0:=rfl
theorem zAe (x:Int×Rat) (L:List (Int×Rat)) (a:Int):pget (x :: L) a=if x.1=a then x.2+pget L a else pget L a:=rfl
theorem pget_one (x:Int×Rat) (a:Int):pget [x] a=if x.1=a then x.2 else 0:=by rw[zAe,pget_nil,wC]
theorem pget_append (L M:List (Int×Rat)) (a:Int):pget (L++M) a=pget L a+pget M a:=by
 induction L with
 | nil=>rw[bF,pget_nil,bE]
 | cons x L ih =>
  rw[dF,zAe,zAe,ih];split
  ·rw[nF]
  ·rfl
theorem pget_perm {L M:List (Int×Rat)} (h:L.Perm M) (a:Int):pget L a=pget M a:=by
 induction h with
 | nil=>rfl
 | cons x _ ih=>rw[zAe,zAe,ih]
 | swap x y L =>
  rw[zAe,zAe,zAe,zAe];split<;>split<;>(try rfl)
  rw[←nF,←nF,Rat.add_comm y.2]
 | trans _ _ ih1 ih2=>rw[ih1,ih2]
theorem pget_scale (s:Rat) (L:List (Int×Rat)) (a:Int):pget (L.map fun x=>(x.1,s*x.2)) a=s*pget L a:=by
 induction L with
 | nil=>rw[List.map_nil,pget_nil,tE]
 | cons x L ih =>
  rw[nG,zAe,zAe,ih];split
  ·rw[Rat.mul_add]
  ·rfl
theorem pget_none {L:List (Int×Rat)} {a:Int} (h:∀x∈L,x.1≠a):pget L a=0:=by
 induction L with
 | nil=>rfl
 | cons x L ih =>
  rw[zAe,uA (h x qA)];exact ih fun y hy=>h y (yA _ hy)
theorem pget_drop (L:List (Int×Rat)) (k a:Int):pget (L.filter fun x=>decide (x.1≠k)) a=if a=k then 0 else pget L a:=by
 induction L with
 | nil=>rw[List.filter_nil,pget_nil];split<;>rfl
 | cons x L ih =>
  rw[dG];by_cases h:x.1=k
  ·rw[uA (by simp[h]),ih,zAe];split
   ·rfl
   ·rw[uA zo]
  ·rw[zA (by simp[h]),zAe,zAe,ih];by_cases h2:x.1=a
   ·rw[zA h2,uA (show ¬a=k by omega),uA (show ¬a=k by omega),zA h2]
   ·rw[uA h2,uA h2]
theorem pget_nz (L:List (Int×Rat)) (a:Int):pget (L.filter fun x=>decide (x.2≠0)) a=pget L a:=by
 induction L with
 | nil=>rfl
 | cons x L ih =>
  rw[dG];by_cases h:x.2=0
  ·rw[uA (by simp[h]),ih,zAe,h,bE];split<;>rfl
  ·rw[zA (by simp[h]),zAe,zAe,ih]
def Rise (L:List (Int×Rat)):Prop:=L.Pairwise fun x y=>x.1<y.1
structure Nrm (L:List (Int×Rat)):Prop where
 rise:Rise L
 nz:∀x∈L,x.2≠0
theorem Rise.cons {x:Int×Rat} {L:List (Int×Rat)}:Rise (x :: L)↔(∀y∈L,x.1<y.1)∧Rise L:=List.pairwise_cons
theorem Nrm.tail {x:Int×Rat} {L:List (Int×Rat)} (h:Nrm (x :: L)):Nrm L:=⟨(Rise.cons.1 h.rise).2,fun y hy=>h.nz y (yA _ hy)⟩
theorem Rise.head {x:Int×Rat} {L:List (Int×Rat)} (h:Rise (x :: L)):pget (x :: L) x.1=x.2:=by
 rw[zAe,zA rfl,pget_none (fun y hy=>by have:=(Rise.cons.1 h).1 y hy;omega),wC]
theorem Rise.low {x:Int×Rat} {L:List (Int×Rat)} (h:Rise (x :: L)) {a:Int} (ha:a<x.1):pget (x :: L) a=0 :=
 pget_none fun y hy=>by
  rcases rB.1 hy with rfl | hy
  ·omega
  ·have:=(Rise.cons.1 h).1 y hy;omega
theorem Rise.get {L:List (Int×Rat)} (h:Rise L) {x:Int×Rat} (hx:x∈L):pget L x.1=x.2:=by
 induction L with
 | nil=>cases hx
 | cons y L ih =>
  rcases rB.1 hx with rfl | hx
  ·exact h.head
  ·rw[zAe,uA (zi ((Rise.cons.1 h).1 x hx))];exact ih (Rise.cons.1 h).2 hx
theorem Nrm.ext {L M:List (Int×Rat)} (hL:Nrm L) (hM:Nrm M) (h:∀a,pget L a=pget M a):L=M:=by
 induction L generalizing M with
 | nil =>
  cases M with
  | nil=>rfl
  | cons y M=>have:=h y.1;rw[hM.rise.head,pget_nil] at this;exact absurd this.symm (hM.nz y qA)
 | cons x L ih =>
  cases M with
  | nil=>have:=h x.1;rw[hL.rise.head,pget_nil] at this;exact absurd this (hL.nz x qA)
  | cons y M =>
   have e1:x.1=y.1:=by
    rcases aF x.1 y.1 with h1 | h1 | h1
    ·have:=h x.1;rw[hL.rise.head,hM.rise.low h1] at this;exact absurd this (hL.nz x qA)
    ·exact h1
    ·have:=h y.1;rw[hM.rise.head,hL.rise.low h1] at this;exact absurd this.symm (hM.nz y qA)
   have e2:x.2=y.2:=by
    have:=h x.1;rw[hL.rise.head,e1,hM.rise.head] at this;exact this
   obtain rfl:x=y:=Prod.ext e1 e2;congr 1
   refine ih hL.tail hM.tail fun a=>?_;by_cases ha:x.1=a
   ·subst ha;rw[pget_none (fun z hz=>by have:=(Rise.cons.1 hL.rise).1 z hz;omega),pget_none (fun z hz=>by have:=(Rise.cons.1 hM.rise).1 z hz;omega)]
   ·have:=h a;rwa [zAe,zAe,uA ha,uA ha] at this
def pins (a:Int) (q:Rat):List (Int×Rat)→List (Int×Rat)
 | []=>if q=0 then [] else [(a,q)]
 | x :: L=>if a<x.1 then(if q=0 then x :: L else(a,q) :: x :: L) else if a=x.1 then(if q+x.2=0 then L else(a,q+x.2) :: L) else x :: pins a q L
def nrm:List (Int×Rat)→List (Int×Rat)
 | []=>[]
 | x :: L=>pins x.1 x.2 (nrm L)
theorem pins_ge {a b:Int} {q:Rat} {L:List (Int×Rat)} (ha:b<a) (h:∀y∈L,b<y.1):∀y∈pins a q L,b<y.1:=by
 induction L with
 | nil =>
  intro y hy;unfold pins at hy
  split at hy
  ·cases hy
  ·rcases rB.1 hy with rfl | hy
   ·exact ha
   ·cases hy
 | cons x L ih =>
  intro y hy;unfold pins at hy
  split at hy
  ·split at hy
   ·exact h y hy
   ·rcases rB.1 hy with rfl | hy
    ·exact ha
    ·exact h y hy
  ·split at hy
   ·split at hy
    ·exact h y (yA _ hy)
    ·rcases rB.1 hy with rfl | hy
     ·exact ha
     ·exact h y (yA _ hy)
   ·rcases rB.1 hy with rfl | hy
    ·exact h y qA
    ·exact ih (fun z hz=>h z (yA _ hz)) y hy
theorem pins_nrm {a:Int} {q:Rat} {L:List (Int×Rat)} (h:Nrm L):Nrm (pins a q L):=by
 induction L with
 | nil =>
  unfold pins
  split
  ·exact h
  ·rename_i hq
   exact⟨List.pairwise_singleton _ _,fun x hx=>by rcases rB.1 hx with rfl | hx;exact hq;cases hx⟩
 | cons x L ih =>
  have hc:=Rise.cons.1 h.rise;unfold pins
  split
  ·rename_i h1
   split
   ·exact h
   ·rename_i hq
    refine⟨Rise.cons.2 ⟨fun y hy=>?_,h.rise⟩,fun y hy=>?_⟩
    ·rcases rB.1 hy with rfl | hy
     ·exact h1
     ·have:=hc.1 y hy;simp only;omega
    ·rcases rB.1 hy with rfl | hy
     ·exact hq
     ·exact h.nz y hy
  ·rename_i h1
   split
   ·rename_i h2
    split
    ·exact h.tail
    ·rename_i hq
     refine⟨Rise.cons.2 ⟨fun y hy=>by have:=hc.1 y hy;simp only;omega,hc.2⟩,fun y hy=>?_⟩;rcases rB.1 hy with rfl | hy
     ·exact hq
     ·exact h.nz y (yA _ hy)
   ·rename_i h2
    have hi:=ih h.tail;refine⟨Rise.cons.2 ⟨pins_ge zo hc.1,hi.rise⟩,fun y hy=>?_⟩;rcases rB.1 hy with rfl | hy
    ·exact h.nz y qA
    ·exact hi.nz y hy
theorem pins_get (a:Int) (q:Rat) (L:List (Int×Rat)) (b:Int):pget (pins a q L) b=pget ((a,q) :: L) b:=by
 induction L with
 | nil =>
  unfold pins
  split
  ·rename_i h;subst h;rw[zAe,pget_nil,bE];split<;>rfl
  ·rfl
 | cons x L ih =>
  unfold pins
  split
  ·split
   ·rename_i h;subst h;rw[zAe,zAe,zAe];simp only[bE,ite_self]
   ·rfl
  ·split
   ·rename_i h2
    split
    ·rename_i h3
     rw[zAe,zAe];simp only
     split
     ·rw[zA zo,←nF,h3,bE]
     ·rw[uA zo]
    ·rw[zAe,zAe,zAe];simp only
     split
     ·rw[zA zo,nF]
     ·rw[uA zo]
   ·rename_i h2
    rw[zAe,ih,zAe,zAe,zAe];simp only
    split
    ·rw[uA zo,uA zo]
    ·rfl
theorem nrm_nrm (L:List (Int×Rat)):Nrm (nrm L):=by
 induction L with
 | nil=>exact⟨List.Pairwise.nil,fun x hx=>by cases hx⟩
 | cons x L ih=>exact pins_nrm ih
theorem nrm_get (L:List (Int×Rat)) (a:Int):pget (nrm L) a=pget L a:=by
 induction L with
 | nil=>rfl
 | cons x L ih=>unfold nrm;rw[pins_get,zAe,zAe,ih]
theorem nrm_ext {L M:List (Int×Rat)} (h:∀a,pget L a=pget M a):nrm L=nrm M:=(nrm_nrm L).ext (nrm_nrm M) fun a=>by rw[nrm_get,nrm_get,h]
theorem nrm_eq {L M:List (Int×Rat)} (hM:Nrm M) (h:∀a,pget L a=pget M a):nrm L=M:=(nrm_nrm L).ext hM fun a=>by rw[nrm_get,h]
theorem Nrm.self {L:List (Int×Rat)} (h:Nrm L):nrm L=L:=nrm_eq h fun _=>rfl
theorem pins_len (a:Int) (q:Rat) (L:List (Int×Rat)):(pins a q L).length≤L.length+1:=by
 induction L with
 | nil=>unfold pins;split<;>simp
 | cons x L ih =>
  unfold pins
  split
  ·split<;>simp
  ·split
   ·split<;>simp<;>omega
   ·simp only[eD];omega
theorem nrm_len (L:List (Int×Rat)):(nrm L).length≤L.length:=by
 induction L with
 | nil=>exact aA _
 | cons x L ih=>unfold nrm;have:=pins_len x.1 x.2 (nrm L);simp only[eD];omega
def pdot (L M:List (Int×Rat)):Rat:=L.foldr (fun x s=>x.2*pget M x.1+s) 0
theorem pdot_nil (M:List (Int×Rat)):pdot [] M=0:=rfl
theorem pdot_cons (x:Int×Rat) (L M:List (Int×Rat)):pdot (x :: L) M=x.2*pget M x.1+pdot L M:=rfl
theorem pdot_nil_right (L:List (Int×Rat)):pdot L []=0:=by
 induction L with
 | nil=>rfl
 | cons x L ih=>rw[pdot_cons,ih,pget_nil,tE,wC]
theorem pdot_cons_right (L:List (Int×Rat)) (y:Int×Rat) (M:List (Int×Rat)):pdot L (y :: M)=pget L y.1*y.2+pdot L M:=by
 induction L with
 | nil=>rw[pdot_nil,pdot_nil,pget_nil,uE,bE]
 | cons x L ih =>
  rw[pdot_cons,pdot_cons,ih,zAe,zAe];by_cases h:y.1=x.1
  ·rw[zA h,zA h.symm];grind
  ·rw[uA h,uA (fun e=>h e.symm)];grind
theorem pdot_comm (L M:List (Int×Rat)):pdot L M=pdot M L:=by
 induction L with
 | nil=>rw[pdot_nil,pdot_nil_right]
 | cons x L ih=>rw[pdot_cons,pdot_cons_right,ih,Rat.mul_comm]
theorem pdot_append (L L' M:List (Int×Rat)):pdot (L++L') M=pdot L M+pdot L' M:=by
 induction L with
 | nil=>rw[bF,pdot_nil,bE]
 | cons x L ih=>rw[dF,pdot_cons,pdot_cons,ih,nF]
theorem Rise.snoc {L:List (Int×Rat)} {x:Int×Rat} (h:Rise L) (hx:∀y∈L,y.1<x.1):Rise (L++[x]):=by
 unfold Rise at h ⊢
 rw[wF];refine⟨h,List.pairwise_singleton _ _,fun y hy z hz=>?_⟩;rcases rB.1 hz with rfl | hz
 ·exact hx y hy
 ·cases hz
theorem Rise.front {L:List (Int×Rat)} {x:Int×Rat} (h:Rise (L++[x])):Rise L∧∀y∈L,y.1<x.1:=by
 unfold Rise at h
 rw[wF] at h;exact⟨h.1,fun y hy=>h.2.2 y hy x qA⟩
structure Grp (out ts:List (Int×Rat)) (i:Nat):Prop where
 rise:Rise out
 get:∀a,pget out a=pget (ts.take i) a
 last:∀l,out.getLast?=some l→∃t∈ts.take i,l.1=t.1
 len:out.length≤i
theorem Grp.start (ts:List (Int×Rat)):Grp [] ts 0:=⟨List.Pairwise.nil,fun _=>rfl,(fun l h=>(by cases h)),aA _⟩
theorem take_snoc' {α:Type} {L:List α} {i:Nat} {x:α} (h:L[i]?=some x):L.take (i+1)=L.take i++[x]:=by rw[List.take_add_one,h];rfl
theorem snoc_of_last {α:Type} {L:List α} {l:α} (h:L.getLast?=some l):∃M,L=M++[l]:=by
 have hne:L≠[]:=by intro e;subst e;cases h
 rw[List.getLast?_eq_some_getLast hne] at h;exact⟨L.dropLast,by rw[←Option.some.inj h];exact(List.dropLast_concat_getLast hne).symm⟩
theorem Grp.new {out ts:List (Int×Rat)} {i:Nat} {t:Int×Rat} (h:Grp out ts i) (ht:ts[i]?=some t) (hs:∀x∈ts.take i,x.1≤t.1) (hl:∀l,out.getLast?=some l→l.1≠t.1):Grp (out++[t]) ts (i+1):=by
 refine⟨h.rise.snoc fun y hy=>?_,fun a=>?_,fun l hl'=>?_,by have:=h.len;simp;omega⟩
 ·obtain⟨l,hl'⟩:∃l,out.getLast?=some l:=by
   cases e:out.getLast? with
   | none=>rw[List.getLast?_eq_none_iff] at e;subst e;cases hy
   | some l=>exact⟨l,rfl⟩
  obtain⟨M,rfl⟩:=snoc_of_last hl';have h1:=hl l hl';obtain⟨u,hu,e⟩:=h.last l hl';have h2:=hs u hu;rcases nC.1 hy with hy | hy
  ·have:=(Rise.front h.rise).2 y hy;omega
  ·rcases rB.1 hy with rfl | hy
   ·omega
   ·cases hy
 ·rw[take_snoc' ht,pget_append,pget_append,h.get]
 ·rw[List.getLast?_append] at hl';simp at hl'
  subst hl';exact⟨t,by rw[take_snoc' ht];simp,rfl⟩
theorem Grp.same {out ts:List (Int×Rat)} {i:Nat} {t l:Int×Rat} (h:Grp out ts i) (ht:ts[i]?=some t) (hl:out.getLast?=some l) (e:l.1=t.1):Grp (out.set (out.length-1) (l.1,l.2+t.2)) ts (i+1):=by
 obtain⟨M,rfl⟩:=snoc_of_last hl;have e1:(M++[l]).set ((M++[l]).length-1) (l.1,l.2+t.2)=M++[(l.1,l.2+t.2)]:=by
  rw[List.set_append_right _ _ (by simp)];simp
 rw[e1];have hf:=Rise.front h.rise;refine⟨hf.1.snoc hf.2,fun a=>?_,fun l' hl'=>?_,by have:=h.len;simp at this ⊢;omega⟩
 ·have:=h.get a;rw[pget_append,pget_one] at this;rw[take_snoc' ht,pget_append,pget_append,pget_one,pget_one,←this,←e];simp only
  split
  ·rw[nF]
  ·rw[wC,wC]
 ·rw[List.getLast?_append] at hl';simp at hl'
  subst hl';exact⟨t,by rw[take_snoc' ht];simp,e⟩
theorem Rise.strike {L:List (Int×Rat)} (h:Rise L):Nrm (L.filter fun x=>decide (x.2≠0)):=⟨List.Pairwise.filter _ h,fun x hx=>by simpa using (List.mem_filter.1 hx).2⟩
theorem Grp.done {out ts:List (Int×Rat)} {i:Nat} (h:Grp out ts i) (hi:ts.length≤i):nrm ts=out.filter fun x=>decide (x.2≠0) :=
 nrm_eq h.rise.strike fun a=>by rw[pget_nz,h.get,nA hi]
structure Piv where
 cost:Int
 col:Int
 row:Int
def Piv.less (a b:Piv):Bool:=if a.cost≠b.cost then decide (a.cost<b.cost) else if a.col≠b.col then decide (a.col<b.col) else decide (a.row<b.row)
def bump (C:List Int) (k:Int):List Int:=C.set k.toNat (C.getD k.toNat 0+1)
def bumps (C:List Int) (P:List (Int×Rat)):List Int:=P.foldl (fun c t=>bump c t.1) C
def cntUp (R:List (List (Int×Rat))) (OB:List Bool):Nat→List Int
 | 0=>List.replicate R.length 0
 | i+1=>if OB.getD i false=true then bumps (cntUp R OB i) (R.getD i []) else cntUp R OB i
def cand (C:List Int) (i:Nat) (P:List (Int×Rat)):List Piv:=P.map fun t=>⟨((P.length:Int)-1)*(C.getD t.1.toNat 0-1),t.1,(i:Int)⟩
def bst (b:Option Piv) (p:Piv):Option Piv:=match b with
 | none=>some p
 | some q=>if p.less q=true then some p else some q
theorem bst_yes {p q:Piv} (h:p.less q=true):bst (some q) p=some p:=zA h
theorem bst_no {p q:Piv} (h:p.less q=false):bst (some q) p=some q:=uA (by rw[h];simp)
def bestUp (R:List (List (Int×Rat))) (OB:List Bool) (C:List Int):Nat→Option Piv
 | 0=>none
 | i+1=>if OB.getD i false=true then(cand C i (R.getD i [])).foldl bst (bestUp R OB C i) else bestUp R OB C i
def nextF (R:List (List (Int×Rat))) (OB:List Bool):Option Piv:=bestUp R OB (cntUp R OB R.length) R.length
def elimRow (P rest:List (Int×Rat)) (col:Int) (pv:Rat):List (Int×Rat):=nrm (nrm (P.filter (fun x=>decide (x.1≠col))++[(col,0)])++rest.map fun x=>(x.1,-(pget P col / pv)*x.2))
def elimUp (R:List (List (Int×Rat))) (OB:List Bool) (col:Int) (pv:Rat) (rest:List (Int×Rat)):Nat→List (List (Int×Rat))×List (Int×Rat)
 | 0=>(R,[])
 | i+1=>if OB.getD i false=true∧pget (R.getD i []) col≠0 then((elimUp R OB col pv rest i).1.set i (elimRow (R.getD i []) rest col pv),(elimUp R OB col pv rest i).2++[((i:Int),pget (R.getD i []) col / pv)]) else elimUp R OB col pv rest i
structure StepF where
 row:Int
 col:Int
 pv:Rat
 rest:List (Int×Rat)
 taken:List (Int×Rat)
def restF (P:List (Int×Rat)) (col:Int):List (Int×Rat):=nrm (P.filter (fun x=>decide (x.1≠col))++[(col,0)])
def elimF (R:List (List (Int×Rat))) (OB:List Bool) (p:Piv):List (List (Int×Rat))×StepF :=
 let P:=R.getD p.row.toNat []
 let e:=elimUp R OB p.col (pget P p.col) (restF P p.col) R.length
 (e.1,⟨p.row,p.col,pget P p.col,restF P p.col,e.2⟩)
structure FacSt where
 R:List (List (Int×Rat))
 OB:List Bool
 ST:List StepF
def facStep (s:FacSt):Option FacSt:=match nextF s.R s.OB with
 | none=>none
 | some p=>some ⟨(elimF s.R (s.OB.set p.row.toNat false) p).1,s.OB.set p.row.toNat false,s.ST++[(elimF s.R (s.OB.set p.row.toNat false) p).2]⟩
def facUp (s:FacSt):Nat→Option FacSt
 | 0=>some s
 | k+1=>match facUp s k with
  | none=>none
  | some t=>facStep t
theorem bump_len (C:List Int) (k:Int):(bump C k).length=C.length:=bC
theorem bumps_len (P:List (Int×Rat)):∀C:List Int,(bumps C P).length=C.length:=by
 induction P with
 | nil=>intro C;rfl
 | cons x P ih=>intro C;show(bumps (bump C x.1) P).length=_;rw[ih,bump_len]
theorem cnt_len (R:List (List (Int×Rat))) (OB:List Bool):∀i,(cntUp R OB i).length=R.length
 | 0=>tD
 | i+1=>by
  unfold cntUp
  split
  ·rw[bumps_len,cnt_len R OB i]
  ·exact cnt_len R OB i
theorem bumps_snoc {P:List (Int×Rat)} {j:Nat} {t:Int×Rat} (h:P[j]?=some t) (C:List Int):bumps C (P.take (j+1))=bump (bumps C (P.take j)) t.1:=by
 unfold bumps
 rw[List.take_add_one,h,List.foldl_append];rfl
theorem cand_get {C:List Int} {i:Nat} {P:List (Int×Rat)} {j:Nat} {t:Int×Rat} (h:P[j]?=some t):(cand C i P)[j]?=some ⟨((P.length:Int)-1)*(C.getD t.1.toNat 0-1),t.1,(i:Int)⟩:=by
 unfold cand
 rw[qB,h];rfl
theorem bst_snoc {L:List Piv} {j:Nat} {p:Piv} (h:L[j]?=some p) (b:Option Piv):(L.take (j+1)).foldl bst b=bst ((L.take j).foldl bst b) p:=by
 rw[List.take_add_one,h,List.foldl_append];rfl
def CntOk (C:List Int) (K:Int):Prop:=∀x∈C,0≤x∧x≤K
theorem CntOk.getD {C:List Int} {K:Int} (h:CntOk C K) (hK:0≤K) (i:Nat):0≤C.getD i 0∧C.getD i 0≤K:=by
 rw[dA];cases e:C[i]? with
 | none=>exact⟨Int.le_refl _,hK⟩
 | some x=>exact h x (eA e)
theorem CntOk.bump {C:List Int} {K:Int} (h:CntOk C K) (hK:0≤K) (k:Int):CntOk (bump C k) (K+1):=fun x hx=>by
 rcases qC hx with hx | rfl
 ·have:=h x hx;omega
 ·have:=h.getD hK k.toNat;omega
theorem CntOk.start (n:Nat):CntOk (List.replicate n 0) 0:=fun x hx=>by rw[vD hx];omega
theorem CntOk.mono {C:List Int} {K K':Int} (h:CntOk C K) (hK:K≤K'):CntOk C K':=fun x hx=>by have:=h x hx;omega
theorem elim_len (R:List (List (Int×Rat))) (OB:List Bool) (col:Int) (pv:Rat) (rest:List (Int×Rat)):∀i,(elimUp R OB col pv rest i).1.length=R.length
 | 0=>rfl
 | i+1=>by
  unfold elimUp
  split
  ·rw[bC,elim_len R OB col pv rest i]
  ·exact elim_len R OB col pv rest i
open Go.Sort
section
variable {α:Type} {lt:α→α→Bool}
theorem SWO.le_trans (h:SWO lt) {x y z:α} (h1:lt y x=false) (h2:lt z y=false):lt z x=false:=h.ntrans z y x h2 h1
theorem SWO.asym (h:SWO lt) {x y:α} (h1:lt x y=true):lt y x=false:=by
 cases e:lt y x
 ·rfl
 ·have:=h.trans x y x h1 e;rw[h.irrefl] at this;cases this
theorem SWO.lt_le (h:SWO lt) {x y z:α} (h1:lt x y=true) (h2:lt z y=false):lt x z=true:=by
 cases e:lt x z
 ·have:=h.ntrans x z y e h2;rw[h1] at this;cases this
 ·rfl
theorem SWO.le_lt (h:SWO lt) {x y z:α} (h1:lt y x=false) (h2:lt y z=true):lt x z=true:=by
 cases e:lt x z
 ·have:=h.ntrans y x z h1 e;rw[h2] at this;cases this
 ·rfl
end
variable {α:Type} [Inhabited α]
def Moved (f:Nat→Nat) (d d':Array α):Prop:=∀x,d'[x]! = d[f x]!
def swIdx (a b n x:Nat):Nat:=if a≤x∧x<a+n then b+(x-a) else if b≤x∧x<b+n then a+(x-b) else x
def rotIdx (a m b x:Nat):Nat:=if x<a then x else if x<a+(b-m) then m+(x-a) else if x<b then a+(x-(a+(b-m))) else x
def upIdx (a k x:Nat):Nat:=if a≤x∧x<k then x+1 else if x=k then a else x
def downIdx (m k x:Nat):Nat:=if k<x∧x≤m then x-1 else if x=k then m else x
theorem Moved.refl (d:Array α):Moved (fun x=>x) d d:=fun _=>rfl
theorem Moved.congr {f g:Nat→Nat} {d d':Array α} (h:Moved f d d') (e:∀x,f x=g x):Moved g d d':=fun x=>by rw[h x,e x]
theorem swp_at (d:Array α) (i j x:Nat) (hi:i<d.size) (hj:j<d.size):(swp d i j)[x]! = d[if x=i then j else if x=j then i else x]!:=by
 by_cases h1:x=i
 ·subst h1;rw[zA rfl];by_cases h2:x=j
  ·subst h2;exact swp_right d x x hj
  ·exact swp_left d x j hi h2
 ·rw[uA h1];by_cases h2:x=j
  ·subst h2;rw[zA rfl];exact swp_right d i x hj
  ·rw[uA h2];exact swp_other d i j x h1 h2
theorem Moved.swp {f:Nat→Nat} {d d':Array α} (h:Moved f d d') {i j:Nat} (hi:i<d'.size) (hj:j<d'.size):Moved (fun x=>f (if x=i then j else if x=j then i else x)) d (swp d' i j):=fun x=>by
 rw[swp_at d' i j x hi hj,h]
theorem Moved.trans {f g:Nat→Nat} {a b c:Array α} (h:Moved f a b) (k:Moved g b c):Moved (fun x=>f (g x)) a c:=fun x=>by rw[k x,h]
theorem Moved.sw {d d':Array α} {a b i n:Nat} (h:Moved (swIdx a b i) d d') (hi:i<n) (hab:a+n≤b) (hb:b+n≤d'.size):Moved (swIdx a b (i+1)) d (Go.Sort.swp d' (a+i) (b+i)) :=
 (h.swp (i:=a+i) (j:=b+i) zo zo).congr fun x=>by
  unfold swIdx
  by_cases h1:x=a+i
  ·subst h1;simp only[if_true];(repeat' split)<;>omega
  ·by_cases h2:x=b+i
   ·subst h2;rw[uA h1,zA rfl];(repeat' split)<;>omega
   ·rw[uA h1,uA h2];(repeat' split)<;>omega
theorem swIdx_zero (a b x:Nat):swIdx a b 0 x=x:=by unfold swIdx;(repeat' split)<;>omega
theorem upIdx_self (a x:Nat):upIdx a a x=x:=by unfold upIdx;(repeat' split)<;>omega
theorem downIdx_self (m x:Nat):downIdx m m x=x:=by unfold downIdx;(repeat' split)<;>omega
theorem upIdx_lt {a k x:Nat} (h:a≤x) (h':x<k):upIdx a k x=x+1:=by unfold upIdx;rw[zA ⟨h,h'⟩]
theorem upIdx_eq {a k:Nat}:upIdx a k k=a:=by unfold upIdx;rw[uA zo,zA rfl]
theorem upIdx_gt {a k x:Nat} (h:k<x):upIdx a k x=x:=by unfold upIdx;rw[uA zo,uA zo]
theorem downIdx_gt {m k x:Nat} (h:k<x) (h':x≤m):downIdx m k x=x-1:=by unfold downIdx;rw[zA ⟨h,h'⟩]
theorem downIdx_eq {m k:Nat}:downIdx m k k=m:=by unfold downIdx;rw[uA zo,zA rfl]
theorem downIdx_lt {m k x:Nat} (h:x<k):downIdx m k x=x:=by unfold downIdx;rw[uA zo,uA zo]
theorem Moved.up {d d':Array α} {a k:Nat} (h:Moved (upIdx a k) d d') (hk:a≤k) (hb:k+1<d'.size):Moved (upIdx a (k+1)) d (Go.Sort.swp d' k (k+1)) :=
 (h.swp (i:=k) (j:=k+1) zo zo).congr fun x=>by
  unfold upIdx
  by_cases h1:x=k
  ·subst h1;simp only[if_true];(repeat' split)<;>omega
  ·by_cases h2:x=k+1
   ·subst h2;rw[uA h1,zA rfl];(repeat' split)<;>omega
   ·rw[uA h1,uA h2];(repeat' split)<;>omega
theorem Moved.down {d d':Array α} {m k:Nat} (h:Moved (downIdx m (k+1)) d d') (hk:k+1≤m) (hb:k+1<d'.size):Moved (downIdx m k) d (Go.Sort.swp d' (k+1) k) :=
 (h.swp (i:=k+1) (j:=k) zo zo).congr fun x=>by
  unfold downIdx
  by_cases h1:x=k+1
  ·subst h1;simp only[if_true];(repeat' split)<;>omega
  ·by_cases h2:x=k
   ·subst h2;rw[uA h1,zA rfl];(repeat' split)<;>omega
   ·rw[uA h1,uA h2];(repeat' split)<;>omega
theorem rot_gt {m i j:Nat} (hi:i≤m) (h:j<i) (x:Nat):swIdx (m-i) m j (rotIdx (m-(i-j)) m (m+j) x)=rotIdx (m-i) m (m+j) x:=by
 unfold rotIdx swIdx
 (repeat' split)<;>omega
theorem rot_lt {m i j:Nat} (hi:i≤m) (h:i<j) (x:Nat):swIdx (m-i) (m+j-i) i (rotIdx (m-i) m (m+(j-i)) x)=rotIdx (m-i) m (m+j) x:=by
 unfold rotIdx swIdx
 (repeat' split)<;>omega
theorem rot_eq {m i:Nat} (hi:i≤m) (x:Nat):swIdx (m-i) m i x=rotIdx (m-i) m (m+i) x:=by
 unfold rotIdx swIdx
 (repeat' split)<;>omega
theorem rot_none {a m b:Nat} (hab:a≤m) (hmb:m≤b) (h:a=m∨b=m) (x:Nat):rotIdx a m b x=x:=by
 unfold rotIdx
 (repeat' split)<;>omega
section
variable {lt:α→α→Bool}
theorem SortedIn.le (hO:SWO lt) {a b:Nat} {d:Array α} (h:SortedIn lt a b d) {i j:Nat} (h1:a≤i) (h2:i≤j) (h3:j<b):lt d[j]! d[i]! = false:=by
 rcases nB i j with h4 | h4
 ·exact h i j h1 h4 h3
 ·obtain rfl:i=j:=zo;exact hO.irrefl _
theorem sym_split (hO:SWO lt) {d d1:Array α} {a m b s lo hi:Nat} (_ham:a<m) (hmb:m<b) (hl:SortedIn lt a m d) (hr:SortedIn lt m b d)
  (hlo:lo=if(a+b) / 2<m then(a+b) / 2+m-b else a) (hhi:hi=if(a+b) / 2<m then(a+b) / 2 else m) (h0:lo≤s) (h1:s≤hi)
  (c1:s=lo∨lt d[(a+b) / 2+m-s]! d[s-1]! = false) (c2:s=hi∨lt d[(a+b) / 2+m-1-s]! d[s]! = true)
  (hM:Moved (rotIdx s m ((a+b) / 2+m-s)) d d1) :
  (a≤s∧s≤m∧s≤(a+b) / 2∧(a+b) / 2≤(a+b) / 2+m-s∧m≤(a+b) / 2+m-s∧(a+b) / 2+m-s≤b)∧
  SortedIn lt a s d1∧SortedIn lt s ((a+b) / 2) d1∧SortedIn lt ((a+b) / 2) ((a+b) / 2+m-s) d1∧SortedIn lt ((a+b) / 2+m-s) b d1∧
  (∀i j,a≤i→i<(a+b) / 2→(a+b) / 2≤j→j<b→lt d1[j]! d1[i]! = false):=by
 obtain⟨mid,hmid⟩:∃mid,mid=(a+b) / 2:=⟨_,rfl⟩;rw[←hmid] at hlo hhi c1 c2 hM ⊢;obtain⟨t,ht⟩:∃t,t=mid+m-s:=⟨_,rfl⟩;rw[←ht] at c1 hM ⊢;have hb:a≤s∧s≤m∧s≤mid∧mid≤t∧m≤t∧t≤b:=by split at hlo<;>split at hhi<;>omega
 obtain⟨b1,b2,b3,b4,b5,b6⟩:=hb;have e:∀x,d1[x]! = d[rotIdx s m t x]!:=hM;have pA:∀x,x<s→rotIdx s m t x=x:=fun x hx=>by unfold rotIdx;rw[zA hx]
 have pB:∀x,s≤x→x<mid→rotIdx s m t x=m+(x-s):=fun x h1 h2=>by unfold rotIdx;rw[uA zo,zA zo]
 have pC:∀x,mid≤x→x<t→rotIdx s m t x=s+(x-mid):=fun x h1 h2=>by unfold rotIdx;rw[uA zo,uA zo,zA h2];omega
 have pD:∀x,t≤x→rotIdx s m t x=x:=fun x h1=>by unfold rotIdx;rw[uA zo,uA zo,uA zo]
 have cr:∀i j,(a≤i∧i<s∨m≤i∧i<t)→(s≤j∧j<m∨t≤j∧j<b)→lt d[j]! d[i]! = false:=by
  intro i j hi' hj;rcases hi' with⟨i1,i2⟩ | ⟨i1,i2⟩<;>rcases hj with⟨j1,j2⟩ | ⟨j1,j2⟩
  ·exact hl i j i1 zo j2
  ·rcases c1 with c | c
   ·exfalso;split at hlo<;>omega
   ·have x1:=SortedIn.le hO hl i1 (show i≤s-1 by omega) zo;have x2:=SortedIn.le hO hr b5 j1 j2;exact SWO.le_trans hO (SWO.le_trans hO x1 c) x2
  ·rcases c2 with c | c
   ·exfalso;split at hhi<;>omega
   ·have x1:=SortedIn.le hO hr i1 (show i≤mid+m-1-s by omega) zo;have x2:=SortedIn.le hO hl b1 j1 j2;exact SWO.asym hO (SWO.le_lt hO x1 (SWO.lt_le hO c x2))
  ·exact hr i j i1 zo j2
 refine⟨⟨b1,b2,b3,b4,b5,b6⟩,?_,?_,?_,?_,?_⟩
 ·intro i j h1 h2 h3;rw[e i,e j,pA i zo,pA j h3];exact hl i j h1 h2 zo
 ·intro i j h1 h2 h3;rw[e i,e j,pB i h1 zo,pB j zo h3];exact hr _ _ zo zo zo
 ·intro i j h1 h2 h3;rw[e i,e j,pC i h1 zo,pC j zo h3];exact hl _ _ zo zo zo
 ·intro i j h1 h2 h3;rw[e i,e j,pD i h1,pD j zo];exact hr _ _ zo h2 h3
 ·intro i j h1 h2 h3 h4;rw[e i,e j];refine cr _ _ ?_ ?_
  ·rcases nB i s with h | h
   ·rw[pA i h];exact .inl ⟨h1,h⟩
   ·rw[pB i h h2];exact .inr ⟨zo,zo⟩
  ·rcases nB j t with h | h
   ·rw[pC j h3 h];exact .inl ⟨zo,zo⟩
   ·rw[pD j h];exact .inr ⟨h,h4⟩
theorem sym_join {d1 d2 d3:Array α} {a mid b:Nat} (ham:a≤mid) (hmb:mid≤b) (hb:b≤d1.size) (hc:∀i j,a≤i→i<mid→mid≤j→j<b→lt d1[j]! d1[i]! = false)
  (p2:PermIn a mid d1 d2) (s2:SortedIn lt a mid d2) (p3:PermIn mid b d2 d3) (s3:SortedIn lt mid b d3):PermIn a b d1 d3∧SortedIn lt a b d3:=by
 have z2:d2.size=d1.size:=p2.1;refine⟨permIn_trans _ _ _ _ _ (permIn_mono _ _ _ _ _ _ (aA _) hmb hb p2) (permIn_mono _ _ _ _ _ _ ham (aA _) zo p3),fun i j h1 h2 h3=>?_⟩;rcases nB i mid with h | h
 ·rw[p3.2.1 i (.inl h)];rcases nB j mid with h' | h'
  ·rw[p3.2.1 j (.inl h')];exact s2 i j h1 h2 h'
  ·refine permIn_all d2 d3 mid b (fun y=>lt y d2[i]! = false) zo p3 (fun y y1 y2=>?_) j h' h3;rw[p2.2.1 y (.inr y1)];exact permIn_all d1 d2 a mid (fun z=>lt d1[y]! z=false) zo p2 (fun z z1 z2=>hc z y z1 z2 y1 y2) i h1 h
 ·exact s3 i j h h2 h3
theorem sym_up (hO:SWO lt) {d d':Array α} {a b i:Nat} (hi:a+1≤i) (hib:i≤b) (hr:SortedIn lt (a+1) b d) (h1:∀x,a+1≤x→x<i→lt d[x]! d[a]! = true) (h2:∀x,i≤x→x<b→lt d[x]! d[a]! = false)
  (hM:Moved (upIdx a (i-1)) d d'):SortedIn lt a b d':=by
 intro x y x1 xy y1;rw[hM x,hM y];by_cases c1:x<i-1
 ·rw[upIdx_lt x1 c1];by_cases c2:y<i-1
  ·rw[upIdx_lt zo c2];exact hr _ _ zo zo zo
  ·by_cases c3:y=i-1
   ·rw[c3,upIdx_eq];exact SWO.asym hO (h1 _ zo zo)
   ·rw[upIdx_gt zo];exact hr _ _ zo zo y1
 ·by_cases c3:x=i-1
  ·rw[c3,upIdx_eq,upIdx_gt zo];exact h2 y zo y1
  ·rw[upIdx_gt zo,upIdx_gt zo];exact hr _ _ zo xy y1
theorem sym_down (hO:SWO lt) {d d':Array α} {a m i:Nat} (hi:a≤i) (him:i≤m) (hl:SortedIn lt a m d) (h1:∀x,a≤x→x<i→lt d[m]! d[x]! = false) (h2:∀x,i≤x→x<m→lt d[m]! d[x]! = true)
  (hM:Moved (downIdx m i) d d'):SortedIn lt a (m+1) d':=by
 intro x y x1 xy y1;rw[hM x,hM y];by_cases c1:i<y
 ·rw[downIdx_gt c1 (show y≤m by omega)];by_cases c2:i<x
  ·rw[downIdx_gt c2 zo];exact hl _ _ zo zo zo
  ·by_cases c3:x=i
   ·rw[c3,downIdx_eq];exact SWO.asym hO (h2 _ zo zo)
   ·rw[downIdx_lt zo];exact hl _ _ x1 zo zo
 ·rw[downIdx_lt (show x<i by omega)];by_cases c3:y=i
  ·rw[c3,downIdx_eq];exact h1 x x1 zo
  ·rw[downIdx_lt zo];exact hl _ _ x1 xy zo
end
def ev (P:List (Int×Rat)) (x:Int→Rat):Rat:=P.foldr (fun t s=>t.2*x t.1+s) 0
theorem ev_nil (x:Int→Rat):ev [] x=0:=rfl
theorem ev_cons (t:Int×Rat) (P:List (Int×Rat)) (x:Int→Rat):ev (t :: P) x=t.2*x t.1+ev P x:=rfl
theorem ev_append (P Q:List (Int×Rat)) (x:Int→Rat):ev (P++Q) x=ev P x+ev Q x:=by
 induction P with
 | nil=>rw[bF,ev_nil,bE]
 | cons t P ih=>rw[dF,ev_cons,ev_cons,ih,nF]
theorem ev_scale (s:Rat) (P:List (Int×Rat)) (x:Int→Rat):ev (P.map fun t=>(t.1,s*t.2)) x=s*ev P x:=by
 induction P with
 | nil=>rw[List.map_nil,ev_nil,tE]
 | cons t P ih=>rw[nG,ev_cons,ev_cons,ih,Rat.mul_add,Rat.mul_assoc]
theorem ev_pins (a:Int) (q:Rat) (P:List (Int×Rat)) (x:Int→Rat):ev (pins a q P) x=q*x a+ev P x:=by
 induction P with
 | nil =>
  unfold pins
  split
  ·rename_i h;rw[h,ev_nil,uE,wC]
  ·rw[ev_cons]
 | cons t P ih =>
  unfold pins
  split
  ·split
   ·rename_i h;rw[h,uE,bE]
   ·rw[ev_cons]
  ·split
   ·rename_i h0
    split
    ·rename_i h
     rw[ev_cons,←h0];have h1:(q+t.2)*x a=0:=by rw[h,uE]
     rw[Rat.add_mul] at h1;rw[←nF,h1,bE]
    ·rw[ev_cons,ev_cons,←h0,Rat.add_mul,nF]
   ·rw[ev_cons,ev_cons,ih];grind
theorem ev_nrm (P:List (Int×Rat)) (x:Int→Rat):ev (nrm P) x=ev P x:=by
 induction P with
 | nil=>rfl
 | cons t P ih=>show ev (pins t.1 t.2 (nrm P)) x=_;rw[ev_pins,ih,ev_cons]
theorem ev_congr {P:List (Int×Rat)} {x y:Int→Rat} (h:∀t∈P,x t.1=y t.1):ev P x=ev P y:=by
 induction P with
 | nil=>rfl
 | cons t P ih=>rw[ev_cons,ev_cons,h t qA,ih fun u hu=>h u (yA _ hu)]
theorem ev_lin (P:List (Int×Rat)) (x y:Int→Rat) (s:Rat):ev P (fun a=>x a+s*y a)=ev P x+s*ev P y:=by
 induction P with
 | nil=>rw[ev_nil,ev_nil,ev_nil,tE,wC]
 | cons t P ih=>rw[ev_cons,ev_cons,ev_cons,ih];grind
def unit (a:Int):Int→Rat:=fun b=>if b=a then 1 else 0
theorem ev_unit (P:List (Int×Rat)) (a:Int):ev P (unit a)=pget P a:=by
 induction P with
 | nil=>rfl
 | cons t P ih =>
  rw[ev_cons,zAe,ih];unfold unit
  split
  ·rw[Rat.mul_one]
  ·rw[tE,bE]
theorem ev_drop (P:List (Int×Rat)) (k:Int) (x:Int→Rat):ev (P.filter fun t=>decide (t.1≠k)) x=ev P x-pget P k*x k:=by
 induction P with
 | nil=>rw[List.filter_nil,ev_nil,pget_nil,uE];grind
 | cons t P ih =>
  rw[dG];by_cases h:t.1=k
  ·rw[uA (by simp[h]),ih,zAe,zA h,ev_cons,h];grind
  ·rw[zA (by simp[h]),zAe,uA h,ev_cons,ev_cons,ih];grind
theorem rest_ev (P:List (Int×Rat)) (col:Int) (x:Int→Rat):ev (restF P col) x=ev P x-pget P col*x col:=by
 unfold restF
 rw[ev_nrm,ev_append,ev_drop,ev_cons,ev_nil,uE,wC,wC]
theorem rest_get (P:List (Int×Rat)) (col a:Int):pget (restF P col) a=if a=col then 0 else pget P a:=by
 unfold restF
 rw[nrm_get,pget_append,pget_drop,pget_one];split<;>simp[Rat.add_zero]
theorem rest_nrm (P:List (Int×Rat)) (col:Int):Nrm (restF P col):=nrm_nrm _
theorem elim_ev {P Q:List (Int×Rat)} {col:Int} (h:pget Q col≠0) (x:Int→Rat):ev (elimRow P (restF Q col) col (pget Q col)) x=ev P x-pget P col / pget Q col*ev Q x:=by
 unfold elimRow
 rw[ev_nrm,ev_append,ev_nrm,ev_append,ev_drop,ev_scale,rest_ev,ev_cons,ev_nil];have h1:pget P col / pget Q col*pget Q col=pget P col:=kE h;grind
theorem elim_nrm (P rest:List (Int×Rat)) (col:Int) (pv:Rat):Nrm (elimRow P rest col pv):=nrm_nrm _
theorem getD_set {α:Type} (L:List α) (i j:Nat) (x d:α):(L.set i x).getD j d=if i=j∧j<L.length then x else L.getD j d:=by
 rw[dA,dA,List.getElem?_set];by_cases h:i=j
 ·subst h;by_cases h2:i<L.length
  ·simp[h2]
  ·simp[h2]
 ·simp[h]
theorem pget_lt {R:List (List (Int×Rat))} {j:Nat} {c:Int} (h:pget (R.getD j []) c≠0):j<R.length:=by
 rcases nB j R.length with h1 | h1
 ·exact h1
 ·rw[dA,eB h1] at h;exact absurd rfl h
theorem elim_row (R:List (List (Int×Rat))) (OB:List Bool) (col:Int) (pv:Rat) (rest:List (Int×Rat)) (j:Nat):∀i,(elimUp R OB col pv rest i).1.getD j []=if j<i∧OB.getD j false=true∧pget (R.getD j []) col≠0 then elimRow (R.getD j []) rest col pv else R.getD j []
 | 0=>by rw[uA zo];rfl
 | i+1=>by
  unfold elimUp
  split
  ·rename_i h
   rw[getD_set,elim_row R OB col pv rest j i,elim_len];by_cases e:i=j
   ·subst e;rw[zA ⟨rfl,pget_lt h.2⟩,zA ⟨zo,h⟩]
   ·rw[uA (fun c=>e c.1)];by_cases h2:j<i
    ·simp[h2,show j<i+1 by omega]
    ·simp[h2,show ¬j<i+1 by omega]
  ·rename_i h
   rw[elim_row R OB col pv rest j i];by_cases e:i=j
   ·subst e;rw[uA zo,uA (fun c=>h c.2)]
   ·by_cases h2:j<i
    ·simp[h2,show j<i+1 by omega]
    ·simp[h2,show ¬j<i+1 by omega]
theorem taken_nrm (R:List (List (Int×Rat))) (OB:List Bool) (col:Int) {pv:Rat} (hpv:pv≠0) (rest:List (Int×Rat)):∀i,Nrm (elimUp R OB col pv rest i).2∧∀t∈(elimUp R OB col pv rest i).2,0≤t.1∧t.1<(i:Int)∧t.1<(R.length:Int)
 | 0=>⟨⟨List.Pairwise.nil,fun x hx=>(by cases hx)⟩,fun x hx=>(by cases hx)⟩
 | i+1=>by
  have⟨h1,h2⟩:=taken_nrm R OB col hpv rest i;unfold elimUp
  split
  ·rename_i h
   have hl:=pget_lt h.2;refine⟨⟨h1.rise.snoc fun y hy=>(h2 y hy).2.1,fun x hx=>?_⟩,fun x hx=>?_⟩
   ·rcases nC.1 hx with hx | hx
    ·exact h1.nz x hx
    ·rcases rB.1 hx with rfl | hx
     ·intro h0;have h3:pget (R.getD i []) col / pv*pv=pget (R.getD i []) col:=kE hpv;simp only at h0
      rw[h0,uE] at h3;exact h.2 h3.symm
     ·cases hx
   ·rcases nC.1 hx with hx | hx
    ·have:=h2 x hx;omega
    ·rcases rB.1 hx with rfl | hx
     ·show 0≤(i:Int)∧(i:Int)<((i+1:Nat):Int)∧(i:Int)<(R.length:Int)
      omega
     ·cases hx
  ·exact⟨h1,fun x hx=>by have:=h2 x hx;omega⟩
theorem taken_get (R:List (List (Int×Rat))) (OB:List Bool) (col:Int) (pv:Rat) (rest:List (Int×Rat)) (j:Nat):∀i,pget (elimUp R OB col pv rest i).2 (j:Int)=if j<i∧OB.getD j false=true∧pget (R.getD j []) col≠0 then pget (R.getD j []) col / pv else 0
 | 0=>by rw[uA zo];rfl
 | i+1=>by
  unfold elimUp
  split
  ·rename_i h
   rw[pget_append,taken_get R OB col pv rest j i,pget_one];by_cases e:i=j
   ·subst e;rw[uA zo,zA rfl,zA ⟨zo,h⟩,bE]
   ·rw[uA (show ¬(i:Int)=(j:Int) by omega),wC];by_cases h2:j<i
    ·simp[h2,show j<i+1 by omega]
    ·simp[h2,show ¬j<i+1 by omega]
  ·rename_i h
   rw[taken_get R OB col pv rest j i];by_cases e:i=j
   ·subst e;rw[uA zo,uA (fun c=>h c.2)]
   ·by_cases h2:j<i
    ·simp[h2,show j<i+1 by omega]
    ·simp[h2,show ¬j<i+1 by omega]
theorem elim_all {R:List (List (Int×Rat))} {OB:List Bool} {col:Int} {Q:List (Int×Rat)} (h:pget Q col≠0) (j:Nat) (x:Int→Rat) :
  ev ((elimUp R OB col (pget Q col) (restF Q col) R.length).1.getD j []) x=ev (R.getD j []) x-pget (elimUp R OB col (pget Q col) (restF Q col) R.length).2 (j:Int)*ev Q x:=by
 rw[elim_row,taken_get];split
 ·exact elim_ev h x
 ·rw[uE];grind
theorem elim_all_get {R:List (List (Int×Rat))} {OB:List Bool} {col:Int} {Q:List (Int×Rat)} (h:pget Q col≠0) (j:Nat) (a:Int) :
  pget ((elimUp R OB col (pget Q col) (restF Q col) R.length).1.getD j []) a=pget (R.getD j []) a-pget (elimUp R OB col (pget Q col) (restF Q col) R.length).2 (j:Int)*pget Q a:=by
 rw[←ev_unit,elim_all h,ev_unit,ev_unit]
theorem pget_mem {P:List (Int×Rat)} {a:Int} (h:pget P a≠0):∃t∈P,t.1=a:=by
 induction P with
 | nil=>exact absurd rfl h
 | cons t P ih =>
  by_cases e:t.1=a
  ·exact⟨t,qA,e⟩
  ·rw[zAe,uA e] at h;obtain⟨u,hu,h2⟩:=ih h;exact⟨u,yA _ hu,h2⟩
theorem Nrm.get_ne {P:List (Int×Rat)} (h:Nrm P) {t:Int×Rat} (ht:t∈P):pget P t.1≠0:=by rw[h.rise.get ht];exact h.nz t ht
theorem Nrm.place {P:List (Int×Rat)} (h:Nrm P) {p:Int→Prop} (hp:∀a,pget P a≠0→p a):∀t∈P,p t.1:=fun _ ht=>hp _ (h.get_ne ht)
theorem elim_in {R:List (List (Int×Rat))} {OB:List Bool} {col:Int} {Q:List (Int×Rat)} {n:Nat} (h:pget Q col≠0) (hR:∀k,Nrm (R.getD k [])∧∀t∈R.getD k [],0≤t.1∧t.1<(n:Int)) (hQ:∀t∈Q,0≤t.1∧t.1<(n:Int)) (k:Nat) :
  Nrm ((elimUp R OB col (pget Q col) (restF Q col) R.length).1.getD k [])∧∀t∈(elimUp R OB col (pget Q col) (restF Q col) R.length).1.getD k [],0≤t.1∧t.1<(n:Int):=by
 have h1:Nrm ((elimUp R OB col (pget Q col) (restF Q col) R.length).1.getD k []):=by
  rw[elim_row];split
  ·exact elim_nrm _ _ _ _
  ·exact(hR k).1
 refine⟨h1,h1.place (p:=fun a=>0≤a∧a<(n:Int)) fun a ha=>?_⟩;rw[elim_all_get h] at ha;by_cases h2:pget (R.getD k []) a=0
 ·by_cases h3:pget Q a=0
  ·rw[h2,h3,tE] at ha;exact absurd (by grind) ha
  ·obtain⟨t,ht,rfl⟩:=pget_mem h3;exact hQ t ht
 ·obtain⟨t,ht,rfl⟩:=pget_mem h2;exact(hR k).2 t ht
theorem bst_mem {L:List Piv}:∀{b:Option Piv} {p:Piv},L.foldl bst b=some p→b=some p∨p∈L:=by
 induction L with
 | nil=>intro b p h;exact .inl h
 | cons q L ih =>
  intro b p h;rcases ih h with h1 | h1
  ·cases b with
   | none=>exact .inr (rB.2 (.inl (Option.some.inj h1).symm))
   | some r =>
    unfold bst at h1
    simp only at h1
    split at h1
    ·exact .inr (rB.2 (.inl (Option.some.inj h1).symm))
    ·exact .inl h1
  ·exact .inr (yA _ h1)
theorem bst_some {L:List Piv}:∀{q:Piv},L.foldl bst (some q)≠none:=by
 induction L with
 | nil=>intro q h;cases h
 | cons p L ih =>
  intro q h;show False
  change L.foldl bst (bst (some q) p)=none at h
  unfold bst at h
  simp only at h
  split at h
  ·exact ih h
  ·exact ih h
theorem bst_none {L:List Piv} {b:Option Piv} (h:L.foldl bst b=none):b=none∧L=[]:=by
 cases b with
 | some q=>exact absurd h bst_some
 | none =>
  cases L with
  | nil=>exact⟨rfl,rfl⟩
  | cons p L=>exact absurd h (bst_some (L:=L) (q:=p))
theorem best_mem {R:List (List (Int×Rat))} {OB:List Bool} {C:List Int} {p:Piv}:∀{i:Nat},bestUp R OB C i=some p→∃k,k<i∧OB.getD k false=true∧p∈cand C k (R.getD k [])
 | 0,h=>by cases h
 | i+1,h=>by
  unfold bestUp at h
  split at h
  ·rename_i ho
   rcases bst_mem h with h1 | h1
   ·obtain⟨k,h2,h3⟩:=best_mem h1;exact⟨k,zo,h3⟩
   ·exact⟨i,zo,ho,h1⟩
  ·obtain⟨k,h2,h3⟩:=best_mem h;exact⟨k,zo,h3⟩
theorem best_none {R:List (List (Int×Rat))} {OB:List Bool} {C:List Int}:∀{i:Nat},bestUp R OB C i=none→∀k,k<i→OB.getD k false=true→R.getD k []=[]
 | 0,_,k,hk,_=>by omega
 | i+1,h,k,hk,ho=>by
  unfold bestUp at h
  split at h
  ·obtain⟨h1,h2⟩:=bst_none h;by_cases e:k=i
   ·subst e;unfold cand at h2
    exact List.map_eq_nil_iff.1 h2
   ·exact best_none h1 k zo ho
  ·rename_i ho2
   by_cases e:k=i
   ·subst e;exact absurd ho ho2
   ·exact best_none h k zo ho
theorem next_mem {R:List (List (Int×Rat))} {OB:List Bool} {p:Piv} (h:nextF R OB=some p):∃k,k<R.length∧p.row=(k:Int)∧OB.getD k false=true∧∃t∈R.getD k [],t.1=p.col:=by
 obtain⟨k,h1,h2,h3⟩:=best_mem h;obtain⟨t,ht,rfl⟩:=rC.1 h3;exact⟨k,h1,rfl,h2,t,ht,rfl⟩
structure GoodSt (n:Nat) (s:StepF):Prop where
 row:0≤s.row∧s.row<(n:Int)
 col:0≤s.col∧s.col<(n:Int)
 pv:s.pv≠0
 rest:Nrm s.rest
 restIn:∀t∈s.rest,0≤t.1∧t.1<(n:Int)
 restCol:pget s.rest s.col=0
 taken:Nrm s.taken
 takenIn:∀t∈s.taken,0≤t.1∧t.1<(n:Int)
 takenRow:pget s.taken s.row=0
structure ApartSt (a b:StepF):Prop where
 row:a.row≠b.row
 col:a.col≠b.col
 rest:pget b.rest a.col=0
 taken:pget b.taken a.row=0
structure FacInv (n:Nat) (s:FacSt):Prop where
 hR:s.R.length=n
 hO:s.OB.length=n
 row:∀k,Nrm (s.R.getD k [])∧∀t∈s.R.getD k [],0≤t.1∧t.1<(n:Int)
 free:∀k,s.OB.getD k false=true→∀st∈s.ST,pget (s.R.getD k []) st.col=0
 good:∀st∈s.ST,GoodSt n st
 apart:s.ST.Pairwise ApartSt
 shut:∀st∈s.ST,s.OB.getD st.row.toNat false=false
 shut2:∀k,k<n→s.OB.getD k false=false→∃st∈s.ST,st.row=(k:Int)
 is:∀st∈s.ST,∀x,ev (s.R.getD st.row.toNat []) x=st.pv*x st.col+ev st.rest x
theorem FacInv.start {n:Nat} {R:List (List (Int×Rat))} (hR:R.length=n) (hr:∀k,Nrm (R.getD k [])∧∀t∈R.getD k [],0≤t.1∧t.1<(n:Int)):FacInv n ⟨R,List.replicate n true,[]⟩ where
 hR:=hR
 hO:=tD
 row:=hr
 free:=fun _ _ _ h=>by cases h
 good:=fun _ h=>by cases h
 apart:=List.Pairwise.nil
 shut:=fun _ h=>by cases h
 shut2:=fun k hk h=>by
  simp only[dA,xE,zA hk] at h
  cases h
 is:=fun _ h=>by cases h
theorem FacInv.step {n:Nat} {s t:FacSt} (h:FacInv n s) (ht:facStep s=some t) :
  FacInv n t∧∃st,t.ST=s.ST++[st]∧GoodSt n st∧(∀j:Nat,∀x,ev (t.R.getD j []) x=ev (s.R.getD j []) x-pget st.taken (j:Int)*ev (s.R.getD st.row.toNat []) x):=by
 unfold facStep at ht
 cases hp:nextF s.R s.OB with
 | none=>rw[hp] at ht;cases ht
 | some p =>
  rw[hp] at ht;simp only[Option.some.injEq] at ht
  obtain⟨k,hk,hrow,hopen,t0,ht0,hcol⟩:=next_mem hp;have hkn:k<n:=by rw[←h.hR];exact hk
  have hpn:p.row.toNat=k:=zo;obtain⟨OB',hOB'⟩:∃OB',OB'=s.OB.set k false:=⟨_,rfl⟩;obtain⟨Q,hQ⟩:∃Q,Q=s.R.getD k []:=⟨_,rfl⟩;have hpv:pget Q p.col≠0:=by rw[hQ,←hcol];exact(h.row k).1.get_ne ht0
  have hob:∀j,OB'.getD j false=true→s.OB.getD j false=true∧j≠k:=fun j hj=>by
   rw[hOB',getD_set] at hj;split at hj
   ·cases hj
   ·rename_i h9
    refine⟨hj,fun e=>?_⟩;subst e;exact h9 ⟨rfl,by rw[h.hO];exact hkn⟩
  have hobk:OB'.getD k false=false:=by
   rw[hOB',getD_set,zA ⟨rfl,by rw[h.hO];exact hkn⟩]
  have hsf:∀j,s.OB.getD j false=false→OB'.getD j false=false:=fun j hj=>by
   rw[hOB',getD_set];split
   ·rfl
   ·exact hj
  obtain⟨E,hE⟩:∃E,E=elimUp s.R OB' p.col (pget Q p.col) (restF Q p.col) s.R.length:=⟨_,rfl⟩;have et:t=⟨E.1,OB',s.ST++[⟨p.row,p.col,pget Q p.col,restF Q p.col,E.2⟩]⟩:=by
   rw[←ht,hE,hOB',hQ,hpn];unfold elimF
   simp only[hpn]
  clear ht;have hin:∀t∈Q,0≤t.1∧t.1<(n:Int):=by rw[hQ];exact(h.row k).2
  have hT:=taken_nrm s.R OB' p.col hpv (restF Q p.col) s.R.length;rw[←hE] at hT;have hTg:∀j:Nat,OB'.getD j false=false→pget E.2 (j:Int)=0:=fun j hj=>by
   rw[hE,taken_get,uA (fun c=>by rw[hj] at c;exact absurd c.2.1 (by simp))]
  have hEr:∀j:Nat,OB'.getD j false=false→E.1.getD j []=s.R.getD j []:=fun j hj=>by
   rw[hE,elim_row,uA (fun c=>by rw[hj] at c;exact absurd c.2.1 (by simp))]
  have hcin:0≤p.col∧p.col<(n:Int):=by rw[←hcol];exact hin t0 (by rw[hQ];exact ht0)
  have hgood:GoodSt n ⟨p.row,p.col,pget Q p.col,restF Q p.col,E.2⟩ :=
   ⟨by show 0≤p.row∧p.row<(n:Int);omega,hcin,hpv,rest_nrm _ _,(rest_nrm Q p.col).place (p:=fun a=>0≤a∧a<(n:Int)) fun a ha=>by
     rw[rest_get] at ha;split at ha
     ·exact absurd rfl ha
     ·obtain⟨u,hu,rfl⟩:=pget_mem ha;exact hin u hu,by show pget (restF Q p.col) p.col=0;rw[rest_get,zA rfl],hT.1,fun u hu=>by have:=hT.2 u hu;rw[h.hR] at this;omega,by
     show pget E.2 p.row=0
     rw[hrow];exact hTg k hobk⟩
  have hall:∀j:Nat,∀x,ev (E.1.getD j []) x=ev (s.R.getD j []) x-pget E.2 (j:Int)*ev Q x:=fun j x=>by rw[hE];exact elim_all hpv j x
  have hallg:∀(j:Nat) (a:Int),pget (E.1.getD j []) a=pget (s.R.getD j []) a-pget E.2 (j:Int)*pget Q a:=fun j a=>by rw[hE];exact elim_all_get hpv j a
  subst et;refine⟨⟨?_,?_,?_,?_,?_,?_,?_,?_,?_⟩,_,rfl,hgood,?_⟩
  ·show E.1.length=n
   rw[hE,elim_len,h.hR]
  ·show OB'.length=n
   rw[hOB',bC,h.hO]
  ·intro j;show Nrm (E.1.getD j [])∧_
   rw[hE];exact elim_in hpv h.row hin j
  ·intro j hj st hst;have⟨hj1,hj2⟩:=hob j hj;show pget (E.1.getD j []) st.col=0
   rcases nC.1 hst with hst | hst
   ·rw[hallg,h.free j hj1 st hst,hQ,h.free k hopen st hst,tE];grind
   ·obtain rfl:=gC.1 hst;show pget (E.1.getD j []) p.col=0
    rw[hallg,hE,taken_get];by_cases hz:pget (s.R.getD j []) p.col=0
    ·rw[uA (fun c=>c.2.2 hz),hz,uE];grind
    ·rw[zA ⟨pget_lt hz,hj,hz⟩,kE hpv];grind
  ·intro st hst;rcases nC.1 hst with hst | hst
   ·exact h.good st hst
   ·obtain rfl:=gC.1 hst;exact hgood
  ·show(s.ST++[_]).Pairwise ApartSt
   refine wF.2 ⟨h.apart,List.pairwise_singleton _ _,fun a ha b hb=>?_⟩;obtain rfl:=gC.1 hb;have hga:=h.good a ha;have hsa:=h.shut a ha;have hfk:=h.free k hopen a ha;refine⟨?_,?_,?_,?_⟩
   ·intro e;have e':a.row=p.row:=e;rw[e',hpn,hopen] at hsa;cases hsa
   ·intro e;have e':a.col=p.col:=e;rw[e',←hQ] at hfk;exact hpv hfk
   ·show pget (restF Q p.col) a.col=0
    rw[rest_get];split
    ·rfl
    ·rw[hQ];exact hfk
   ·show pget E.2 a.row=0
    have e2:a.row=((a.row.toNat:Nat):Int):=zi hga.row;rw[e2];exact hTg _ (hsf _ hsa)
  ·intro st hst;show OB'.getD st.row.toNat false=false
   rcases nC.1 hst with hst | hst
   ·exact hsf _ (h.shut st hst)
   ·obtain rfl:=gC.1 hst;show OB'.getD p.row.toNat false=false
    rw[hpn];exact hobk
  ·intro j hj hf;have hf:OB'.getD j false=false:=hf;by_cases e:j=k
   ·subst e;exact⟨_,List.mem_append_right _ (gC.2 rfl),hrow⟩
   ·rw[hOB',getD_set,uA (fun c=>e c.1.symm)] at hf;obtain⟨st,h1,h2⟩:=h.shut2 j hj hf;exact⟨st,List.mem_append_left _ h1,h2⟩
  ·intro st hst x;show ev (E.1.getD st.row.toNat []) x=_
   rcases nC.1 hst with hst | hst
   ·rw[hEr _ (hsf _ (h.shut st hst))];exact h.is st hst x
   ·obtain rfl:=gC.1 hst;show ev (E.1.getD p.row.toNat []) x=pget Q p.col*x p.col+ev (restF Q p.col) x
    rw[hpn,hEr _ hobk,←hQ,rest_ev];grind
  ·intro j x;show ev (E.1.getD j []) x=ev (s.R.getD j []) x-pget E.2 (j:Int)*ev (s.R.getD p.row.toNat []) x
   rw[hpn,←hQ];exact hall j x
def upd (x:Int→Rat) (a:Int) (v:Rat):Int→Rat:=fun b=>if b=a then v else x b
theorem upd_at (x:Int→Rat) (a:Int) (v:Rat):upd x a v a=v:=zA rfl
theorem upd_off {x:Int→Rat} {a b:Int} {v:Rat} (h:b≠a):upd x a v b=x b:=uA h
theorem upd_ev {P:List (Int×Rat)} (hP:Nrm P) {a:Int} (h:pget P a=0) (x:Int→Rat) (v:Rat):ev P (upd x a v)=ev P x :=
 ev_congr fun t ht=>upd_off fun e=>by have:=hP.get_ne ht;rw[e] at this;exact this h
def spr (f:Int→Rat) (P:List (Int×Rat)) (q:Rat):Int→Rat:=fun a=>f a-pget P a*q
def fwd (L:List StepF) (f:Int→Rat):Int→Rat:=L.foldl (fun f st=>spr f st.taken (f st.row)) f
theorem fwd_snoc (L:List StepF) (st:StepF) (f:Int→Rat):fwd (L++[st]) f=spr (fwd L f) st.taken (fwd L f st.row):=by
 unfold fwd
 rw[List.foldl_append];rfl
def back (g:Int→Rat):List StepF→Int→Rat
 | []=>fun _=>0
 | st :: L=>upd (back g L) st.col ((g st.row-ev st.rest (back g L)) / st.pv)
theorem back_sol {n:Nat} (g:Int→Rat):∀{L:List StepF},(∀st∈L,GoodSt n st)→L.Pairwise ApartSt→∀st∈L,st.pv*back g L st.col+ev st.rest (back g L)=g st.row
 | [],_,_=>fun _ h=>by cases h
 | s :: L,hg,ha=>fun st hst=>by
  have h0:=hg s qA;have⟨h1,h2⟩:=List.pairwise_cons.1 ha;unfold back
  rcases rB.1 hst with rfl | hst
  ·rw[upd_at,upd_ev h0.rest h0.restCol,Rat.mul_comm,kE h0.pv];grind
  ·have h3:=h1 st hst;have h4:=hg st (yA _ hst);rw[upd_off (fun e=>h3.col e.symm),upd_ev h4.rest h3.rest];exact back_sol g (fun u hu=>hg u (yA _ hu)) h2 st hst
theorem uniq_st {n:Nat} {ST:List StepF} (hg:∀st∈ST,GoodSt n st) (ha:ST.Pairwise ApartSt) (hc:∀a:Int,0≤a→a<(n:Int)→∃st∈ST,st.col=a) {x y:Int→Rat}
  (h:∀st∈ST,st.pv*x st.col+ev st.rest x=st.pv*y st.col+ev st.rest y):∀(L pre:List StepF),ST=pre++L→∀st∈L,x st.col=y st.col
 | [],_,_=>fun _ hm=>by cases hm
 | s :: L,pre,e=>fun st hst=>by
  have ih:=uniq_st hg ha hc h L (pre++[s]) (by rw[e,qE];rfl);have hs:s∈ST:=by rw[e];exact List.mem_append_right _ qA
  have h0:=hg s hs;rcases rB.1 hst with rfl | hst
  ·have hr:ev st.rest x=ev st.rest y:=ev_congr fun t ht=>by
    obtain⟨u,hu,hut⟩:=hc t.1 (h0.restIn t ht).1 (h0.restIn t ht).2;have hne:=h0.rest.get_ne ht;rw[e] at hu ha;rcases nC.1 hu with hu | hu
    ·have:=((wF.1 ha).2.2 u hu st qA).rest;rw[hut] at this;exact absurd this hne
    ·rcases rB.1 hu with rfl | hu
     ·have:=h0.restCol;rw[hut] at this;exact absurd this hne
     ·rw[←hut];exact ih u hu
   have h1:=h st hs;rw[hr] at h1;have h2:st.pv*x st.col=st.pv*y st.col:=by grind
   have h3:=congrArg (fun z=>z / st.pv) h2;simp only[Rat.mul_comm st.pv,Rat.mul_div_cancel h0.pv] at h3
   exact h3
  ·exact ih st hst
theorem pig:∀(n:Nat) {l:List Nat},l.Nodup→(∀x∈l,x<n)→l.length≤n
 | 0,l,_,h=>by
  cases l with
  | nil=>exact aA _
  | cons x l=>have:=h x qA;omega
 | n+1,l,hn,h=>by
  by_cases hm:n∈l
  ·have h1:=pig n (hn.erase n) (fun x hx=>by
    have h2:=h x (List.mem_of_mem_erase hx);have h3:x≠n:=fun e=>by subst e;exact(List.Nodup.not_mem_erase hn) hx
    omega)
   rw[List.length_erase_of_mem hm] at h1;omega
  ·have:=pig n hn (fun x hx=>by
    have h2:=h x hx;have h3:x≠n:=fun e=>by subst e;exact hm hx
    omega)
   omega
theorem pig_all {n:Nat} {l:List Nat} (hn:l.Nodup) (h:∀x∈l,x<n) (hl:l.length=n) (j:Nat) (hj:j<n):j∈l:=by
 rcases Classical.em (j∈l) with h1 | h1
 ·exact h1
 ·have:=pig n (l:=j :: l) (gF.2 ⟨h1,hn⟩) (fun x hx=>by
   rcases rB.1 hx with rfl | hx
   ·exact hj
   ·exact h x hx)
  rw[eD,hl] at this;omega
def rowsN (L:List StepF):List Nat:=L.map fun st=>st.row.toNat
def colsN (L:List StepF):List Nat:=L.map fun st=>st.col.toNat
theorem FacInv.rows {n:Nat} {s:FacSt} (h:FacInv n s):(rowsN s.ST).Nodup∧∀x∈rowsN s.ST,x<n:=by
 refine⟨?_,fun x hx=>?_⟩
 ·unfold rowsN List.Nodup
  rw[fF];refine h.apart.imp_of_mem fun {a b} ha hb hab e=>hab.row ?_;have h1:=(h.good a ha).row;have h2:=(h.good b hb).row;omega
 ·obtain⟨a,ha,rfl⟩:=rC.1 hx;have h1:=(h.good a ha).row;omega
theorem FacInv.cols {n:Nat} {s:FacSt} (h:FacInv n s):(colsN s.ST).Nodup∧∀x∈colsN s.ST,x<n:=by
 refine⟨?_,fun x hx=>?_⟩
 ·unfold colsN List.Nodup
  rw[fF];refine h.apart.imp_of_mem fun {a b} ha hb hab e=>hab.col ?_;have h1:=(h.good a ha).col;have h2:=(h.good b hb).col;omega
 ·obtain⟨a,ha,rfl⟩:=rC.1 hx;have h1:=(h.good a ha).col;omega
theorem FacInv.allRows {n:Nat} {s:FacSt} (h:FacInv n s) (hl:s.ST.length=n) (j:Nat) (hj:j<n):∃st∈s.ST,st.row=(j:Int):=by
 have:=pig_all h.rows.1 h.rows.2 (by unfold rowsN;rw[xB,hl]) j hj;obtain⟨a,ha,e⟩:=rC.1 this;exact⟨a,ha,by have:=(h.good a ha).row;omega⟩
theorem FacInv.allCols {n:Nat} {s:FacSt} (h:FacInv n s) (hl:s.ST.length=n) (a:Int) (ha:0≤a) (ha2:a<(n:Int)):∃st∈s.ST,st.col=a:=by
 have:=pig_all h.cols.1 h.cols.2 (by unfold colsN;rw[xB,hl]) a.toNat zo;obtain⟨b,hb,e⟩:=rC.1 this;exact⟨b,hb,by have:=(h.good b hb).col;omega⟩
theorem fac_sys {n:Nat} {s:FacSt} (h:FacInv n s) (hs:s.ST=[]):∀(k:Nat) {t:FacSt},facUp s k=some t→FacInv n t∧t.ST.length=k∧
  ∀x f,(∀j:Nat,j<n→ev (s.R.getD j []) x=f (j:Int))↔(∀j:Nat,j<n→ev (t.R.getD j []) x=fwd t.ST f (j:Int))
 | 0,t,ht=>by
  cases ht;refine⟨h,by rw[hs];rfl,fun x f=>?_⟩;rw[hs];exact Iff.rfl
 | k+1,t',ht'=>by
  unfold facUp at ht'
  cases ht:facUp s k with
  | none=>rw[ht] at ht';cases ht'
  | some t =>
   rw[ht] at ht';have⟨h1,h2,h3⟩:=fac_sys h hs k ht;obtain⟨h4,st,e,hgd,hev⟩:=h1.step ht';refine⟨h4,by rw[e,jC,h2];rfl,fun x f=>(h3 x f).trans ?_⟩;rw[e,fwd_snoc];have hrn:((st.row.toNat:Nat):Int)=st.row:=zi hgd.row;have hrl:st.row.toNat<n:=zi hgd.row;constructor
   ·intro h5 j hj;rw[hev,h5 j hj,h5 _ hrl,hrn];rfl
   ·intro h5 j hj;have h6:ev (t.R.getD st.row.toNat []) x=fwd t.ST f st.row:=by
     have h7:=h5 _ hrl;rw[hev,hrn,hgd.takenRow] at h7;unfold spr at h7
     rw[hgd.takenRow] at h7;grind
    have h7:=h5 j hj;rw[hev,h6] at h7;unfold spr at h7
    grind
theorem fac_ftran {n:Nat} {s t:FacSt} (h:FacInv n s) (hs:s.ST=[]) (ht:facUp s n=some t) (f:Int→Rat) (j:Nat) (hj:j<n) :
  ev (s.R.getD j []) (back (fwd t.ST f) t.ST)=f (j:Int):=by
 obtain⟨h1,h2,h3⟩:=fac_sys h hs n ht;refine(h3 _ f).2 (fun i hi=>?_) j hj;obtain⟨st,hst,hr⟩:=h1.allRows h2 i hi;have h4:=h1.is st hst (back (fwd t.ST f) t.ST);rw[hr] at h4;rw[show i=(i:Int).toNat from rfl,h4,back_sol _ h1.good h1.apart st hst,hr];rfl
theorem fac_uniq {n:Nat} {s t:FacSt} (h:FacInv n s) (hs:s.ST=[]) (ht:facUp s n=some t) {x y:Int→Rat} (hxy:∀j:Nat,j<n→ev (s.R.getD j []) x=ev (s.R.getD j []) y) (a:Int) (ha:0≤a) (ha2:a<(n:Int)):x a=y a:=by
 obtain⟨h1,h2,h3⟩:=fac_sys h hs n ht;have h4:=(h3 x (fun a=>ev (s.R.getD a.toNat []) x)).1 (fun j _=>rfl);have h5:=(h3 y (fun a=>ev (s.R.getD a.toNat []) x)).1 (fun j hj=>(hxy j hj).symm);obtain⟨st,hst,rfl⟩:=h1.allCols h2 a ha ha2;refine uniq_st h1.good h1.apart (fun a=>h1.allCols h2 a) (fun u hu=>?_) t.ST [] rfl st hst;have hrl:u.row.toNat<n:=zi (h1.good u hu).row;rw[←h1.is u hu,←h1.is u hu,h4 _ hrl,h5 _ hrl]
def btUp:List StepF→(Int→Rat)→(Int→Rat)→(Int→Rat)
 | [],_,y=>y
 | st :: L,c,y=>btUp L (spr c st.rest (c st.col / st.pv)) (upd y st.row (c st.col / st.pv))
def btDn (L:List StepF) (y:Int→Rat):Int→Rat:=L.foldr (fun st y=>upd y st.row (y st.row-ev st.taken y)) y
theorem btDn_snoc (L:List StepF) (st:StepF) (y:Int→Rat):btDn (L++[st]) y=btDn L (upd y st.row (y st.row-ev st.taken y)):=by
 unfold btDn
 rw[List.foldr_append];rfl
theorem bt_keep {a:Int}:∀{L:List StepF},(∀st∈L,st.row≠a)→∀c y,btUp L c y a=y a
 | [],_,_,_=>rfl
 | st :: L,h,c,y=>by
  unfold btUp
  rw[bt_keep (fun u hu=>h u (yA _ hu)),upd_off (fun e=>h st qA e.symm)]
def rowAt (st:StepF) (a:Int):Rat:=(if a=st.col then st.pv else 0)+pget st.rest a
def comb (L:List StepF) (z:Int→Rat) (a:Int):Rat:=L.foldr (fun st s=>z st.row*rowAt st a+s) 0
theorem comb_cons (st:StepF) (L:List StepF) (z:Int→Rat) (a:Int):comb (st :: L) z a=z st.row*rowAt st a+comb L z a:=rfl
theorem comb_zero {a:Int} (z:Int→Rat):∀{L:List StepF},(∀st∈L,st.col≠a∧pget st.rest a=0)→comb L z a=0
 | [],_=>rfl
 | st :: L,h=>by
  have⟨h1,h2⟩:=h st qA;rw[comb_cons,comb_zero z (fun u hu=>h u (yA _ hu))];unfold rowAt
  rw[uA (fun e=>h1 e.symm),h2];grind
theorem bt_comb {n:Nat}:∀{L:List StepF},(∀st∈L,GoodSt n st)→L.Pairwise ApartSt→∀c y,∀st∈L,comb L (btUp L c y) st.col=c st.col
 | [],_,_=>fun _ _ _ h=>by cases h
 | s :: L,hg,ha=>fun c y st hst=>by
  have h0:=hg s qA;have⟨h1,h2⟩:=List.pairwise_cons.1 ha;rw[comb_cons];have hz:btUp (s :: L) c y s.row=c s.col / s.pv:=by
   unfold btUp
   rw[bt_keep (fun u hu e=>(h1 u hu).row e.symm),upd_at]
  rw[hz];have hq:c s.col / s.pv*s.pv=c s.col:=kE h0.pv;rcases rB.1 hst with rfl | hst
  ·rw[comb_zero _ (fun u hu=>⟨fun e=>(h1 u hu).col e.symm,(h1 u hu).rest⟩)];unfold rowAt
   rw[zA rfl,h0.restCol];grind
  ·have h3:=bt_comb (fun u hu=>hg u (yA _ hu)) h2 (spr c s.rest (c s.col / s.pv)) (upd y s.row (c s.col / s.pv)) st hst;have h4:comb L (btUp (s :: L) c y) st.col=spr c s.rest (c s.col / s.pv) st.col:=h3;rw[h4];unfold rowAt spr
   rw[uA (fun e=>(h1 st hst).col e.symm)];grind
def sumR (l:List Nat) (y:Int→Rat) (R:List (List (Int×Rat))) (a:Int):Rat:=l.foldr (fun(i:Nat) s=>y (i:Int)*pget (R.getD i []) a+s) 0
theorem sumR_cons (i:Nat) (l:List Nat) (y:Int→Rat) (R:List (List (Int×Rat))) (a:Int):sumR (i :: l) y R a=y (i:Int)*pget (R.getD i []) a+sumR l y R a:=rfl
def sumP (l:List Nat) (y:Int→Rat) (P:List (Int×Rat)):Rat:=l.foldr (fun(i:Nat) s=>y (i:Int)*pget P (i:Int)+s) 0
theorem sumP_cons (i:Nat) (l:List Nat) (y:Int→Rat) (P:List (Int×Rat)):sumP (i :: l) y P=y (i:Int)*pget P (i:Int)+sumP l y P:=rfl
theorem sumP_nil (y:Int→Rat):∀l:List Nat,sumP l y []=0
 | []=>rfl
 | i :: l=>by rw[sumP_cons,sumP_nil y l,pget_nil,tE,wC]
theorem sumP_one {y : Int → Rat} {t : Int × Rat} (P : List (Int × Rat)) : ∀ {l : List Nat}, l.Nodup → sumP l y (t :: P) = (if 0 ≤ t.1 ∧ t.1.toNat ∈ l then t.2 * y t.1 else 0) + sumP l y P
  | [], _ => by rw [uA (by simp)]; show (0 : Rat) = 0 + 0; grind
  | i :: l, h => by
    have ⟨h1, h2⟩ := gF.1 h;rw [sumP_cons, sumP_cons, sumP_one P h2, zAe];by_cases e : t.1 = (i : Int)
    · rw [if_pos e, if_neg (fun c => h1 (by have : t.1.toNat = i := by omega
                                            rw [← this]; exact c.2)), zA ⟨zo, by rw [show t.1.toNat = i by omega]; exact qA⟩, ← e]
      grind
    · rw [uA e]
      by_cases c : 0 ≤ t.1 ∧ t.1.toNat ∈ l
      · rw [zA c, zA ⟨c.1, yA _ c.2⟩]
        grind
      · rw [uA c, uA (fun d => by
          rcases rB.1 d.2 with h3 | h3
          · exact e zo
          · exact c ⟨d.1, h3⟩)]
        grind
theorem sumP_ev {y:Int→Rat} {l:List Nat} (hl:l.Nodup):∀{P:List (Int×Rat)},(∀t∈P,0≤t.1∧t.1.toNat∈l)→sumP l y P=ev P y
 | [],_=>sumP_nil y l
 | t :: P,h=>by
  rw[sumP_one P hl,zA (h t qA),sumP_ev hl (fun u hu=>h u (yA _ hu)),ev_cons]
theorem sumR_take {R R':List (List (Int×Rat))} {T:List (Int×Rat)} {q a:_} {y:Int→Rat}:∀{l:List Nat},(∀j∈l,pget (R'.getD j []) a=pget (R.getD j []) a-pget T (j:Int)*q)→sumR l y R' a=sumR l y R a-sumP l y T*q
 | [],_=>by show(0:Rat)=0-0*q;grind
 | i :: l,h=>by
  rw[sumR_cons,sumR_cons,sumP_cons,sumR_take (fun j hj=>h j (yA _ hj)),h i qA];grind
theorem sumR_off {R:List (List (Int×Rat))} {a r:Int} {v:Rat} {y:Int→Rat}:∀{l:List Nat},(∀j∈l,(j:Int)≠r)→sumR l (upd y r v) R a=sumR l y R a
 | [],_=>rfl
 | i :: l,h=>by rw[sumR_cons,sumR_cons,sumR_off (fun j hj=>h j (yA _ hj)),upd_off (h i qA)]
theorem sumR_upd {R:List (List (Int×Rat))} {a:Int} {r:Nat} {v:Rat} {y:Int→Rat}:∀{l:List Nat},l.Nodup→r∈l→sumR l (upd y (r:Int) v) R a=sumR l y R a+(v-y (r:Int))*pget (R.getD r []) a
 | [],_,h=>by cases h
 | i :: l,hn,h=>by
  have⟨h1,h2⟩:=gF.1 hn;rw[sumR_cons,sumR_cons];by_cases e:i=r
  ·subst e;rw[upd_at,sumR_off (fun j hj c=>by
    obtain rfl:j=i:=zo;exact h1 hj)]
   grind
  ·rw[upd_off zo];rcases rB.1 h with h3 | h3
   ·exact absurd h3.symm e
   ·rw[sumR_upd h2 h3];grind
theorem fac_dn {n:Nat} {s:FacSt} (h:FacInv n s) (hs:s.ST=[]) {l:List Nat} (hl:l.Nodup) (hl2:∀j,j<n→j∈l) (a:Int):∀(k:Nat) {t:FacSt},facUp s k=some t→∀y,sumR l y t.R a=sumR l (btDn t.ST y) s.R a
 | 0,t,ht,y=>by cases ht;rw[hs];rfl
 | k+1,t',ht',y=>by
  unfold facUp at ht'
  cases ht:facUp s k with
  | none=>rw[ht] at ht';cases ht'
  | some t =>
   rw[ht] at ht';have⟨h1,_,_⟩:=fac_sys h hs k ht;obtain⟨h4,st,e,hgd,hev⟩:=h1.step ht';have hrn:((st.row.toNat:Nat):Int)=st.row:=zi hgd.row;have hrl:st.row.toNat<n:=zi hgd.row;rw[e,btDn_snoc,←fac_dn h hs hl hl2 a k ht,sumR_take (T:=st.taken) (R:=t.R) (q:=pget (t.R.getD st.row.toNat []) a) (fun j _=>by
    have:=hev j (unit a);rw[ev_unit,ev_unit,ev_unit] at this;exact this),sumP_ev hl (fun u hu=>⟨(hgd.takenIn u hu).1,hl2 _ (zi (hgd.takenIn u hu))⟩),←hrn,sumR_upd hl (hl2 _ hrl)]
   grind
theorem sumR_comb {n:Nat} {t:FacSt} (h:FacInv n t) (z:Int→Rat) (a:Int):∀{L:List StepF},(∀st∈L,st∈t.ST)→sumR (rowsN L) z t.R a=comb L z a
 | [],_=>rfl
 | st :: L,hL=>by
  have hm:=hL st qA;show sumR (st.row.toNat :: rowsN L) z t.R a=_
  have hrn:((st.row.toNat:Nat):Int)=st.row:=zi (h.good st hm).row;rw[sumR_cons,comb_cons,sumR_comb h z a (fun u hu=>hL u (yA _ hu)),hrn];congr 2
  have h1:=h.is st hm (unit a);rw[ev_unit,ev_unit] at h1;rw[h1];unfold rowAt unit
  by_cases e:st.col=a
  ·rw[zA e,zA e.symm,Rat.mul_one]
  ·rw[uA e,uA (fun c=>e c.symm),tE]
theorem fac_btran {n:Nat} {s t:FacSt} (h:FacInv n s) (hs:s.ST=[]) (ht:facUp s n=some t) (c:Int→Rat) (a:Int) (ha:0≤a) (ha2:a<(n:Int)) :
  sumR (rowsN t.ST) (btDn t.ST (btUp t.ST c fun _=>0)) s.R a=c a:=by
 obtain⟨h1,h2,_⟩:=fac_sys h hs n ht;rw[←fac_dn h hs h1.rows.1 (fun j hj=>pig_all h1.rows.1 h1.rows.2 (by unfold rowsN;rw[xB,h2]) j hj) a n ht,sumR_comb h1 _ _ (fun _ hu=>hu)];obtain⟨st,hst,rfl⟩:=h1.allCols h2 a ha ha2;exact bt_comb h1.good h1.apart c _ st hst
theorem rise_len {P:List (Int×Rat)} {n:Nat} (h:Rise P) (hp:∀t∈P,0≤t.1∧t.1<(n:Int)):P.length≤n:=by
 have h1:=pig n (l:=P.map fun t=>t.1.toNat) (by
  unfold List.Nodup
  rw[fF];refine List.Pairwise.imp_of_mem (fun {a b} ha hb hab e=>?_) h;have h1:=hp a ha;have h2:=hp b hb;omega) (fun x hx=>by
  obtain⟨t,ht,rfl⟩:=rC.1 hx;have:=hp t ht;omega)
 rwa [xB] at h1
def facM (m:Nat):Nat→Nat
 | 0=>m+2
 | i+1=>4*facM m i+12
def facK (m i:Nat):Nat:=2*facM m i+4
theorem facM_mono (m : Nat) : ∀ {i j : Nat}, i ≤ j → facM m i ≤ facM m j
  | i, 0, h => by obtain rfl : i = 0 := by omega
                  exact aA _
  | i, j + 1, h => by
    by_cases e : i = j + 1
    · subst e; exact aA _
    · have := facM_mono m (i := i) (j := j) zo
      show _ ≤ 4 * facM m j + 12
      omega
theorem facM_two (m i:Nat):2≤facM m i:=wA (show 2≤facM m 0 from by show 2≤m+2;omega) (facM_mono m (cB i))
theorem fac_none {s : FacSt} {i : Nat} (h : facUp s i = none) : ∀ {n : Nat}, i ≤ n → facUp s n = none
  | 0, hn => by obtain rfl : i = 0 := by omega
                exact h
  | n + 1, hn => by
    by_cases e : i = n + 1
    · subst e; exact h
    · unfold facUp
      rw [fac_none h (n := n) zo]
theorem fac_more {s t:FacSt} {i:Nat} (h:facUp s i=some t):facUp s (i+1)=facStep t:=by
 show(match facUp s i with | none=>none | some t=>facStep t)=_
 rw[h]
theorem step_none {t:FacSt} (h:nextF t.R t.OB=none):facStep t=none:=by unfold facStep;rw[h]
theorem step_some {t:FacSt} {pc co:Int} {k:Nat} (h:nextF t.R t.OB=some ⟨pc,co,(k:Int)⟩):facStep t=some ⟨(elimUp t.R (t.OB.set k false) co (pget (t.R.getD k []) co) (restF (t.R.getD k []) co) t.R.length).1,t.OB.set k false,
  t.ST++[⟨(k:Int),co,pget (t.R.getD k []) co,restF (t.R.getD k []) co,(elimUp t.R (t.OB.set k false) co (pget (t.R.getD k []) co) (restF (t.R.getD k []) co) t.R.length).2⟩]⟩:=by
 unfold facStep
 rw[h];rfl
def opnL (i n:Nat):List Bool:=List.replicate i true++List.replicate (n-i) false
theorem opnL_full (n:Nat):opnL n n=List.replicate n true:=by unfold opnL;rw[xF];exact kG _
theorem opnL_get {i n:Nat} (h:i<n):(opnL i n)[i]?=some false:=by
 unfold opnL
 rw[xD (by rw[tD];exact aA _),tD,xF,xE,zA zo]
theorem opnL_set {i n:Nat} (h:i<n):(opnL i n).set i true=opnL (i+1) n:=by
 unfold opnL
 rw[List.set_append_right _ _ (by rw[tD];exact aA _),tD,xF,show n-i=(n-(i+1))+1 by omega,aG,List.set_cons_zero,List.replicate_succ',qE];rfl
theorem fwd_take {L:List StepF} {i:Nat} {st:StepF} (h:L[i]?=some st) (f:Int→Rat):fwd (L.take (i+1)) f=spr (fwd (L.take i) f) st.taken (fwd (L.take i) f st.row):=by
 rw[take_snoc' h,fwd_snoc]
theorem drop_cons {α:Type} {L:List α} {j:Nat} {x:α} (h:L[j]?=some x):L.drop j=x :: L.drop (j+1):=by
 obtain⟨hj,rfl⟩:=yB.1 h;exact mD hj
theorem back_drop {L:List StepF} {j:Nat} {st:StepF} (h:L[j]?=some st) (g:Int→Rat):back g (L.drop j)=upd (back g (L.drop (j+1))) st.col ((g st.row-ev st.rest (back g (L.drop (j+1)))) / st.pv):=by
 rw[drop_cons h];rfl
theorem back_pre (g:Int→Rat) (L:List StepF) (c:Int):∀{pre:List StepF},(∀a∈pre,a.col≠c)→back g (pre++L) c=back g L c
 | [],_=>rfl
 | a :: pre,h=>by
  rw[dF];show upd (back g (pre++L)) a.col _ c=_
  rw[upd_off (fun e=>h a qA e.symm)];exact back_pre g L c fun b hb=>h b (yA _ hb)
theorem back_fin {L:List StepF} (ha:L.Pairwise ApartSt) {j:Nat} {st:StepF} (h:L[j]?=some st) (g:Int→Rat):back g L st.col=back g (L.drop j) st.col:=by
 have e:L=L.take j++L.drop j:=(uD j L).symm;have h2:st∈L.drop j:=by rw[drop_cons h];exact qA
 have h3:=ha;rw[e] at h3;have h4:back g L st.col=back g (L.take j++L.drop j) st.col:=by rw[uD]
 rw[h4];exact back_pre g _ _ fun a hm=>((wF.1 h3).2.2 a hm st h2).col
end Go.Proofs.YteggjbgbknkoiaaGreatDoor
