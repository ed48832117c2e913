import Derived.Test.YteggjbgbknkoiaaGreatDoorUA
import Derived.Sort.Lot0
namespace Go.Proofs.YteggjbgbknkoiaaGreatDoor
def pget:List (Int×Rat)→Int→Rat
 | [],_=>0
 | x :: L,a=>if x.1=a then x.2+pget L a else pget L a
theorem pget_nil (a:Int):pget [] a=0:=rfl
theorem zAg (x:Int×Rat) (L:List (Int×Rat)) (a:Int):pget (x :: L) a=if x.1=a then x.2+pget L a else pget L a:=rfl
theorem pget_one (x:Int×Rat) (a:Int):pget [x] a=if x.1=a then x.2 else 0:=by rw[zAg,pget_nil,uC]
theorem pget_append (L M:List (Int×Rat)) (a:Int):pget (L++M) a=pget L a+pget M a:=by
 induction L with
 | nil=>rw[pG,pget_nil,fE]
 | cons x L ih =>
  rw[yE,zAg,zAg,ih];split
  ·rw[tF]
  ·rfl
theorem pget_perm {L M:List (Int×Rat)} (h:L.Perm M) (a:Int):pget L a=pget M a:=by
 induction h with
 | nil=>rfl
 | cons x _ ih=>rw[zAg,zAg,ih]
 | swap x y L =>
  rw[zAg,zAg,zAg,zAg];split<;>split<;>(try rfl)
  rw[←tF,←tF,Rat.add_comm y.2]
 | trans _ _ ih1 ih2=>rw[ih1,ih2]
theorem pget_scale (s:Rat) (L:List (Int×Rat)) (a:Int):pget (L.map fun x=>(x.1,s*x.2)) a=s*pget L a:=by
 induction L with
 | nil=>rw[List.map_nil,pget_nil,uE]
 | cons x L ih =>
  rw[List.map_cons,zAg,zAg,ih];split
  ·rw[Rat.mul_add]
  ·rfl
theorem pget_none {L:List (Int×Rat)} {a:Int} (h:∀x∈L,x.1≠a):pget L a=0:=by
 induction L with
 | nil=>rfl
 | cons x L ih =>
  rw[zAg,fA (h x pA)];exact ih fun y hy=>h y (qA _ hy)
theorem pget_drop (L:List (Int×Rat)) (k a:Int):pget (L.filter fun x=>decide (x.1≠k)) a=if a=k then 0 else pget L a:=by
 induction L with
 | nil=>rw[List.filter_nil,pget_nil];split<;>rfl
 | cons x L ih =>
  rw[kG];by_cases h:x.1=k
  ·rw[fA (by simp[h]),ih,zAg];split
   ·rfl
   ·rw[fA zo]
  ·rw[gA (by simp[h]),zAg,zAg,ih];by_cases h2:x.1=a
   ·rw[gA h2,fA (show ¬a=k by omega),fA (show ¬a=k by omega),gA h2]
   ·rw[fA h2,fA h2]
theorem pget_nz (L:List (Int×Rat)) (a:Int):pget (L.filter fun x=>decide (x.2≠0)) a=pget L a:=by
 induction L with
 | nil=>rfl
 | cons x L ih =>
  rw[kG];by_cases h:x.2=0
  ·rw[fA (by simp[h]),ih,zAg,h,fE];split<;>rfl
  ·rw[gA (by simp[h]),zAg,zAg,ih]
def Rise (L:List (Int×Rat)):Prop:=L.Pairwise fun x y=>x.1<y.1
structure Nrm (L:List (Int×Rat)):Prop where
 rise:Rise L
 nz:∀x∈L,x.2≠0
theorem Rise.cons {x:Int×Rat} {L:List (Int×Rat)}:Rise (x :: L)↔(∀y∈L,x.1<y.1)∧Rise L:=List.pairwise_cons
theorem Nrm.tail {x:Int×Rat} {L:List (Int×Rat)} (h:Nrm (x :: L)):Nrm L:=⟨(Rise.cons.1 h.rise).2,fun y hy=>h.nz y (qA _ hy)⟩
theorem Rise.head {x:Int×Rat} {L:List (Int×Rat)} (h:Rise (x :: L)):pget (x :: L) x.1=x.2:=by
 rw[zAg,gA rfl,pget_none (fun y hy=>by have:=(Rise.cons.1 h).1 y hy;omega),uC]
theorem Rise.low {x:Int×Rat} {L:List (Int×Rat)} (h:Rise (x :: L)) {a:Int} (ha:a<x.1):pget (x :: L) a=0 :=
 pget_none fun y hy=>by
  rcases sB.1 hy with rfl | hy
  ·omega
  ·have:=(Rise.cons.1 h).1 y hy;omega
theorem Rise.get {L:List (Int×Rat)} (h:Rise L) {x:Int×Rat} (hx:x∈L):pget L x.1=x.2:=by
 induction L with
 | nil=>cases hx
 | cons y L ih =>
  rcases sB.1 hx with rfl | hx
  ·exact h.head
  ·rw[zAg,fA (zi ((Rise.cons.1 h).1 x hx))];exact ih (Rise.cons.1 h).2 hx
theorem Nrm.ext {L M:List (Int×Rat)} (hL:Nrm L) (hM:Nrm M) (h:∀a,pget L a=pget M a):L=M:=by
 induction L generalizing M with
 | nil =>
  cases M with
  | nil=>rfl
  | cons y M=>have:=h y.1;rw[hM.rise.head,pget_nil] at this;exact absurd this.symm (hM.nz y pA)
 | cons x L ih =>
  cases M with
  | nil=>have:=h x.1;rw[hL.rise.head,pget_nil] at this;exact absurd this (hL.nz x pA)
  | cons y M =>
   have e1:x.1=y.1:=by
    rcases gE x.1 y.1 with h1 | h1 | h1
    ·have:=h x.1;rw[hL.rise.head,hM.rise.low h1] at this;exact absurd this (hL.nz x pA)
    ·exact h1
    ·have:=h y.1;rw[hM.rise.head,hL.rise.low h1] at this;exact absurd this.symm (hM.nz y pA)
   have e2:x.2=y.2:=by
    have:=h x.1;rw[hL.rise.head,e1,hM.rise.head] at this;exact this
   obtain rfl:x=y:=Prod.ext e1 e2;congr 1
   refine ih hL.tail hM.tail fun a=>?_;by_cases ha:x.1=a
   ·subst ha;rw[pget_none (fun z hz=>by have:=(Rise.cons.1 hL.rise).1 z hz;omega),pget_none (fun z hz=>by have:=(Rise.cons.1 hM.rise).1 z hz;omega)]
   ·have:=h a;rwa [zAg,zAg,fA ha,fA ha] at this
def pins (a:Int) (q:Rat):List (Int×Rat)→List (Int×Rat)
 | []=>if q=0 then [] else [(a,q)]
 | x :: L=>if a<x.1 then(if q=0 then x :: L else(a,q) :: x :: L) else if a=x.1 then(if q+x.2=0 then L else(a,q+x.2) :: L) else x :: pins a q L
def nrm:List (Int×Rat)→List (Int×Rat)
 | []=>[]
 | x :: L=>pins x.1 x.2 (nrm L)
theorem pins_ge {a b:Int} {q:Rat} {L:List (Int×Rat)} (ha:b<a) (h:∀y∈L,b<y.1):∀y∈pins a q L,b<y.1:=by
 induction L with
 | nil =>
  intro y hy;unfold pins at hy
  split at hy
  ·cases hy
  ·rcases sB.1 hy with rfl | hy
   ·exact ha
   ·cases hy
 | cons x L ih =>
  intro y hy;unfold pins at hy
  split at hy
  ·split at hy
   ·exact h y hy
   ·rcases sB.1 hy with rfl | hy
    ·exact ha
    ·exact h y hy
  ·split at hy
   ·split at hy
    ·exact h y (qA _ hy)
    ·rcases sB.1 hy with rfl | hy
     ·exact ha
     ·exact h y (qA _ hy)
   ·rcases sB.1 hy with rfl | hy
    ·exact h y pA
    ·exact ih (fun z hz=>h z (qA _ hz)) y hy
theorem pins_nrm {a:Int} {q:Rat} {L:List (Int×Rat)} (h:Nrm L):Nrm (pins a q L):=by
 induction L with
 | nil =>
  unfold pins
  split
  ·exact h
  ·rename_i hq
   exact⟨List.pairwise_singleton _ _,fun x hx=>by rcases sB.1 hx with rfl | hx;exact hq;cases hx⟩
 | cons x L ih =>
  have hc:=Rise.cons.1 h.rise;unfold pins
  split
  ·rename_i h1
   split
   ·exact h
   ·rename_i hq
    refine⟨Rise.cons.2 ⟨fun y hy=>?_,h.rise⟩,fun y hy=>?_⟩
    ·rcases sB.1 hy with rfl | hy
     ·exact h1
     ·have:=hc.1 y hy;simp only;omega
    ·rcases sB.1 hy with rfl | hy
     ·exact hq
     ·exact h.nz y hy
  ·rename_i h1
   split
   ·rename_i h2
    split
    ·exact h.tail
    ·rename_i hq
     refine⟨Rise.cons.2 ⟨fun y hy=>by have:=hc.1 y hy;simp only;omega,hc.2⟩,fun y hy=>?_⟩;rcases sB.1 hy with rfl | hy
     ·exact hq
     ·exact h.nz y (qA _ hy)
   ·rename_i h2
    have hi:=ih h.tail;refine⟨Rise.cons.2 ⟨pins_ge zo hc.1,hi.rise⟩,fun y hy=>?_⟩;rcases sB.1 hy with rfl | hy
    ·exact h.nz y pA
    ·exact hi.nz y hy
theorem pins_get (a:Int) (q:Rat) (L:List (Int×Rat)) (b:Int):pget (pins a q L) b=pget ((a,q) :: L) b:=by
 induction L with
 | nil =>
  unfold pins
  split
  ·rename_i h;subst h;rw[zAg,pget_nil,fE];split<;>rfl
  ·rfl
 | cons x L ih =>
  unfold pins
  split
  ·split
   ·rename_i h;subst h;rw[zAg,zAg,zAg];simp only[fE,ite_self]
   ·rfl
  ·split
   ·rename_i h2
    split
    ·rename_i h3
     rw[zAg,zAg];simp only
     split
     ·rw[gA zo,←tF,h3,fE]
     ·rw[fA zo]
    ·rw[zAg,zAg,zAg];simp only
     split
     ·rw[gA zo,tF]
     ·rw[fA zo]
   ·rename_i h2
    rw[zAg,ih,zAg,zAg,zAg];simp only
    split
    ·rw[fA zo,fA zo]
    ·rfl
theorem nrm_nrm (L:List (Int×Rat)):Nrm (nrm L):=by
 induction L with
 | nil=>exact⟨List.Pairwise.nil,fun x hx=>by cases hx⟩
 | cons x L ih=>exact pins_nrm ih
theorem nrm_get (L:List (Int×Rat)) (a:Int):pget (nrm L) a=pget L a:=by
 induction L with
 | nil=>rfl
 | cons x L ih=>unfold nrm;rw[pins_get,zAg,zAg,ih]
theorem nrm_ext {L M:List (Int×Rat)} (h:∀a,pget L a=pget M a):nrm L=nrm M:=(nrm_nrm L).ext (nrm_nrm M) fun a=>by rw[nrm_get,nrm_get,h]
theorem nrm_eq {L M:List (Int×Rat)} (hM:Nrm M) (h:∀a,pget L a=pget M a):nrm L=M:=(nrm_nrm L).ext hM fun a=>by rw[nrm_get,h]
theorem Nrm.self {L:List (Int×Rat)} (h:Nrm L):nrm L=L:=nrm_eq h fun _=>rfl
theorem pins_len (a:Int) (q:Rat) (L:List (Int×Rat)):(pins a q L).length≤L.length+1:=by
 induction L with
 | nil=>unfold pins;split<;>simp
 | cons x L ih =>
  unfold pins
  split
  ·split<;>simp
  ·split
   ·split<;>simp<;>omega
   ·simp only[qC];omega
theorem nrm_len (L:List (Int×Rat)):(nrm L).length≤L.length:=by
 induction L with
 | nil=>exact cA _
 | cons x L ih=>unfold nrm;have:=pins_len x.1 x.2 (nrm L);simp only[qC];omega
def pdot (L M:List (Int×Rat)):Rat:=L.foldr (fun x s=>x.2*pget M x.1+s) 0
theorem pdot_nil (M:List (Int×Rat)):pdot [] M=0:=rfl
theorem pdot_cons (x:Int×Rat) (L M:List (Int×Rat)):pdot (x :: L) M=x.2*pget M x.1+pdot L M:=rfl
theorem pdot_nil_right (L:List (Int×Rat)):pdot L []=0:=by
 induction L with
 | nil=>rfl
 | cons x L ih=>rw[pdot_cons,ih,pget_nil,uE,uC]
theorem pdot_cons_right (L:List (Int×Rat)) (y:Int×Rat) (M:List (Int×Rat)):pdot L (y :: M)=pget L y.1*y.2+pdot L M:=by
 induction L with
 | nil=>rw[pdot_nil,pdot_nil,pget_nil,nE,fE]
 | cons x L ih =>
  rw[pdot_cons,pdot_cons,ih,zAg,zAg];by_cases h:y.1=x.1
  ·rw[gA h,gA h.symm];grind
  ·rw[fA h,fA (fun e=>h e.symm)];grind
theorem pdot_comm (L M:List (Int×Rat)):pdot L M=pdot M L:=by
 induction L with
 | nil=>rw[pdot_nil,pdot_nil_right]
 | cons x L ih=>rw[pdot_cons,pdot_cons_right,ih,Rat.mul_comm]
theorem pdot_append (L L' M:List (Int×Rat)):pdot (L++L') M=pdot L M+pdot L' M:=by
 induction L with
 | nil=>rw[pG,pdot_nil,fE]
 | cons x L ih=>rw[yE,pdot_cons,pdot_cons,ih,tF]
theorem Rise.snoc {L:List (Int×Rat)} {x:Int×Rat} (h:Rise L) (hx:∀y∈L,y.1<x.1):Rise (L++[x]):=by
 unfold Rise at h ⊢
 rw[aF];refine⟨h,List.pairwise_singleton _ _,fun y hy z hz=>?_⟩;rcases sB.1 hz with rfl | hz
 ·exact hx y hy
 ·cases hz
theorem Rise.front {L:List (Int×Rat)} {x:Int×Rat} (h:Rise (L++[x])):Rise L∧∀y∈L,y.1<x.1:=by
 unfold Rise at h
 rw[aF] at h;exact⟨h.1,fun y hy=>h.2.2 y hy x pA⟩
structure Grp (out ts:List (Int×Rat)) (i:Nat):Prop where
 rise:Rise out
 get:∀a,pget out a=pget (ts.take i) a
 last:∀l,out.getLast?=some l→∃t∈ts.take i,l.1=t.1
 len:out.length≤i
theorem Grp.start (ts:List (Int×Rat)):Grp [] ts 0:=⟨List.Pairwise.nil,fun _=>rfl,(fun l h=>(by cases h)),cA _⟩
theorem take_snoc' {α:Type} {L:List α} {i:Nat} {x:α} (h:L[i]?=some x):L.take (i+1)=L.take i++[x]:=by rw[fG,h];rfl
theorem snoc_of_last {α:Type} {L:List α} {l:α} (h:L.getLast?=some l):∃M,L=M++[l]:=by
 have hne:L≠[]:=by intro e;subst e;cases h
 rw[List.getLast?_eq_some_getLast hne] at h;exact⟨L.dropLast,by rw[←Option.some.inj h];exact(List.dropLast_concat_getLast hne).symm⟩
theorem Grp.new {out ts:List (Int×Rat)} {i:Nat} {t:Int×Rat} (h:Grp out ts i) (ht:ts[i]?=some t) (hs:∀x∈ts.take i,x.1≤t.1) (hl:∀l,out.getLast?=some l→l.1≠t.1):Grp (out++[t]) ts (i+1):=by
 refine⟨h.rise.snoc fun y hy=>?_,fun a=>?_,fun l hl'=>?_,by have:=h.len;simp;omega⟩
 ·obtain⟨l,hl'⟩:∃l,out.getLast?=some l:=by
   cases e:out.getLast? with
   | none=>rw[List.getLast?_eq_none_iff] at e;subst e;cases hy
   | some l=>exact⟨l,rfl⟩
  obtain⟨M,rfl⟩:=snoc_of_last hl';have h1:=hl l hl';obtain⟨u,hu,e⟩:=h.last l hl';have h2:=hs u hu;rcases bC.1 hy with hy | hy
  ·have:=(Rise.front h.rise).2 y hy;omega
  ·rcases sB.1 hy with rfl | hy
   ·omega
   ·cases hy
 ·rw[take_snoc' ht,pget_append,pget_append,h.get]
 ·rw[List.getLast?_append] at hl';simp at hl'
  subst hl';exact⟨t,by rw[take_snoc' ht];simp,rfl⟩
theorem Grp.same {out ts:List (Int×Rat)} {i:Nat} {t l:Int×Rat} (h:Grp out ts i) (ht:ts[i]?=some t) (hl:out.getLast?=some l) (e:l.1=t.1):Grp (out.set (out.length-1) (l.1,l.2+t.2)) ts (i+1):=by
 obtain⟨M,rfl⟩:=snoc_of_last hl;have e1:(M++[l]).set ((M++[l]).length-1) (l.1,l.2+t.2)=M++[(l.1,l.2+t.2)]:=by
  rw[vF _ _ (by simp)];simp
 rw[e1];have hf:=Rise.front h.rise;refine⟨hf.1.snoc hf.2,fun a=>?_,fun l' hl'=>?_,by have:=h.len;simp at this ⊢;omega⟩
 ·have:=h.get a;rw[pget_append,pget_one] at this;rw[take_snoc' ht,pget_append,pget_append,pget_one,pget_one,←this,←e];simp only
  split
  ·rw[tF]
  ·rw[uC,uC]
 ·rw[List.getLast?_append] at hl';simp at hl'
  subst hl';exact⟨t,by rw[take_snoc' ht];simp,e⟩
theorem Rise.strike {L:List (Int×Rat)} (h:Rise L):Nrm (L.filter fun x=>decide (x.2≠0)):=⟨List.Pairwise.filter _ h,fun x hx=>by simpa using (List.mem_filter.1 hx).2⟩
theorem Grp.done {out ts:List (Int×Rat)} {i:Nat} (h:Grp out ts i) (hi:ts.length≤i):nrm ts=out.filter fun x=>decide (x.2≠0) :=
 nrm_eq h.rise.strike fun a=>by rw[pget_nz,h.get,eA hi]
structure Piv where
 cost:Int
 col:Int
 row:Int
def Piv.less (a b:Piv):Bool:=if a.cost≠b.cost then decide (a.cost<b.cost) else if a.col≠b.col then decide (a.col<b.col) else decide (a.row<b.row)
def bump (C:List Int) (k:Int):List Int:=C.set k.toNat (C.getD k.toNat 0+1)
def bumps (C:List Int) (P:List (Int×Rat)):List Int:=P.foldl (fun c t=>bump c t.1) C
def cntUp (R:List (List (Int×Rat))) (OB:List Bool):Nat→List Int
 | 0=>List.replicate R.length 0
 | i+1=>if OB.getD i false=true then bumps (cntUp R OB i) (R.getD i []) else cntUp R OB i
def cand (C:List Int) (i:Nat) (P:List (Int×Rat)):List Piv:=P.map fun t=>⟨((P.length:Int)-1)*(C.getD t.1.toNat 0-1),t.1,(i:Int)⟩
def bst (b:Option Piv) (p:Piv):Option Piv:=match b with
 | none=>some p
 | some q=>if p.less q=true then some p else some q
theorem bst_yes {p q:Piv} (h:p.less q=true):bst (some q) p=some p:=gA h
theorem bst_no {p q:Piv} (h:p.less q=false):bst (some q) p=some q:=fA (by rw[h];simp)
def bestUp (R:List (List (Int×Rat))) (OB:List Bool) (C:List Int):Nat→Option Piv
 | 0=>none
 | i+1=>if OB.getD i false=true then(cand C i (R.getD i [])).foldl bst (bestUp R OB C i) else bestUp R OB C i
def nextF (R:List (List (Int×Rat))) (OB:List Bool):Option Piv:=bestUp R OB (cntUp R OB R.length) R.length
def elimRow (P rest:List (Int×Rat)) (col:Int) (pv:Rat):List (Int×Rat):=nrm (nrm (P.filter (fun x=>decide (x.1≠col))++[(col,0)])++rest.map fun x=>(x.1,-(pget P col / pv)*x.2))
def elimUp (R:List (List (Int×Rat))) (OB:List Bool) (col:Int) (pv:Rat) (rest:List (Int×Rat)):Nat→List (List (Int×Rat))×List (Int×Rat)
 | 0=>(R,[])
 | i+1=>if OB.getD i false=true∧pget (R.getD i []) col≠0 then((elimUp R OB col pv rest i).1.set i (elimRow (R.getD i []) rest col pv),(elimUp R OB col pv rest i).2++[((i:Int),pget (R.getD i []) col / pv)]) else elimUp R OB col pv rest i
structure StepF where
 row:Int
 col:Int
 pv:Rat
 rest:List (Int×Rat)
 taken:List (Int×Rat)
def restF (P:List (Int×Rat)) (col:Int):List (Int×Rat):=nrm (P.filter (fun x=>decide (x.1≠col))++[(col,0)])
def elimF (R:List (List (Int×Rat))) (OB:List Bool) (p:Piv):List (List (Int×Rat))×StepF :=
 let P:=R.getD p.row.toNat []
 let e:=elimUp R OB p.col (pget P p.col) (restF P p.col) R.length
 (e.1,⟨p.row,p.col,pget P p.col,restF P p.col,e.2⟩)
structure FacSt where
 R:List (List (Int×Rat))
 OB:List Bool
 ST:List StepF
def facStep (s:FacSt):Option FacSt:=match nextF s.R s.OB with
 | none=>none
 | some p=>some ⟨(elimF s.R (s.OB.set p.row.toNat false) p).1,s.OB.set p.row.toNat false,s.ST++[(elimF s.R (s.OB.set p.row.toNat false) p).2]⟩
def facUp (s:FacSt):Nat→Option FacSt
 | 0=>some s
 | k+1=>match facUp s k with
  | none=>none
  | some t=>facStep t
theorem bump_len (C:List Int) (k:Int):(bump C k).length=C.length:=nB
theorem bumps_len (P:List (Int×Rat)):∀C:List Int,(bumps C P).length=C.length:=by
 induction P with
 | nil=>intro C;rfl
 | cons x P ih=>intro C;show(bumps (bump C x.1) P).length=_;rw[ih,bump_len]
theorem cnt_len (R:List (List (Int×Rat))) (OB:List Bool):∀i,(cntUp R OB i).length=R.length
 | 0=>nC
 | i+1=>by
  unfold cntUp
  split
  ·rw[bumps_len,cnt_len R OB i]
  ·exact cnt_len R OB i
theorem bumps_snoc {P:List (Int×Rat)} {j:Nat} {t:Int×Rat} (h:P[j]?=some t) (C:List Int):bumps C (P.take (j+1))=bump (bumps C (P.take j)) t.1:=by
 unfold bumps
 rw[fG,h,List.foldl_append];rfl
theorem cand_get {C:List Int} {i:Nat} {P:List (Int×Rat)} {j:Nat} {t:Int×Rat} (h:P[j]?=some t):(cand C i P)[j]?=some ⟨((P.length:Int)-1)*(C.getD t.1.toNat 0-1),t.1,(i:Int)⟩:=by
 unfold cand
 rw[rA,h];rfl
theorem bst_snoc {L:List Piv} {j:Nat} {p:Piv} (h:L[j]?=some p) (b:Option Piv):(L.take (j+1)).foldl bst b=bst ((L.take j).foldl bst b) p:=by
 rw[fG,h,List.foldl_append];rfl
def CntOk (C:List Int) (K:Int):Prop:=∀x∈C,0≤x∧x≤K
theorem CntOk.getD {C:List Int} {K:Int} (h:CntOk C K) (hK:0≤K) (i:Nat):0≤C.getD i 0∧C.getD i 0≤K:=by
 rw[bA];cases e:C[i]? with
 | none=>exact⟨Int.le_refl _,hK⟩
 | some x=>exact h x (dA e)
theorem CntOk.bump {C:List Int} {K:Int} (h:CntOk C K) (hK:0≤K) (k:Int):CntOk (bump C k) (K+1):=fun x hx=>by
 rcases sC hx with hx | rfl
 ·have:=h x hx;omega
 ·have:=h.getD hK k.toNat;omega
theorem CntOk.start (n:Nat):CntOk (List.replicate n 0) 0:=fun x hx=>by rw[zD hx];omega
theorem CntOk.mono {C:List Int} {K K':Int} (h:CntOk C K) (hK:K≤K'):CntOk C K':=fun x hx=>by have:=h x hx;omega
theorem elim_len (R:List (List (Int×Rat))) (OB:List Bool) (col:Int) (pv:Rat) (rest:List (Int×Rat)):∀i,(elimUp R OB col pv rest i).1.length=R.length
 | 0=>rfl
 | i+1=>by
  unfold elimUp
  split
  ·rw[nB,elim_len R OB col pv rest i]
  ·exact elim_len R OB col pv rest i
open Go.Sort
section
variable {α:Type} {lt:α→α→Bool}
end
variable {α:Type} [Inhabited α]
def Moved (f:Nat→Nat) (d d':Array α):Prop:=∀x,d'[x]! = d[f x]!
def upIdx (a k x:Nat):Nat:=if a≤x∧x<k then x+1 else if x=k then a else x
def downIdx (m k x:Nat):Nat:=if k<x∧x≤m then x-1 else if x=k then m else x
theorem Moved.congr {f g:Nat→Nat} {d d':Array α} (h:Moved f d d') (e:∀x,f x=g x):Moved g d d':=fun x=>by rw[h x,e x]
theorem swp_at (d:Array α) (i j x:Nat) (hi:i<d.size) (hj:j<d.size):(swp d i j)[x]! = d[if x=i then j else if x=j then i else x]!:=by
 by_cases h1:x=i
 ·subst h1;rw[gA rfl];by_cases h2:x=j
  ·subst h2;exact swp_right d x x hj
  ·exact swp_left d x j hi h2
 ·rw[fA h1];by_cases h2:x=j
  ·subst h2;rw[gA rfl];exact swp_right d i x hj
  ·rw[fA h2];exact swp_other d i j x h1 h2
theorem Moved.swp {f:Nat→Nat} {d d':Array α} (h:Moved f d d') {i j:Nat} (hi:i<d'.size) (hj:j<d'.size):Moved (fun x=>f (if x=i then j else if x=j then i else x)) d (swp d' i j):=fun x=>by
 rw[swp_at d' i j x hi hj,h]
theorem Moved.trans {f g:Nat→Nat} {a b c:Array α} (h:Moved f a b) (k:Moved g b c):Moved (fun x=>f (g x)) a c:=fun x=>by rw[k x,h]
theorem Moved.up {d d':Array α} {a k:Nat} (h:Moved (upIdx a k) d d') (hk:a≤k) (hb:k+1<d'.size):Moved (upIdx a (k+1)) d (Go.Sort.swp d' k (k+1)) :=
 (h.swp (i:=k) (j:=k+1) zo zo).congr fun x=>by
  unfold upIdx
  by_cases h1:x=k
  ·subst h1;simp only[if_true];(repeat' split)<;>omega
  ·by_cases h2:x=k+1
   ·subst h2;rw[fA h1,gA rfl];(repeat' split)<;>omega
   ·rw[fA h1,fA h2];(repeat' split)<;>omega
theorem Moved.down {d d':Array α} {m k:Nat} (h:Moved (downIdx m (k+1)) d d') (hk:k+1≤m) (hb:k+1<d'.size):Moved (downIdx m k) d (Go.Sort.swp d' (k+1) k) :=
 (h.swp (i:=k+1) (j:=k) zo zo).congr fun x=>by
  unfold downIdx
  by_cases h1:x=k+1
  ·subst h1;simp only[if_true];(repeat' split)<;>omega
  ·by_cases h2:x=k
   ·subst h2;rw[fA h1,gA rfl];(repeat' split)<;>omega
   ·rw[fA h1,fA h2];(repeat' split)<;>omega
section
variable {lt:α→α→Bool}
theorem SortedIn.le (hO:SWO lt) {a b:Nat} {d:Array α} (h:SortedIn lt a b d) {i j:Nat} (h1:a≤i) (h2:i≤j) (h3:j<b):lt d[j]! d[i]! = false:=by
 rcases kB i j with h4 | h4
 ·exact h i j h1 h4 h3
 ·obtain rfl:i=j:=zo;exact hO.irrefl _
end
def ev (P:List (Int×Rat)) (x:Int→Rat):Rat:=P.foldr (fun t s=>t.2*x t.1+s) 0
theorem ev_nil (x:Int→Rat):ev [] x=0:=rfl
theorem ev_cons (t:Int×Rat) (P:List (Int×Rat)) (x:Int→Rat):ev (t :: P) x=t.2*x t.1+ev P x:=rfl
theorem ev_append (P Q:List (Int×Rat)) (x:Int→Rat):ev (P++Q) x=ev P x+ev Q x:=by
 induction P with
 | nil=>rw[pG,ev_nil,fE]
 | cons t P ih=>rw[yE,ev_cons,ev_cons,ih,tF]
theorem ev_scale (s:Rat) (P:List (Int×Rat)) (x:Int→Rat):ev (P.map fun t=>(t.1,s*t.2)) x=s*ev P x:=by
 induction P with
 | nil=>rw[List.map_nil,ev_nil,uE]
 | cons t P ih=>rw[List.map_cons,ev_cons,ev_cons,ih,Rat.mul_add,Rat.mul_assoc]
theorem ev_pins (a:Int) (q:Rat) (P:List (Int×Rat)) (x:Int→Rat):ev (pins a q P) x=q*x a+ev P x:=by
 induction P with
 | nil =>
  unfold pins
  split
  ·rename_i h;rw[h,ev_nil,nE,uC]
  ·rw[ev_cons]
 | cons t P ih =>
  unfold pins
  split
  ·split
   ·rename_i h;rw[h,nE,fE]
   ·rw[ev_cons]
  ·split
   ·rename_i h0
    split
    ·rename_i h
     rw[ev_cons,←h0];have h1:(q+t.2)*x a=0:=by rw[h,nE]
     rw[Rat.add_mul] at h1;rw[←tF,h1,fE]
    ·rw[ev_cons,ev_cons,←h0,Rat.add_mul,tF]
   ·rw[ev_cons,ev_cons,ih];grind
theorem ev_nrm (P:List (Int×Rat)) (x:Int→Rat):ev (nrm P) x=ev P x:=by
 induction P with
 | nil=>rfl
 | cons t P ih=>show ev (pins t.1 t.2 (nrm P)) x=_;rw[ev_pins,ih,ev_cons]
theorem ev_congr {P:List (Int×Rat)} {x y:Int→Rat} (h:∀t∈P,x t.1=y t.1):ev P x=ev P y:=by
 induction P with
 | nil=>rfl
 | cons t P ih=>rw[ev_cons,ev_cons,h t pA,ih fun u hu=>h u (qA _ hu)]
def unit (a:Int):Int→Rat:=fun b=>if b=a then 1 else 0
theorem ev_unit (P:List (Int×Rat)) (a:Int):ev P (unit a)=pget P a:=by
 induction P with
 | nil=>rfl
 | cons t P ih =>
  rw[ev_cons,zAg,ih];unfold unit
  split
  ·rw[Rat.mul_one]
  ·rw[uE,fE]
theorem ev_drop (P:List (Int×Rat)) (k:Int) (x:Int→Rat):ev (P.filter fun t=>decide (t.1≠k)) x=ev P x-pget P k*x k:=by
 induction P with
 | nil=>rw[List.filter_nil,ev_nil,pget_nil,nE];grind
 | cons t P ih =>
  rw[kG];by_cases h:t.1=k
  ·rw[fA (by simp[h]),ih,zAg,gA h,ev_cons,h];grind
  ·rw[gA (by simp[h]),zAg,fA h,ev_cons,ev_cons,ih];grind
theorem rest_ev (P:List (Int×Rat)) (col:Int) (x:Int→Rat):ev (restF P col) x=ev P x-pget P col*x col:=by
 unfold restF
 rw[ev_nrm,ev_append,ev_drop,ev_cons,ev_nil,nE,uC,uC]
theorem rest_get (P:List (Int×Rat)) (col a:Int):pget (restF P col) a=if a=col then 0 else pget P a:=by
 unfold restF
 rw[nrm_get,pget_append,pget_drop,pget_one];split<;>simp[Rat.add_zero]
theorem rest_nrm (P:List (Int×Rat)) (col:Int):Nrm (restF P col):=nrm_nrm _
theorem elim_ev {P Q:List (Int×Rat)} {col:Int} (h:pget Q col≠0) (x:Int→Rat):ev (elimRow P (restF Q col) col (pget Q col)) x=ev P x-pget P col / pget Q col*ev Q x:=by
 unfold elimRow
 rw[ev_nrm,ev_append,ev_nrm,ev_append,ev_drop,ev_scale,rest_ev,ev_cons,ev_nil];have h1:pget P col / pget Q col*pget Q col=pget P col:=sD h;grind
theorem elim_nrm (P rest:List (Int×Rat)) (col:Int) (pv:Rat):Nrm (elimRow P rest col pv):=nrm_nrm _
theorem getD_set {α:Type} (L:List α) (i j:Nat) (x d:α):(L.set i x).getD j d=if i=j∧j<L.length then x else L.getD j d:=by
 rw[bA,bA,List.getElem?_set];by_cases h:i=j
 ·subst h;by_cases h2:i<L.length
  ·simp[h2]
  ·simp[h2]
 ·simp[h]
theorem pget_lt {R:List (List (Int×Rat))} {j:Nat} {c:Int} (h:pget (R.getD j []) c≠0):j<R.length:=by
 rcases kB j R.length with h1 | h1
 ·exact h1
 ·rw[bA,bB h1] at h;exact absurd rfl h
theorem elim_row (R:List (List (Int×Rat))) (OB:List Bool) (col:Int) (pv:Rat) (rest:List (Int×Rat)) (j:Nat):∀i,(elimUp R OB col pv rest i).1.getD j []=if j<i∧OB.getD j false=true∧pget (R.getD j []) col≠0 then elimRow (R.getD j []) rest col pv else R.getD j []
 | 0=>by rw[fA zo];rfl
 | i+1=>by
  unfold elimUp
  split
  ·rename_i h
   rw[getD_set,elim_row R OB col pv rest j i,elim_len];by_cases e:i=j
   ·subst e;rw[gA ⟨rfl,pget_lt h.2⟩,gA ⟨zo,h⟩]
   ·rw[fA (fun c=>e c.1)];by_cases h2:j<i
    ·simp[h2,show j<i+1 by omega]
    ·simp[h2,show ¬j<i+1 by omega]
  ·rename_i h
   rw[elim_row R OB col pv rest j i];by_cases e:i=j
   ·subst e;rw[fA zo,fA (fun c=>h c.2)]
   ·by_cases h2:j<i
    ·simp[h2,show j<i+1 by omega]
    ·simp[h2,show ¬j<i+1 by omega]
theorem taken_nrm (R:List (List (Int×Rat))) (OB:List Bool) (col:Int) {pv:Rat} (hpv:pv≠0) (rest:List (Int×Rat)):∀i,Nrm (elimUp R OB col pv rest i).2∧∀t∈(elimUp R OB col pv rest i).2,0≤t.1∧t.1<(i:Int)∧t.1<(R.length:Int)
 | 0=>⟨⟨List.Pairwise.nil,fun x hx=>(by cases hx)⟩,fun x hx=>(by cases hx)⟩
 | i+1=>by
  have⟨h1,h2⟩:=taken_nrm R OB col hpv rest i;unfold elimUp
  split
  ·rename_i h
   have hl:=pget_lt h.2;refine⟨⟨h1.rise.snoc fun y hy=>(h2 y hy).2.1,fun x hx=>?_⟩,fun x hx=>?_⟩
   ·rcases bC.1 hx with hx | hx
    ·exact h1.nz x hx
    ·rcases sB.1 hx with rfl | hx
     ·intro h0;have h3:pget (R.getD i []) col / pv*pv=pget (R.getD i []) col:=sD hpv;simp only at h0
      rw[h0,nE] at h3;exact h.2 h3.symm
     ·cases hx
   ·rcases bC.1 hx with hx | hx
    ·have:=h2 x hx;omega
    ·rcases sB.1 hx with rfl | hx
     ·show 0≤(i:Int)∧(i:Int)<((i+1:Nat):Int)∧(i:Int)<(R.length:Int)
      omega
     ·cases hx
  ·exact⟨h1,fun x hx=>by have:=h2 x hx;omega⟩
theorem taken_get (R:List (List (Int×Rat))) (OB:List Bool) (col:Int) (pv:Rat) (rest:List (Int×Rat)) (j:Nat):∀i,pget (elimUp R OB col pv rest i).2 (j:Int)=if j<i∧OB.getD j false=true∧pget (R.getD j []) col≠0 then pget (R.getD j []) col / pv else 0
 | 0=>by rw[fA zo];rfl
 | i+1=>by
  unfold elimUp
  split
  ·rename_i h
   rw[pget_append,taken_get R OB col pv rest j i,pget_one];by_cases e:i=j
   ·subst e;rw[fA zo,gA rfl,gA ⟨zo,h⟩,fE]
   ·rw[fA (show ¬(i:Int)=(j:Int) by omega),uC];by_cases h2:j<i
    ·simp[h2,show j<i+1 by omega]
    ·simp[h2,show ¬j<i+1 by omega]
  ·rename_i h
   rw[taken_get R OB col pv rest j i];by_cases e:i=j
   ·subst e;rw[fA zo,fA (fun c=>h c.2)]
   ·by_cases h2:j<i
    ·simp[h2,show j<i+1 by omega]
    ·simp[h2,show ¬j<i+1 by omega]
theorem elim_all {R:List (List (Int×Rat))} {OB:List Bool} {col:Int} {Q:List (Int×Rat)} (h:pget Q col≠0) (j:Nat) (x:Int→Rat) :
  ev ((elimUp R OB col (pget Q col) (restF Q col) R.length).1.getD j []) x=ev (R.getD j []) x-pget (elimUp R OB col (pget Q col) (restF Q col) R.length).2 (j:Int)*ev Q x:=by
 rw[elim_row,taken_get];split
 ·exact elim_ev h x
 ·rw[nE];grind
theorem elim_all_get {R:List (List (Int×Rat))} {OB:List Bool} {col:Int} {Q:List (Int×Rat)} (h:pget Q col≠0) (j:Nat) (a:Int) :
  pget ((elimUp R OB col (pget Q col) (restF Q col) R.length).1.getD j []) a=pget (R.getD j []) a-pget (elimUp R OB col (pget Q col) (restF Q col) R.length).2 (j:Int)*pget Q a:=by
 rw[←ev_unit,elim_all h,ev_unit,ev_unit]
theorem pget_mem {P:List (Int×Rat)} {a:Int} (h:pget P a≠0):∃t∈P,t.1=a:=by
 induction P with
 | nil=>exact absurd rfl h
 | cons t P ih =>
  by_cases e:t.1=a
  ·exact⟨t,pA,e⟩
  ·rw[zAg,fA e] at h;obtain⟨u,hu,h2⟩:=ih h;exact⟨u,qA _ hu,h2⟩
theorem Nrm.get_ne {P:List (Int×Rat)} (h:Nrm P) {t:Int×Rat} (ht:t∈P):pget P t.1≠0:=by rw[h.rise.get ht];exact h.nz t ht
theorem Nrm.place {P:List (Int×Rat)} (h:Nrm P) {p:Int→Prop} (hp:∀a,pget P a≠0→p a):∀t∈P,p t.1:=fun _ ht=>hp _ (h.get_ne ht)
theorem elim_in {R:List (List (Int×Rat))} {OB:List Bool} {col:Int} {Q:List (Int×Rat)} {n:Nat} (h:pget Q col≠0) (hR:∀k,Nrm (R.getD k [])∧∀t∈R.getD k [],0≤t.1∧t.1<(n:Int)) (hQ:∀t∈Q,0≤t.1∧t.1<(n:Int)) (k:Nat) :
  Nrm ((elimUp R OB col (pget Q col) (restF Q col) R.length).1.getD k [])∧∀t∈(elimUp R OB col (pget Q col) (restF Q col) R.length).1.getD k [],0≤t.1∧t.1<(n:Int):=by
 have h1:Nrm ((elimUp R OB col (pget Q col) (restF Q col) R.length).1.getD k []):=by
  rw[elim_row];split
  ·exact elim_nrm _ _ _ _
  ·exact(hR k).1
 refine⟨h1,h1.place (p:=fun a=>0≤a∧a<(n:Int)) fun a ha=>?_⟩;rw[elim_all_get h] at ha;by_cases h2:pget (R.getD k []) a=0
 ·by_cases h3:pget Q a=0
  ·rw[h2,h3,uE] at ha;exact absurd (by grind) ha
  ·obtain⟨t,ht,rfl⟩:=pget_mem h3;exact hQ t ht
 ·obtain⟨t,ht,rfl⟩:=pget_mem h2;exact(hR k).2 t ht
theorem bst_mem {L:List Piv}:∀{b:Option Piv} {p:Piv},L.foldl bst b=some p→b=some p∨p∈L:=by
 induction L with
 | nil=>intro b p h;exact .inl h
 | cons q L ih =>
  intro b p h;rcases ih h with h1 | h1
  ·cases b with
   | none=>exact .inr (sB.2 (.inl (Option.some.inj h1).symm))
   | some r =>
    unfold bst at h1
    simp only at h1
    split at h1
    ·exact .inr (sB.2 (.inl (Option.some.inj h1).symm))
    ·exact .inl h1
  ·exact .inr (qA _ h1)
theorem best_mem {R:List (List (Int×Rat))} {OB:List Bool} {C:List Int} {p:Piv}:∀{i:Nat},bestUp R OB C i=some p→∃k,k<i∧OB.getD k false=true∧p∈cand C k (R.getD k [])
 | 0,h=>by cases h
 | i+1,h=>by
  unfold bestUp at h
  split at h
  ·rename_i ho
   rcases bst_mem h with h1 | h1
   ·obtain⟨k,h2,h3⟩:=best_mem h1;exact⟨k,zo,h3⟩
   ·exact⟨i,zo,ho,h1⟩
  ·obtain⟨k,h2,h3⟩:=best_mem h;exact⟨k,zo,h3⟩
theorem next_mem {R:List (List (Int×Rat))} {OB:List Bool} {p:Piv} (h:nextF R OB=some p):∃k,k<R.length∧p.row=(k:Int)∧OB.getD k false=true∧∃t∈R.getD k [],t.1=p.col:=by
 obtain⟨k,h1,h2,h3⟩:=best_mem h;obtain⟨t,ht,rfl⟩:=tC.1 h3;exact⟨k,h1,rfl,h2,t,ht,rfl⟩
structure GoodSt (n:Nat) (s:StepF):Prop where
 row:0≤s.row∧s.row<(n:Int)
 col:0≤s.col∧s.col<(n:Int)
 pv:s.pv≠0
 rest:Nrm s.rest
 restIn:∀t∈s.rest,0≤t.1∧t.1<(n:Int)
 restCol:pget s.rest s.col=0
 taken:Nrm s.taken
 takenIn:∀t∈s.taken,0≤t.1∧t.1<(n:Int)
 takenRow:pget s.taken s.row=0
structure ApartSt (a b:StepF):Prop where
 row:a.row≠b.row
 col:a.col≠b.col
 rest:pget b.rest a.col=0
 taken:pget b.taken a.row=0
structure FacInv (n:Nat) (s:FacSt):Prop where
 hR:s.R.length=n
 hO:s.OB.length=n
 row:∀k,Nrm (s.R.getD k [])∧∀t∈s.R.getD k [],0≤t.1∧t.1<(n:Int)
 free:∀k,s.OB.getD k false=true→∀st∈s.ST,pget (s.R.getD k []) st.col=0
 good:∀st∈s.ST,GoodSt n st
 apart:s.ST.Pairwise ApartSt
 shut:∀st∈s.ST,s.OB.getD st.row.toNat false=false
 shut2:∀k,k<n→s.OB.getD k false=false→∃st∈s.ST,st.row=(k:Int)
 is:∀st∈s.ST,∀x,ev (s.R.getD st.row.toNat []) x=st.pv*x st.col+ev st.rest x
theorem FacInv.start {n:Nat} {R:List (List (Int×Rat))} (hR:R.length=n) (hr:∀k,Nrm (R.getD k [])∧∀t∈R.getD k [],0≤t.1∧t.1<(n:Int)):FacInv n ⟨R,List.replicate n true,[]⟩ where
 hR:=hR
 hO:=nC
 row:=hr
 free:=fun _ _ _ h=>by cases h
 good:=fun _ h=>by cases h
 apart:=List.Pairwise.nil
 shut:=fun _ h=>by cases h
 shut2:=fun k hk h=>by
  simp only[bA,cD,gA hk] at h
  cases h
 is:=fun _ h=>by cases h
theorem FacInv.step {n:Nat} {s t:FacSt} (h:FacInv n s) (ht:facStep s=some t) :
  FacInv n t∧∃st,t.ST=s.ST++[st]∧GoodSt n st∧(∀j:Nat,∀x,ev (t.R.getD j []) x=ev (s.R.getD j []) x-pget st.taken (j:Int)*ev (s.R.getD st.row.toNat []) x):=by
 unfold facStep at ht
 cases hp:nextF s.R s.OB with
 | none=>rw[hp] at ht;cases ht
 | some p =>
  rw[hp] at ht;simp only[Option.some.injEq] at ht
  obtain⟨k,hk,hrow,hopen,t0,ht0,hcol⟩:=next_mem hp;have hkn:k<n:=by rw[←h.hR];exact hk
  have hpn:p.row.toNat=k:=zo;obtain⟨OB',hOB'⟩:∃OB',OB'=s.OB.set k false:=⟨_,rfl⟩;obtain⟨Q,hQ⟩:∃Q,Q=s.R.getD k []:=⟨_,rfl⟩;have hpv:pget Q p.col≠0:=by rw[hQ,←hcol];exact(h.row k).1.get_ne ht0
  have hob:∀j,OB'.getD j false=true→s.OB.getD j false=true∧j≠k:=fun j hj=>by
   rw[hOB',getD_set] at hj;split at hj
   ·cases hj
   ·rename_i h9
    refine⟨hj,fun e=>?_⟩;subst e;exact h9 ⟨rfl,by rw[h.hO];exact hkn⟩
  have hobk:OB'.getD k false=false:=by
   rw[hOB',getD_set,gA ⟨rfl,by rw[h.hO];exact hkn⟩]
  have hsf:∀j,s.OB.getD j false=false→OB'.getD j false=false:=fun j hj=>by
   rw[hOB',getD_set];split
   ·rfl
   ·exact hj
  obtain⟨E,hE⟩:∃E,E=elimUp s.R OB' p.col (pget Q p.col) (restF Q p.col) s.R.length:=⟨_,rfl⟩;have et:t=⟨E.1,OB',s.ST++[⟨p.row,p.col,pget Q p.col,restF Q p.col,E.2⟩]⟩:=by
   rw[←ht,hE,hOB',hQ,hpn];unfold elimF
   simp only[hpn]
  clear ht;have hin:∀t∈Q,0≤t.1∧t.1<(n:Int):=by rw[hQ];exact(h.row k).2
  have hT:=taken_nrm s.R OB' p.col hpv (restF Q p.col) s.R.length;rw[←hE] at hT;have hTg:∀j:Nat,OB'.getD j false=false→pget E.2 (j:Int)=0:=fun j hj=>by
   rw[hE,taken_get,fA (fun c=>by rw[hj] at c;exact absurd c.2.1 (by simp))]
  have hEr:∀j:Nat,OB'.getD j false=false→E.1.getD j []=s.R.getD j []:=fun j hj=>by
   rw[hE,elim_row,fA (fun c=>by rw[hj] at c;exact absurd c.2.1 (by simp))]
  have hcin:0≤p.col∧p.col<(n:Int):=by rw[←hcol];exact hin t0 (by rw[hQ];exact ht0)
  have hgood:GoodSt n ⟨p.row,p.col,pget Q p.col,restF Q p.col,E.2⟩ :=
   ⟨by show 0≤p.row∧p.row<(n:Int);omega,hcin,hpv,rest_nrm _ _,(rest_nrm Q p.col).place (p:=fun a=>0≤a∧a<(n:Int)) fun a ha=>by
     rw[rest_get] at ha;split at ha
     ·exact absurd rfl ha
     ·obtain⟨u,hu,rfl⟩:=pget_mem ha;exact hin u hu,by show pget (restF Q p.col) p.col=0;rw[rest_get,gA rfl],hT.1,fun u hu=>by have:=hT.2 u hu;rw[h.hR] at this;omega,by
     show pget E.2 p.row=0
     rw[hrow];exact hTg k hobk⟩
  have hall:∀j:Nat,∀x,ev (E.1.getD j []) x=ev (s.R.getD j []) x-pget E.2 (j:Int)*ev Q x:=fun j x=>by rw[hE];exact elim_all hpv j x
  have hallg:∀(j:Nat) (a:Int),pget (E.1.getD j []) a=pget (s.R.getD j []) a-pget E.2 (j:Int)*pget Q a:=fun j a=>by rw[hE];exact elim_all_get hpv j a
  subst et;refine⟨⟨?_,?_,?_,?_,?_,?_,?_,?_,?_⟩,_,rfl,hgood,?_⟩
  ·show E.1.length=n
   rw[hE,elim_len,h.hR]
  ·show OB'.length=n
   rw[hOB',nB,h.hO]
  ·intro j;show Nrm (E.1.getD j [])∧_
   rw[hE];exact elim_in hpv h.row hin j
  ·intro j hj st hst;have⟨hj1,hj2⟩:=hob j hj;show pget (E.1.getD j []) st.col=0
   rcases bC.1 hst with hst | hst
   ·rw[hallg,h.free j hj1 st hst,hQ,h.free k hopen st hst,uE];grind
   ·obtain rfl:=cC.1 hst;show pget (E.1.getD j []) p.col=0
    rw[hallg,hE,taken_get];by_cases hz:pget (s.R.getD j []) p.col=0
    ·rw[fA (fun c=>c.2.2 hz),hz,nE];grind
    ·rw[gA ⟨pget_lt hz,hj,hz⟩,sD hpv];grind
  ·intro st hst;rcases bC.1 hst with hst | hst
   ·exact h.good st hst
   ·obtain rfl:=cC.1 hst;exact hgood
  ·show(s.ST++[_]).Pairwise ApartSt
   refine aF.2 ⟨h.apart,List.pairwise_singleton _ _,fun a ha b hb=>?_⟩;obtain rfl:=cC.1 hb;have hga:=h.good a ha;have hsa:=h.shut a ha;have hfk:=h.free k hopen a ha;refine⟨?_,?_,?_,?_⟩
   ·intro e;have e':a.row=p.row:=e;rw[e',hpn,hopen] at hsa;cases hsa
   ·intro e;have e':a.col=p.col:=e;rw[e',←hQ] at hfk;exact hpv hfk
   ·show pget (restF Q p.col) a.col=0
    rw[rest_get];split
    ·rfl
    ·rw[hQ];exact hfk
   ·show pget E.2 a.row=0
    have e2:a.row=((a.row.toNat:Nat):Int):=zi hga.row;rw[e2];exact hTg _ (hsf _ hsa)
  ·intro st hst;show OB'.getD st.row.toNat false=false
   rcases bC.1 hst with hst | hst
   ·exact hsf _ (h.shut st hst)
   ·obtain rfl:=cC.1 hst;show OB'.getD p.row.toNat false=false
    rw[hpn];exact hobk
  ·intro j hj hf;have hf:OB'.getD j false=false:=hf;by_cases e:j=k
   ·subst e;exact⟨_,List.mem_append_right _ (cC.2 rfl),hrow⟩
   ·rw[hOB',getD_set,fA (fun c=>e c.1.symm)] at hf;obtain⟨st,h1,h2⟩:=h.shut2 j hj hf;exact⟨st,List.mem_append_left _ h1,h2⟩
  ·intro st hst x;show ev (E.1.getD st.row.toNat []) x=_
   rcases bC.1 hst with hst | hst
   ·rw[hEr _ (hsf _ (h.shut st hst))];exact h.is st hst x
   ·obtain rfl:=cC.1 hst;show ev (E.1.getD p.row.toNat []) x=pget Q p.col*x p.col+ev (restF Q p.col) x
    rw[hpn,hEr _ hobk,←hQ,rest_ev];grind
  ·intro j x;show ev (E.1.getD j []) x=ev (s.R.getD j []) x-pget E.2 (j:Int)*ev (s.R.getD p.row.toNat []) x
   rw[hpn,←hQ];exact hall j x
def upd (x:Int→Rat) (a:Int) (v:Rat):Int→Rat:=fun b=>if b=a then v else x b
theorem upd_at (x:Int→Rat) (a:Int) (v:Rat):upd x a v a=v:=gA rfl
theorem upd_off {x:Int→Rat} {a b:Int} {v:Rat} (h:b≠a):upd x a v b=x b:=fA h
theorem upd_ev {P:List (Int×Rat)} (hP:Nrm P) {a:Int} (h:pget P a=0) (x:Int→Rat) (v:Rat):ev P (upd x a v)=ev P x :=
 ev_congr fun t ht=>upd_off fun e=>by have:=hP.get_ne ht;rw[e] at this;exact this h
def spr (f:Int→Rat) (P:List (Int×Rat)) (q:Rat):Int→Rat:=fun a=>f a-pget P a*q
def fwd (L:List StepF) (f:Int→Rat):Int→Rat:=L.foldl (fun f st=>spr f st.taken (f st.row)) f
theorem fwd_snoc (L:List StepF) (st:StepF) (f:Int→Rat):fwd (L++[st]) f=spr (fwd L f) st.taken (fwd L f st.row):=by
 unfold fwd
 rw[List.foldl_append];rfl
def back (g:Int→Rat):List StepF→Int→Rat
 | []=>fun _=>0
 | st :: L=>upd (back g L) st.col ((g st.row-ev st.rest (back g L)) / st.pv)
theorem back_sol {n:Nat} (g:Int→Rat):∀{L:List StepF},(∀st∈L,GoodSt n st)→L.Pairwise ApartSt→∀st∈L,st.pv*back g L st.col+ev st.rest (back g L)=g st.row
 | [],_,_=>fun _ h=>by cases h
 | s :: L,hg,ha=>fun st hst=>by
  have h0:=hg s pA;have⟨h1,h2⟩:=List.pairwise_cons.1 ha;unfold back
  rcases sB.1 hst with rfl | hst
  ·rw[upd_at,upd_ev h0.rest h0.restCol,Rat.mul_comm,sD h0.pv];grind
  ·have h3:=h1 st hst;have h4:=hg st (qA _ hst);rw[upd_off (fun e=>h3.col e.symm),upd_ev h4.rest h3.rest];exact back_sol g (fun u hu=>hg u (qA _ hu)) h2 st hst
theorem uniq_st {n:Nat} {ST:List StepF} (hg:∀st∈ST,GoodSt n st) (ha:ST.Pairwise ApartSt) (hc:∀a:Int,0≤a→a<(n:Int)→∃st∈ST,st.col=a) {x y:Int→Rat}
  (h:∀st∈ST,st.pv*x st.col+ev st.rest x=st.pv*y st.col+ev st.rest y):∀(L pre:List StepF),ST=pre++L→∀st∈L,x st.col=y st.col
 | [],_,_=>fun _ hm=>by cases hm
 | s :: L,pre,e=>fun st hst=>by
  have ih:=uniq_st hg ha hc h L (pre++[s]) (by rw[e,dF];rfl);have hs:s∈ST:=by rw[e];exact List.mem_append_right _ pA
  have h0:=hg s hs;rcases sB.1 hst with rfl | hst
  ·have hr:ev st.rest x=ev st.rest y:=ev_congr fun t ht=>by
    obtain⟨u,hu,hut⟩:=hc t.1 (h0.restIn t ht).1 (h0.restIn t ht).2;have hne:=h0.rest.get_ne ht;rw[e] at hu ha;rcases bC.1 hu with hu | hu
    ·have:=((aF.1 ha).2.2 u hu st pA).rest;rw[hut] at this;exact absurd this hne
    ·rcases sB.1 hu with rfl | hu
     ·have:=h0.restCol;rw[hut] at this;exact absurd this hne
     ·rw[←hut];exact ih u hu
   have h1:=h st hs;rw[hr] at h1;have h2:st.pv*x st.col=st.pv*y st.col:=by grind
   have h3:=congrArg (fun z=>z / st.pv) h2;simp only[Rat.mul_comm st.pv,Rat.mul_div_cancel h0.pv] at h3
   exact h3
  ·exact ih st hst
theorem pig:∀(n:Nat) {l:List Nat},l.Nodup→(∀x∈l,x<n)→l.length≤n
 | 0,l,_,h=>by
  cases l with
  | nil=>exact cA _
  | cons x l=>have:=h x pA;omega
 | n+1,l,hn,h=>by
  by_cases hm:n∈l
  ·have h1:=pig n (hn.erase n) (fun x hx=>by
    have h2:=h x (List.mem_of_mem_erase hx);have h3:x≠n:=fun e=>by subst e;exact(List.Nodup.not_mem_erase hn) hx
    omega)
   rw[List.length_erase_of_mem hm] at h1;omega
  ·have:=pig n hn (fun x hx=>by
    have h2:=h x hx;have h3:x≠n:=fun e=>by subst e;exact hm hx
    omega)
   omega
theorem pig_all {n:Nat} {l:List Nat} (hn:l.Nodup) (h:∀x∈l,x<n) (hl:l.length=n) (j:Nat) (hj:j<n):j∈l:=by
 rcases Classical.em (j∈l) with h1 | h1
 ·exact h1
 ·have:=pig n (l:=j :: l) (List.nodup_cons.2 ⟨h1,hn⟩) (fun x hx=>by
   rcases sB.1 hx with rfl | hx
   ·exact hj
   ·exact h x hx)
  rw[qC,hl] at this;omega
def rowsN (L:List StepF):List Nat:=L.map fun st=>st.row.toNat
def colsN (L:List StepF):List Nat:=L.map fun st=>st.col.toNat
theorem FacInv.rows {n:Nat} {s:FacSt} (h:FacInv n s):(rowsN s.ST).Nodup∧∀x∈rowsN s.ST,x<n:=by
 refine⟨?_,fun x hx=>?_⟩
 ·unfold rowsN List.Nodup
  rw[gG];refine h.apart.imp_of_mem fun {a b} ha hb hab e=>hab.row ?_;have h1:=(h.good a ha).row;have h2:=(h.good b hb).row;omega
 ·obtain⟨a,ha,rfl⟩:=tC.1 hx;have h1:=(h.good a ha).row;omega
theorem FacInv.cols {n:Nat} {s:FacSt} (h:FacInv n s):(colsN s.ST).Nodup∧∀x∈colsN s.ST,x<n:=by
 refine⟨?_,fun x hx=>?_⟩
 ·unfold colsN List.Nodup
  rw[gG];refine h.apart.imp_of_mem fun {a b} ha hb hab e=>hab.col ?_;have h1:=(h.good a ha).col;have h2:=(h.good b hb).col;omega
 ·obtain⟨a,ha,rfl⟩:=tC.1 hx;have h1:=(h.good a ha).col;omega
theorem FacInv.allRows {n:Nat} {s:FacSt} (h:FacInv n s) (hl:s.ST.length=n) (j:Nat) (hj:j<n):∃st∈s.ST,st.row=(j:Int):=by
 have:=pig_all h.rows.1 h.rows.2 (by unfold rowsN;rw[cB,hl]) j hj;obtain⟨a,ha,e⟩:=tC.1 this;exact⟨a,ha,by have:=(h.good a ha).row;omega⟩
theorem FacInv.allCols {n:Nat} {s:FacSt} (h:FacInv n s) (hl:s.ST.length=n) (a:Int) (ha:0≤a) (ha2:a<(n:Int)):∃st∈s.ST,st.col=a:=by
 have:=pig_all h.cols.1 h.cols.2 (by unfold colsN;rw[cB,hl]) a.toNat zo;obtain⟨b,hb,e⟩:=tC.1 this;exact⟨b,hb,by have:=(h.good b hb).col;omega⟩
theorem fac_sys {n:Nat} {s:FacSt} (h:FacInv n s) (hs:s.ST=[]):∀(k:Nat) {t:FacSt},facUp s k=some t→FacInv n t∧t.ST.length=k∧
  ∀x f,(∀j:Nat,j<n→ev (s.R.getD j []) x=f (j:Int))↔(∀j:Nat,j<n→ev (t.R.getD j []) x=fwd t.ST f (j:Int))
 | 0,t,ht=>by
  cases ht;refine⟨h,by rw[hs];rfl,fun x f=>?_⟩;rw[hs];exact Iff.rfl
 | k+1,t',ht'=>by
  unfold facUp at ht'
  cases ht:facUp s k with
  | none=>rw[ht] at ht';cases ht'
  | some t =>
   rw[ht] at ht';have⟨h1,h2,h3⟩:=fac_sys h hs k ht;obtain⟨h4,st,e,hgd,hev⟩:=h1.step ht';refine⟨h4,by rw[e,yC,h2];rfl,fun x f=>(h3 x f).trans ?_⟩;rw[e,fwd_snoc];have hrn:((st.row.toNat:Nat):Int)=st.row:=zi hgd.row;have hrl:st.row.toNat<n:=zi hgd.row;constructor
   ·intro h5 j hj;rw[hev,h5 j hj,h5 _ hrl,hrn];rfl
   ·intro h5 j hj;have h6:ev (t.R.getD st.row.toNat []) x=fwd t.ST f st.row:=by
     have h7:=h5 _ hrl;rw[hev,hrn,hgd.takenRow] at h7;unfold spr at h7
     rw[hgd.takenRow] at h7;grind
    have h7:=h5 j hj;rw[hev,h6] at h7;unfold spr at h7
    grind
theorem fac_ftran {n:Nat} {s t:FacSt} (h:FacInv n s) (hs:s.ST=[]) (ht:facUp s n=some t) (f:Int→Rat) (j:Nat) (hj:j<n) :
  ev (s.R.getD j []) (back (fwd t.ST f) t.ST)=f (j:Int):=by
 obtain⟨h1,h2,h3⟩:=fac_sys h hs n ht;refine(h3 _ f).2 (fun i hi=>?_) j hj;obtain⟨st,hst,hr⟩:=h1.allRows h2 i hi;have h4:=h1.is st hst (back (fwd t.ST f) t.ST);rw[hr] at h4;rw[show i=(i:Int).toNat from rfl,h4,back_sol _ h1.good h1.apart st hst,hr];rfl
theorem fac_uniq {n:Nat} {s t:FacSt} (h:FacInv n s) (hs:s.ST=[]) (ht:facUp s n=some t) {x y:Int→Rat} (hxy:∀j:Nat,j<n→ev (s.R.getD j []) x=ev (s.R.getD j []) y) (a:Int) (ha:0≤a) (ha2:a<(n:Int)):x a=y a:=by
 obtain⟨h1,h2,h3⟩:=fac_sys h hs n ht;have h4:=(h3 x (fun a=>ev (s.R.getD a.toNat []) x)).1 (fun j _=>rfl);have h5:=(h3 y (fun a=>ev (s.R.getD a.toNat []) x)).1 (fun j hj=>(hxy j hj).symm);obtain⟨st,hst,rfl⟩:=h1.allCols h2 a ha ha2;refine uniq_st h1.good h1.apart (fun a=>h1.allCols h2 a) (fun u hu=>?_) t.ST [] rfl st hst;have hrl:u.row.toNat<n:=zi (h1.good u hu).row;rw[←h1.is u hu,←h1.is u hu,h4 _ hrl,h5 _ hrl]
def btUp:List StepF→(Int→Rat)→(Int→Rat)→(Int→Rat)
 | [],_,y=>y
 | st :: L,c,y=>btUp L (spr c st.rest (c st.col / st.pv)) (upd y st.row (c st.col / st.pv))
def btDn (L:List StepF) (y:Int→Rat):Int→Rat:=L.foldr (fun st y=>upd y st.row (y st.row-ev st.taken y)) y
theorem rise_len {P:List (Int×Rat)} {n:Nat} (h:Rise P) (hp:∀t∈P,0≤t.1∧t.1<(n:Int)):P.length≤n:=by
 have h1:=pig n (l:=P.map fun t=>t.1.toNat) (by
  unfold List.Nodup
  rw[gG];refine List.Pairwise.imp_of_mem (fun {a b} ha hb hab e=>?_) h;have h1:=hp a ha;have h2:=hp b hb;omega) (fun x hx=>by
  obtain⟨t,ht,rfl⟩:=tC.1 hx;have:=hp t ht;omega)
 rwa [cB] at h1
def facM (m:Nat):Nat→Nat
 | 0=>m+2
 | i+1=>4*facM m i+12
def facK (m i:Nat):Nat:=2*facM m i+4
theorem facM_mono (m : Nat) : ∀ {i j : Nat}, i ≤ j → facM m i ≤ facM m j
  | i, 0, h => by obtain rfl : i = 0 := by omega
                  exact cA _
  | i, j + 1, h => by
    by_cases e : i = j + 1
    · subst e; exact cA _
    · have := facM_mono m (i := i) (j := j) zo
      show _ ≤ 4 * facM m j + 12
      omega
theorem facM_two (m i:Nat):2≤facM m i:=kA (show 2≤facM m 0 from by show 2≤m+2;omega) (facM_mono m (nA i))
theorem fac_none {s : FacSt} {i : Nat} (h : facUp s i = none) : ∀ {n : Nat}, i ≤ n → facUp s n = none
  | 0, hn => by obtain rfl : i = 0 := by omega
                exact h
  | n + 1, hn => by
    by_cases e : i = n + 1
    · subst e; exact h
    · unfold facUp
      rw [fac_none h (n := n) zo]
theorem fac_more {s t:FacSt} {i:Nat} (h:facUp s i=some t):facUp s (i+1)=facStep t:=by
 show(match facUp s i with | none=>none | some t=>facStep t)=_
 rw[h]
theorem step_none {t:FacSt} (h:nextF t.R t.OB=none):facStep t=none:=by unfold facStep;rw[h]
theorem step_some {t:FacSt} {pc co:Int} {k:Nat} (h:nextF t.R t.OB=some ⟨pc,co,(k:Int)⟩):facStep t=some ⟨(elimUp t.R (t.OB.set k false) co (pget (t.R.getD k []) co) (restF (t.R.getD k []) co) t.R.length).1,t.OB.set k false,
  t.ST++[⟨(k:Int),co,pget (t.R.getD k []) co,restF (t.R.getD k []) co,(elimUp t.R (t.OB.set k false) co (pget (t.R.getD k []) co) (restF (t.R.getD k []) co) t.R.length).2⟩]⟩:=by
 unfold facStep
 rw[h];rfl
def opnL (i n:Nat):List Bool:=List.replicate i true++List.replicate (n-i) false
theorem opnL_full (n:Nat):opnL n n=List.replicate n true:=by unfold opnL;rw[vE];exact mF _
theorem opnL_get {i n:Nat} (h:i<n):(opnL i n)[i]?=some false:=by
 unfold opnL
 rw[fD (by rw[nC];exact cA _),nC,vE,cD,gA zo]
theorem opnL_set {i n:Nat} (h:i<n):(opnL i n).set i true=opnL (i+1) n:=by
 unfold opnL
 rw[vF _ _ (by rw[nC];exact cA _),nC,vE,show n-i=(n-(i+1))+1 by omega,pF,List.set_cons_zero,List.replicate_succ',dF];rfl
theorem fwd_take {L:List StepF} {i:Nat} {st:StepF} (h:L[i]?=some st) (f:Int→Rat):fwd (L.take (i+1)) f=spr (fwd (L.take i) f) st.taken (fwd (L.take i) f st.row):=by
 rw[take_snoc' h,fwd_snoc]
theorem drop_cons {α:Type} {L:List α} {j:Nat} {x:α} (h:L[j]?=some x):L.drop j=x :: L.drop (j+1):=by
 obtain⟨hj,rfl⟩:=yA.1 h;exact nD hj
theorem back_drop {L:List StepF} {j:Nat} {st:StepF} (h:L[j]?=some st) (g:Int→Rat):back g (L.drop j)=upd (back g (L.drop (j+1))) st.col ((g st.row-ev st.rest (back g (L.drop (j+1)))) / st.pv):=by
 rw[drop_cons h];rfl
theorem back_pre (g:Int→Rat) (L:List StepF) (c:Int):∀{pre:List StepF},(∀a∈pre,a.col≠c)→back g (pre++L) c=back g L c
 | [],_=>rfl
 | a :: pre,h=>by
  rw[yE];show upd (back g (pre++L)) a.col _ c=_
  rw[upd_off (fun e=>h a pA e.symm)];exact back_pre g L c fun b hb=>h b (qA _ hb)
theorem back_fin {L:List StepF} (ha:L.Pairwise ApartSt) {j:Nat} {st:StepF} (h:L[j]?=some st) (g:Int→Rat):back g L st.col=back g (L.drop j) st.col:=by
 have e:L=L.take j++L.drop j:=(xC j L).symm;have h2:st∈L.drop j:=by rw[drop_cons h];exact pA
 have h3:=ha;rw[e] at h3;have h4:back g L st.col=back g (L.take j++L.drop j) st.col:=by rw[xC]
 rw[h4];exact back_pre g _ _ fun a hm=>((aF.1 h3).2.2 a hm st h2).col
def btFold (L:List StepF) (c y:Int→Rat):(Int→Rat)×(Int→Rat):=L.foldl (fun s st=>(spr s.1 st.rest (s.1 st.col / st.pv),upd s.2 st.row (s.1 st.col / st.pv))) (c,y)
theorem btFold_up:∀(L:List StepF) (c y:Int→Rat),(btFold L c y).2=btUp L c y
 | [],_,_=>rfl
 | _ :: L,_,_=>btFold_up L _ _
theorem btFold_take {L:List StepF} {i:Nat} {st:StepF} (h:L[i]?=some st) (c y:Int→Rat):btFold (L.take (i+1)) c y=(spr (btFold (L.take i) c y).1 st.rest ((btFold (L.take i) c y).1 st.col / st.pv),upd (btFold (L.take i) c y).2 st.row ((btFold (L.take i) c y).1 st.col / st.pv)):=by
 rw[take_snoc' h];unfold btFold
 rw[List.foldl_append];rfl
theorem btDn_drop {L:List StepF} {j:Nat} {st:StepF} (h:L[j]?=some st) (z:Int→Rat):btDn (L.drop j) z=upd (btDn (L.drop (j+1)) z) st.row (btDn (L.drop (j+1)) z st.row-ev st.taken (btDn (L.drop (j+1)) z)):=by
 rw[drop_cons h];rfl
theorem btDn_pre (z:Int→Rat) (L:List StepF) (c:Int):∀{pre:List StepF},(∀a∈pre,a.row≠c)→btDn (pre++L) z c=btDn L z c
 | [],_=>rfl
 | a :: pre,h=>by
  rw[yE];show upd (btDn (pre++L) z) a.row _ c=_
  rw[upd_off (fun e=>h a pA e.symm)];exact btDn_pre z L c fun b hb=>h b (qA _ hb)
def cntQ (B:List Bool) (f:Nat→Rat):Nat→Nat
 | 0=>0
 | k+1=>cntQ B f k+(if B.getD k false=true∧f k≠0 then 1 else 0)
theorem cntQ_le (B:List Bool) (f:Nat→Rat):∀k,cntQ B f k≤k
 | 0=>cA _
 | k+1=>by
  have:=cntQ_le B f k;show cntQ B f k+_≤k+1
  split<;>omega
theorem cntQ_yes {B:List Bool} {f:Nat→Rat} {k:Nat} (h:B[k]?=some true) (h2:f k≠0):cntQ B f (k+1)=cntQ B f k+1:=by
 show cntQ B f k+_=_
 rw[gA ⟨by rw[bA,h];rfl,h2⟩]
theorem cntQ_no {B:List Bool} {f:Nat→Rat} {k:Nat} (h:B[k]?=some false):cntQ B f (k+1)=cntQ B f k:=by
 show cntQ B f k+_=_
 rw[fA fun h3=>by rw[bA,h] at h3;cases h3.1];rfl
theorem cntQ_zero {B:List Bool} {f:Nat→Rat} {k:Nat} (h2:f k=0):cntQ B f (k+1)=cntQ B f k:=by
 show cntQ B f k+_=_
 rw[fA fun h3=>h3.2 h2];rfl
theorem cntQ_congr {B:List Bool} {f g:Nat→Rat}:∀{n:Nat},(∀k,k<n→B.getD k false=true→(f k=0↔g k=0))→cntQ B f n=cntQ B g n
 | 0,_=>rfl
 | n+1,h=>by
  show cntQ B f n+_=cntQ B g n+_
  rw[cntQ_congr fun k hk ho=>h k zo ho];by_cases ho:B.getD n false=true
  ·have h1:=h n zo ho;by_cases h2:f n=0
   ·rw[fA fun c=>c.2 h2,fA fun c=>c.2 (h1.1 h2)]
   ·rw[gA ⟨ho,h2⟩,gA ⟨ho,fun c=>h2 (h1.2 c)⟩]
  ·rw[fA fun c=>ho c.1,fA fun c=>ho c.1]
def tq (T:List (List Rat)) (i k:Nat):Rat:=(T.getD i []).getD k 0
def offF (L:List Rat) (q:Rat) (L':List Rat):List Rat:=L.zipWith (fun x y=>x-q*y) L'
theorem offF_len {L L':List Rat} (q:Rat) (h:L.length≤L'.length):(offF L q L').length=L.length:=by unfold offF;rw[List.length_zipWith];omega
theorem offF_get {L L':List Rat} (q:Rat) {k:Nat} (h:k<L.length) (h':k<L'.length):(offF L q L').getD k 0=L.getD k 0-q*L'.getD k 0:=by
 unfold offF
 simp only[bA,List.getElem?_zipWith,aA h,aA h',Option.getD_some]
end Go.Proofs.YteggjbgbknkoiaaGreatDoor
