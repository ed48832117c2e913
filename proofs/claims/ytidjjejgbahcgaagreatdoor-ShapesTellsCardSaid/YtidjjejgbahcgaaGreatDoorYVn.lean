/-
  Vectors in plain Lean: places with numbers, what stands at a place, the one form.
-/
import Derived.Test.YtidjjejgbahcgaaGreatDoorYA
import Derived.Sort.Lot0
namespace Go.Proofs.YtidjjejgbahcgaaGreatDoor
def pget:List (Int×Rat)→Int→Rat
 | [],_=>0
 | x :: L,a=>if x.1=a then x.2+pget L a else pget L a
theorem pget_nil (a:Int):pget [] a=0:=rfl
theorem zAm (x:Int×Rat) (L:List (Int×Rat)) (a:Int):pget (x :: L) a=if x.1=a then x.2+pget L a else pget L a:=rfl
theorem pget_one (x:Int×Rat) (a:Int):pget [x] a=if x.1=a then x.2 else 0:=by rw[zAm,pget_nil,Rat.add_zero]
theorem pget_append (L M:List (Int×Rat)) (a:Int):pget (L++M) a=pget L a+pget M a:=by
 induction L with
 | nil=>rw[List.nil_append,pget_nil,Rat.zero_add]
 | cons x L ih =>
  rw[List.cons_append,zAm,zAm,ih];split
  ·rw[Rat.add_assoc]
  ·rfl
theorem pget_scale (s:Rat) (L:List (Int×Rat)) (a:Int):pget (L.map fun x=>(x.1,s*x.2)) a=s*pget L a:=by
 induction L with
 | nil=>rw[List.map_nil,pget_nil,Rat.mul_zero]
 | cons x L ih =>
  rw[List.map_cons,zAm,zAm,ih];split
  ·rw[Rat.mul_add]
  ·rfl
theorem pget_none {L:List (Int×Rat)} {a:Int} (h:∀x∈L,x.1≠a):pget L a=0:=by
 induction L with
 | nil=>rfl
 | cons x L ih =>
  rw[zAm,if_neg (h x List.mem_cons_self)];exact ih fun y hy=>h y (List.mem_cons_of_mem _ hy)
theorem pget_nz (L:List (Int×Rat)) (a:Int):pget (L.filter fun x=>decide (x.2≠0)) a=pget L a:=by
 induction L with
 | nil=>rfl
 | cons x L ih =>
  rw[List.filter_cons];by_cases h:x.2=0
  ·rw[if_neg (by simp[h]),ih,zAm,h,Rat.zero_add];split<;>rfl
  ·rw[if_pos (by simp[h]),zAm,zAm,ih]
def Rise (L:List (Int×Rat)):Prop:=L.Pairwise fun x y=>x.1<y.1
structure Nrm (L:List (Int×Rat)):Prop where
 rise:Rise L
 nz:∀x∈L,x.2≠0
theorem Rise.cons {x:Int×Rat} {L:List (Int×Rat)}:Rise (x :: L)↔(∀y∈L,x.1<y.1)∧Rise L:=List.pairwise_cons
theorem Nrm.tail {x:Int×Rat} {L:List (Int×Rat)} (h:Nrm (x :: L)):Nrm L:=⟨(Rise.cons.1 h.rise).2,fun y hy=>h.nz y (List.mem_cons_of_mem _ hy)⟩
theorem Rise.head {x:Int×Rat} {L:List (Int×Rat)} (h:Rise (x :: L)):pget (x :: L) x.1=x.2:=by
 rw[zAm,if_pos rfl,pget_none (fun y hy=>by have:=(Rise.cons.1 h).1 y hy;omega),Rat.add_zero]
theorem Rise.low {x:Int×Rat} {L:List (Int×Rat)} (h:Rise (x :: L)) {a:Int} (ha:a<x.1):pget (x :: L) a=0 :=
 pget_none fun y hy=>by
  rcases List.mem_cons.1 hy with rfl | hy
  ·omega
  ·have:=(Rise.cons.1 h).1 y hy;omega
theorem Rise.get {L:List (Int×Rat)} (h:Rise L) {x:Int×Rat} (hx:x∈L):pget L x.1=x.2:=by
 induction L with
 | nil=>cases hx
 | cons y L ih =>
  rcases List.mem_cons.1 hx with rfl | hx
  ·exact h.head
  ·rw[zAm,if_neg (zi ((Rise.cons.1 h).1 x hx))];exact ih (Rise.cons.1 h).2 hx
theorem Nrm.ext {L M:List (Int×Rat)} (hL:Nrm L) (hM:Nrm M) (h:∀a,pget L a=pget M a):L=M:=by
 induction L generalizing M with
 | nil =>
  cases M with
  | nil=>rfl
  | cons y M=>have:=h y.1;rw[hM.rise.head,pget_nil] at this;exact absurd this.symm (hM.nz y List.mem_cons_self)
 | cons x L ih =>
  cases M with
  | nil=>have:=h x.1;rw[hL.rise.head,pget_nil] at this;exact absurd this (hL.nz x List.mem_cons_self)
  | cons y M =>
   have e1:x.1=y.1:=by
    rcases Int.lt_trichotomy x.1 y.1 with h1 | h1 | h1
    ·have:=h x.1;rw[hL.rise.head,hM.rise.low h1] at this;exact absurd this (hL.nz x List.mem_cons_self)
    ·exact h1
    ·have:=h y.1;rw[hM.rise.head,hL.rise.low h1] at this;exact absurd this.symm (hM.nz y List.mem_cons_self)
   have e2:x.2=y.2:=by
    have:=h x.1;rw[hL.rise.head,e1,hM.rise.head] at this;exact this
   obtain rfl:x=y:=Prod.ext e1 e2;congr 1
   refine ih hL.tail hM.tail fun a=>?_;by_cases ha:x.1=a
   ·subst ha;rw[pget_none (fun z hz=>by have:=(Rise.cons.1 hL.rise).1 z hz;omega),pget_none (fun z hz=>by have:=(Rise.cons.1 hM.rise).1 z hz;omega)]
   ·have:=h a;rwa [zAm,zAm,if_neg ha,if_neg ha] at this
def pins (a:Int) (q:Rat):List (Int×Rat)→List (Int×Rat)
 | []=>if q=0 then [] else [(a,q)]
 | x :: L=>if a<x.1 then(if q=0 then x :: L else(a,q) :: x :: L) else if a=x.1 then(if q+x.2=0 then L else(a,q+x.2) :: L) else x :: pins a q L
def nrm:List (Int×Rat)→List (Int×Rat)
 | []=>[]
 | x :: L=>pins x.1 x.2 (nrm L)
theorem pins_ge {a b:Int} {q:Rat} {L:List (Int×Rat)} (ha:b<a) (h:∀y∈L,b<y.1):∀y∈pins a q L,b<y.1:=by
 induction L with
 | nil =>
  intro y hy;unfold pins at hy
  split at hy
  ·cases hy
  ·rcases List.mem_cons.1 hy with rfl | hy
   ·exact ha
   ·cases hy
 | cons x L ih =>
  intro y hy;unfold pins at hy
  split at hy
  ·split at hy
   ·exact h y hy
   ·rcases List.mem_cons.1 hy with rfl | hy
    ·exact ha
    ·exact h y hy
  ·split at hy
   ·split at hy
    ·exact h y (List.mem_cons_of_mem _ hy)
    ·rcases List.mem_cons.1 hy with rfl | hy
     ·exact ha
     ·exact h y (List.mem_cons_of_mem _ hy)
   ·rcases List.mem_cons.1 hy with rfl | hy
    ·exact h y List.mem_cons_self
    ·exact ih (fun z hz=>h z (List.mem_cons_of_mem _ hz)) y hy
theorem pins_nrm {a:Int} {q:Rat} {L:List (Int×Rat)} (h:Nrm L):Nrm (pins a q L):=by
 induction L with
 | nil =>
  unfold pins
  split
  ·exact h
  ·rename_i hq
   exact⟨List.pairwise_singleton _ _,fun x hx=>by rcases List.mem_cons.1 hx with rfl | hx;exact hq;cases hx⟩
 | cons x L ih =>
  have hc:=Rise.cons.1 h.rise;unfold pins
  split
  ·rename_i h1
   split
   ·exact h
   ·rename_i hq
    refine⟨Rise.cons.2 ⟨fun y hy=>?_,h.rise⟩,fun y hy=>?_⟩
    ·rcases List.mem_cons.1 hy with rfl | hy
     ·exact h1
     ·have:=hc.1 y hy;simp only;omega
    ·rcases List.mem_cons.1 hy with rfl | hy
     ·exact hq
     ·exact h.nz y hy
  ·rename_i h1
   split
   ·rename_i h2
    split
    ·exact h.tail
    ·rename_i hq
     refine⟨Rise.cons.2 ⟨fun y hy=>by have:=hc.1 y hy;simp only;omega,hc.2⟩,fun y hy=>?_⟩;rcases List.mem_cons.1 hy with rfl | hy
     ·exact hq
     ·exact h.nz y (List.mem_cons_of_mem _ hy)
   ·rename_i h2
    have hi:=ih h.tail;refine⟨Rise.cons.2 ⟨pins_ge zo hc.1,hi.rise⟩,fun y hy=>?_⟩;rcases List.mem_cons.1 hy with rfl | hy
    ·exact h.nz y List.mem_cons_self
    ·exact hi.nz y hy
theorem pins_get (a:Int) (q:Rat) (L:List (Int×Rat)) (b:Int):pget (pins a q L) b=pget ((a,q) :: L) b:=by
 induction L with
 | nil =>
  unfold pins
  split
  ·rename_i h;subst h;rw[zAm,pget_nil,Rat.zero_add];split<;>rfl
  ·rfl
 | cons x L ih =>
  unfold pins
  split
  ·split
   ·rename_i h;subst h;rw[zAm,zAm,zAm];simp only[Rat.zero_add,ite_self]
   ·rfl
  ·split
   ·rename_i h2
    split
    ·rename_i h3
     rw[zAm,zAm];simp only
     split
     ·rw[if_pos zo,←Rat.add_assoc,h3,Rat.zero_add]
     ·rw[if_neg zo]
    ·rw[zAm,zAm,zAm];simp only
     split
     ·rw[if_pos zo,Rat.add_assoc]
     ·rw[if_neg zo]
   ·rename_i h2
    rw[zAm,ih,zAm,zAm,zAm];simp only
    split
    ·rw[if_neg zo,if_neg zo]
    ·rfl
theorem nrm_nrm (L:List (Int×Rat)):Nrm (nrm L):=by
 induction L with
 | nil=>exact⟨List.Pairwise.nil,fun x hx=>by cases hx⟩
 | cons x L ih=>exact pins_nrm ih
theorem nrm_get (L:List (Int×Rat)) (a:Int):pget (nrm L) a=pget L a:=by
 induction L with
 | nil=>rfl
 | cons x L ih=>unfold nrm;rw[pins_get,zAm,zAm,ih]
theorem nrm_eq {L M:List (Int×Rat)} (hM:Nrm M) (h:∀a,pget L a=pget M a):nrm L=M:=(nrm_nrm L).ext hM fun a=>by rw[nrm_get,h]
def pdot (L M:List (Int×Rat)):Rat:=L.foldr (fun x s=>x.2*pget M x.1+s) 0
theorem pdot_nil (M:List (Int×Rat)):pdot [] M=0:=rfl
theorem pdot_cons (x:Int×Rat) (L M:List (Int×Rat)):pdot (x :: L) M=x.2*pget M x.1+pdot L M:=rfl
theorem pdot_nil_right (L:List (Int×Rat)):pdot L []=0:=by
 induction L with
 | nil=>rfl
 | cons x L ih=>rw[pdot_cons,ih,pget_nil,Rat.mul_zero,Rat.add_zero]
theorem pdot_cons_right (L:List (Int×Rat)) (y:Int×Rat) (M:List (Int×Rat)):pdot L (y :: M)=pget L y.1*y.2+pdot L M:=by
 induction L with
 | nil=>rw[pdot_nil,pdot_nil,pget_nil,Rat.zero_mul,Rat.zero_add]
 | cons x L ih =>
  rw[pdot_cons,pdot_cons,ih,zAm,zAm];by_cases h:y.1=x.1
  ·rw[if_pos h,if_pos h.symm];grind
  ·rw[if_neg h,if_neg (fun e=>h e.symm)];grind
theorem pdot_comm (L M:List (Int×Rat)):pdot L M=pdot M L:=by
 induction L with
 | nil=>rw[pdot_nil,pdot_nil_right]
 | cons x L ih=>rw[pdot_cons,pdot_cons_right,ih,Rat.mul_comm]
theorem pdot_append (L L' M:List (Int×Rat)):pdot (L++L') M=pdot L M+pdot L' M:=by
 induction L with
 | nil=>rw[List.nil_append,pdot_nil,Rat.zero_add]
 | cons x L ih=>rw[List.cons_append,pdot_cons,pdot_cons,ih,Rat.add_assoc]
theorem Rise.snoc {L:List (Int×Rat)} {x:Int×Rat} (h:Rise L) (hx:∀y∈L,y.1<x.1):Rise (L++[x]):=by
 unfold Rise at h ⊢
 rw[List.pairwise_append];refine⟨h,List.pairwise_singleton _ _,fun y hy z hz=>?_⟩;rcases List.mem_cons.1 hz with rfl | hz
 ·exact hx y hy
 ·cases hz
theorem Rise.front {L:List (Int×Rat)} {x:Int×Rat} (h:Rise (L++[x])):Rise L∧∀y∈L,y.1<x.1:=by
 unfold Rise at h
 rw[List.pairwise_append] at h;exact⟨h.1,fun y hy=>h.2.2 y hy x List.mem_cons_self⟩
structure Grp (out ts:List (Int×Rat)) (i:Nat):Prop where
 rise:Rise out
 get:∀a,pget out a=pget (ts.take i) a
 last:∀l,out.getLast?=some l→∃t∈ts.take i,l.1=t.1
 len:out.length≤i
theorem take_snoc' {α:Type} {L:List α} {i:Nat} {x:α} (h:L[i]?=some x):L.take (i+1)=L.take i++[x]:=by rw[List.take_add_one,h];rfl
theorem snoc_of_last {α:Type} {L:List α} {l:α} (h:L.getLast?=some l):∃M,L=M++[l]:=by
 have hne:L≠[]:=by intro e;subst e;cases h
 rw[List.getLast?_eq_some_getLast hne] at h;exact⟨L.dropLast,by rw[←Option.some.inj h];exact(List.dropLast_concat_getLast hne).symm⟩
theorem Grp.new {out ts:List (Int×Rat)} {i:Nat} {t:Int×Rat} (h:Grp out ts i) (ht:ts[i]?=some t) (hs:∀x∈ts.take i,x.1≤t.1) (hl:∀l,out.getLast?=some l→l.1≠t.1):Grp (out++[t]) ts (i+1):=by
 refine⟨h.rise.snoc fun y hy=>?_,fun a=>?_,fun l hl'=>?_,by have:=h.len;simp;omega⟩
 ·obtain⟨l,hl'⟩:∃l,out.getLast?=some l:=by
   cases e:out.getLast? with
   | none=>rw[List.getLast?_eq_none_iff] at e;subst e;cases hy
   | some l=>exact⟨l,rfl⟩
  obtain⟨M,rfl⟩:=snoc_of_last hl';have h1:=hl l hl';obtain⟨u,hu,e⟩:=h.last l hl';have h2:=hs u hu;rcases List.mem_append.1 hy with hy | hy
  ·have:=(Rise.front h.rise).2 y hy;omega
  ·rcases List.mem_cons.1 hy with rfl | hy
   ·omega
   ·cases hy
 ·rw[take_snoc' ht,pget_append,pget_append,h.get]
 ·rw[List.getLast?_append] at hl';simp at hl'
  subst hl';exact⟨t,by rw[take_snoc' ht];simp,rfl⟩
theorem Grp.same {out ts:List (Int×Rat)} {i:Nat} {t l:Int×Rat} (h:Grp out ts i) (ht:ts[i]?=some t) (hl:out.getLast?=some l) (e:l.1=t.1):Grp (out.set (out.length-1) (l.1,l.2+t.2)) ts (i+1):=by
 obtain⟨M,rfl⟩:=snoc_of_last hl;have e1:(M++[l]).set ((M++[l]).length-1) (l.1,l.2+t.2)=M++[(l.1,l.2+t.2)]:=by
  rw[List.set_append_right _ _ (by simp)];simp
 rw[e1];have hf:=Rise.front h.rise;refine⟨hf.1.snoc hf.2,fun a=>?_,fun l' hl'=>?_,by have:=h.len;simp at this ⊢;omega⟩
 ·have:=h.get a;rw[pget_append,pget_one] at this;rw[take_snoc' ht,pget_append,pget_append,pget_one,pget_one,←this,←e];simp only
  split
  ·rw[Rat.add_assoc]
  ·rw[Rat.add_zero,Rat.add_zero]
 ·rw[List.getLast?_append] at hl';simp at hl'
  subst hl';exact⟨t,by rw[take_snoc' ht];simp,e⟩
theorem Rise.strike {L:List (Int×Rat)} (h:Rise L):Nrm (L.filter fun x=>decide (x.2≠0)):=⟨List.Pairwise.filter _ h,fun x hx=>by simpa using (List.mem_filter.1 hx).2⟩
theorem Grp.done {out ts:List (Int×Rat)} {i:Nat} (h:Grp out ts i) (hi:ts.length≤i):nrm ts=out.filter fun x=>decide (x.2≠0) :=
 nrm_eq h.rise.strike fun a=>by rw[pget_nz,h.get,List.take_of_length_le hi]
open Go.Sort
section
variable {α:Type} {lt:α→α→Bool}
end
variable {α:Type} [Inhabited α]
def Moved (f:Nat→Nat) (d d':Array α):Prop:=∀x,d'[x]! = d[f x]!
def upIdx (a k x:Nat):Nat:=if a≤x∧x<k then x+1 else if x=k then a else x
def downIdx (m k x:Nat):Nat:=if k<x∧x≤m then x-1 else if x=k then m else x
theorem Moved.congr {f g:Nat→Nat} {d d':Array α} (h:Moved f d d') (e:∀x,f x=g x):Moved g d d':=fun x=>by rw[h x,e x]
theorem swp_at (d:Array α) (i j x:Nat) (hi:i<d.size) (hj:j<d.size):(swp d i j)[x]! = d[if x=i then j else if x=j then i else x]!:=by
 by_cases h1:x=i
 ·subst h1;rw[if_pos rfl];by_cases h2:x=j
  ·subst h2;exact swp_right d x x hj
  ·exact swp_left d x j hi h2
 ·rw[if_neg h1];by_cases h2:x=j
  ·subst h2;rw[if_pos rfl];exact swp_right d i x hj
  ·rw[if_neg h2];exact swp_other d i j x h1 h2
theorem Moved.swp {f:Nat→Nat} {d d':Array α} (h:Moved f d d') {i j:Nat} (hi:i<d'.size) (hj:j<d'.size):Moved (fun x=>f (if x=i then j else if x=j then i else x)) d (swp d' i j):=fun x=>by
 rw[swp_at d' i j x hi hj,h]
theorem Moved.trans {f g:Nat→Nat} {a b c:Array α} (h:Moved f a b) (k:Moved g b c):Moved (fun x=>f (g x)) a c:=fun x=>by rw[k x,h]
theorem Moved.up {d d':Array α} {a k:Nat} (h:Moved (upIdx a k) d d') (hk:a≤k) (hb:k+1<d'.size):Moved (upIdx a (k+1)) d (Go.Sort.swp d' k (k+1)) :=
 (h.swp (i:=k) (j:=k+1) zo zo).congr fun x=>by
  unfold upIdx
  by_cases h1:x=k
  ·subst h1;simp only[if_true];(repeat' split)<;>omega
  ·by_cases h2:x=k+1
   ·subst h2;rw[if_neg h1,if_pos rfl];(repeat' split)<;>omega
   ·rw[if_neg h1,if_neg h2];(repeat' split)<;>omega
theorem Moved.down {d d':Array α} {m k:Nat} (h:Moved (downIdx m (k+1)) d d') (hk:k+1≤m) (hb:k+1<d'.size):Moved (downIdx m k) d (Go.Sort.swp d' (k+1) k) :=
 (h.swp (i:=k+1) (j:=k) zo zo).congr fun x=>by
  unfold downIdx
  by_cases h1:x=k+1
  ·subst h1;simp only[if_true];(repeat' split)<;>omega
  ·by_cases h2:x=k
   ·subst h2;rw[if_neg h1,if_pos rfl];(repeat' split)<;>omega
   ·rw[if_neg h1,if_neg h2];(repeat' split)<;>omega
section
variable {lt:α→α→Bool}
theorem SortedIn.le (hO:SWO lt) {a b:Nat} {d:Array α} (h:SortedIn lt a b d) {i j:Nat} (h1:a≤i) (h2:i≤j) (h3:j<b):lt d[j]! d[i]! = false:=by
 rcases Nat.lt_or_ge i j with h4 | h4
 ·exact h i j h1 h4 h3
 ·obtain rfl:i=j:=zo;exact hO.irrefl _
end
end Go.Proofs.YtidjjejgbahcgaaGreatDoor
