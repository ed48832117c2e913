import Derived.Test.YtiondclbdgijbaaGreatDoorYA
import Derived.Sort.Lot0
namespace Go.Proofs.YtiondclbdgijbaaGreatDoor
def pget:List (Int×Rat)→Int→Rat
 | [],_=>0
 | x :: L,a=>if x.1=a then x.2+pget L a else pget L a
theorem pget_nil (a:Int):pget [] a=0:=rfl
theorem zAd (x:Int×Rat) (L:List (Int×Rat)) (a:Int):pget (x :: L) a=if x.1=a then x.2+pget L a else pget L a:=rfl
theorem pget_one (x:Int×Rat) (a:Int):pget [x] a=if x.1=a then x.2 else 0:=by rw[zAd,pget_nil,sE]
theorem pget_append (L M:List (Int×Rat)) (a:Int):pget (L++M) a=pget L a+pget M a:=by
 induction L with
 | nil=>rw[uE,pget_nil,zF]
 | cons x L ih =>
  rw[bE,zAd,zAd,ih];split
  ·rw[Rat.add_assoc]
  ·rfl
theorem pget_perm {L M:List (Int×Rat)} (h:L.Perm M) (a:Int):pget L a=pget M a:=by
 induction h with
 | nil=>rfl
 | cons x _ ih=>rw[zAd,zAd,ih]
 | swap x y L =>
  rw[zAd,zAd,zAd,zAd];split<;>split<;>(try rfl)
  rw[←Rat.add_assoc,←Rat.add_assoc,Rat.add_comm y.2]
 | trans _ _ ih1 ih2=>rw[ih1,ih2]
theorem pget_none {L:List (Int×Rat)} {a:Int} (h:∀x∈L,x.1≠a):pget L a=0:=by
 induction L with
 | nil=>rfl
 | cons x L ih =>
  rw[zAd,dA (h x kB)];exact ih fun y hy=>h y (jB _ hy)
theorem pget_nz (L:List (Int×Rat)) (a:Int):pget (L.filter fun x=>decide (x.2≠0)) a=pget L a:=by
 induction L with
 | nil=>rfl
 | cons x L ih =>
  rw[List.filter_cons];by_cases h:x.2=0
  ·rw[dA (by simp[h]),ih,zAd,h,zF];split<;>rfl
  ·rw[bB (by simp[h]),zAd,zAd,ih]
def Rise (L:List (Int×Rat)):Prop:=L.Pairwise fun x y=>x.1<y.1
structure Nrm (L:List (Int×Rat)):Prop where
 rise:Rise L
 nz:∀x∈L,x.2≠0
theorem Rise.cons {x:Int×Rat} {L:List (Int×Rat)}:Rise (x :: L)↔(∀y∈L,x.1<y.1)∧Rise L:=List.pairwise_cons
theorem Nrm.tail {x:Int×Rat} {L:List (Int×Rat)} (h:Nrm (x :: L)):Nrm L:=⟨(Rise.cons.1 h.rise).2,fun y hy=>h.nz y (jB _ hy)⟩
theorem Rise.head {x:Int×Rat} {L:List (Int×Rat)} (h:Rise (x :: L)):pget (x :: L) x.1=x.2:=by
 rw[zAd,bB rfl,pget_none (fun y hy=>by have:=(Rise.cons.1 h).1 y hy;omega),sE]
theorem Rise.low {x:Int×Rat} {L:List (Int×Rat)} (h:Rise (x :: L)) {a:Int} (ha:a<x.1):pget (x :: L) a=0 :=
 pget_none fun y hy=>by
  rcases rB.1 hy with rfl | hy
  ·omega
  ·have:=(Rise.cons.1 h).1 y hy;omega
theorem Rise.get {L:List (Int×Rat)} (h:Rise L) {x:Int×Rat} (hx:x∈L):pget L x.1=x.2:=by
 induction L with
 | nil=>cases hx
 | cons y L ih =>
  rcases rB.1 hx with rfl | hx
  ·exact h.head
  ·rw[zAd,dA (zi ((Rise.cons.1 h).1 x hx))];exact ih (Rise.cons.1 h).2 hx
theorem Nrm.ext {L M:List (Int×Rat)} (hL:Nrm L) (hM:Nrm M) (h:∀a,pget L a=pget M a):L=M:=by
 induction L generalizing M with
 | nil =>
  cases M with
  | nil=>rfl
  | cons y M=>have:=h y.1;rw[hM.rise.head,pget_nil] at this;exact absurd this.symm (hM.nz y kB)
 | cons x L ih =>
  cases M with
  | nil=>have:=h x.1;rw[hL.rise.head,pget_nil] at this;exact absurd this (hL.nz x kB)
  | cons y M =>
   have e1:x.1=y.1:=by
    rcases qE x.1 y.1 with h1 | h1 | h1
    ·have:=h x.1;rw[hL.rise.head,hM.rise.low h1] at this;exact absurd this (hL.nz x kB)
    ·exact h1
    ·have:=h y.1;rw[hM.rise.head,hL.rise.low h1] at this;exact absurd this.symm (hM.nz y kB)
   have e2:x.2=y.2:=by
    have:=h x.1;rw[hL.rise.head,e1,hM.rise.head] at this;exact this
   obtain rfl:x=y:=Prod.ext e1 e2;congr 1
   refine ih hL.tail hM.tail fun a=>?_;by_cases ha:x.1=a
   ·subst ha;rw[pget_none (fun z hz=>by have:=(Rise.cons.1 hL.rise).1 z hz;omega),pget_none (fun z hz=>by have:=(Rise.cons.1 hM.rise).1 z hz;omega)]
   ·have:=h a;rwa [zAd,zAd,dA ha,dA ha] at this
def pins (a:Int) (q:Rat):List (Int×Rat)→List (Int×Rat)
 | []=>if q=0 then [] else [(a,q)]
 | x :: L=>if a<x.1 then(if q=0 then x :: L else(a,q) :: x :: L) else if a=x.1 then(if q+x.2=0 then L else(a,q+x.2) :: L) else x :: pins a q L
def nrm:List (Int×Rat)→List (Int×Rat)
 | []=>[]
 | x :: L=>pins x.1 x.2 (nrm L)
theorem pins_ge {a b:Int} {q:Rat} {L:List (Int×Rat)} (ha:b<a) (h:∀y∈L,b<y.1):∀y∈pins a q L,b<y.1:=by
 induction L with
 | nil =>
  intro y hy;unfold pins at hy
  split at hy
  ·cases hy
  ·rcases rB.1 hy with rfl | hy
   ·exact ha
   ·cases hy
 | cons x L ih =>
  intro y hy;unfold pins at hy
  split at hy
  ·split at hy
   ·exact h y hy
   ·rcases rB.1 hy with rfl | hy
    ·exact ha
    ·exact h y hy
  ·split at hy
   ·split at hy
    ·exact h y (jB _ hy)
    ·rcases rB.1 hy with rfl | hy
     ·exact ha
     ·exact h y (jB _ hy)
   ·rcases rB.1 hy with rfl | hy
    ·exact h y kB
    ·exact ih (fun z hz=>h z (jB _ hz)) y hy
theorem pins_nrm {a:Int} {q:Rat} {L:List (Int×Rat)} (h:Nrm L):Nrm (pins a q L):=by
 induction L with
 | nil =>
  unfold pins
  split
  ·exact h
  ·rename_i hq
   exact⟨List.pairwise_singleton _ _,fun x hx=>by rcases rB.1 hx with rfl | hx;exact hq;cases hx⟩
 | cons x L ih =>
  have hc:=Rise.cons.1 h.rise;unfold pins
  split
  ·rename_i h1
   split
   ·exact h
   ·rename_i hq
    refine⟨Rise.cons.2 ⟨fun y hy=>?_,h.rise⟩,fun y hy=>?_⟩
    ·rcases rB.1 hy with rfl | hy
     ·exact h1
     ·have:=hc.1 y hy;simp only;omega
    ·rcases rB.1 hy with rfl | hy
     ·exact hq
     ·exact h.nz y hy
  ·rename_i h1
   split
   ·rename_i h2
    split
    ·exact h.tail
    ·rename_i hq
     refine⟨Rise.cons.2 ⟨fun y hy=>by have:=hc.1 y hy;simp only;omega,hc.2⟩,fun y hy=>?_⟩;rcases rB.1 hy with rfl | hy
     ·exact hq
     ·exact h.nz y (jB _ hy)
   ·rename_i h2
    have hi:=ih h.tail;refine⟨Rise.cons.2 ⟨pins_ge zo hc.1,hi.rise⟩,fun y hy=>?_⟩;rcases rB.1 hy with rfl | hy
    ·exact h.nz y kB
    ·exact hi.nz y hy
theorem pins_get (a:Int) (q:Rat) (L:List (Int×Rat)) (b:Int):pget (pins a q L) b=pget ((a,q) :: L) b:=by
 induction L with
 | nil =>
  unfold pins
  split
  ·rename_i h;subst h;rw[zAd,pget_nil,zF];split<;>rfl
  ·rfl
 | cons x L ih =>
  unfold pins
  split
  ·split
   ·rename_i h;subst h;rw[zAd,zAd,zAd];simp only[zF,ite_self]
   ·rfl
  ·split
   ·rename_i h2
    split
    ·rename_i h3
     rw[zAd,zAd];simp only
     split
     ·rw[bB zo,←Rat.add_assoc,h3,zF]
     ·rw[dA zo]
    ·rw[zAd,zAd,zAd];simp only
     split
     ·rw[bB zo,Rat.add_assoc]
     ·rw[dA zo]
   ·rename_i h2
    rw[zAd,ih,zAd,zAd,zAd];simp only
    split
    ·rw[dA zo,dA zo]
    ·rfl
theorem nrm_nrm (L:List (Int×Rat)):Nrm (nrm L):=by
 induction L with
 | nil=>exact⟨List.Pairwise.nil,fun x hx=>by cases hx⟩
 | cons x L ih=>exact pins_nrm ih
theorem nrm_get (L:List (Int×Rat)) (a:Int):pget (nrm L) a=pget L a:=by
 induction L with
 | nil=>rfl
 | cons x L ih=>unfold nrm;rw[pins_get,zAd,zAd,ih]
theorem nrm_ext {L M:List (Int×Rat)} (h:∀a,pget L a=pget M a):nrm L=nrm M:=(nrm_nrm L).ext (nrm_nrm M) fun a=>by rw[nrm_get,nrm_get,h]
theorem nrm_eq {L M:List (Int×Rat)} (hM:Nrm M) (h:∀a,pget L a=pget M a):nrm L=M:=(nrm_nrm L).ext hM fun a=>by rw[nrm_get,h]
theorem Nrm.self {L:List (Int×Rat)} (h:Nrm L):nrm L=L:=nrm_eq h fun _=>rfl
theorem pins_len (a:Int) (q:Rat) (L:List (Int×Rat)):(pins a q L).length≤L.length+1:=by
 induction L with
 | nil=>unfold pins;split<;>simp
 | cons x L ih =>
  unfold pins
  split
  ·split<;>simp
  ·split
   ·split<;>simp<;>omega
   ·simp only[cC];omega
theorem nrm_len (L:List (Int×Rat)):(nrm L).length≤L.length:=by
 induction L with
 | nil=>exact aA _
 | cons x L ih=>unfold nrm;have:=pins_len x.1 x.2 (nrm L);simp only[cC];omega
def pdot (L M:List (Int×Rat)):Rat:=L.foldr (fun x s=>x.2*pget M x.1+s) 0
theorem pdot_nil (M:List (Int×Rat)):pdot [] M=0:=rfl
theorem pdot_cons (x:Int×Rat) (L M:List (Int×Rat)):pdot (x :: L) M=x.2*pget M x.1+pdot L M:=rfl
theorem pdot_congr {M M':List (Int×Rat)} (h:∀a,pget M a=pget M' a) (L:List (Int×Rat)):pdot L M=pdot L M':=by
 induction L with
 | nil=>rfl
 | cons x L ih=>rw[pdot_cons,pdot_cons,ih,h]
theorem pdot_nil_right (L:List (Int×Rat)):pdot L []=0:=by
 induction L with
 | nil=>rfl
 | cons x L ih=>rw[pdot_cons,ih,pget_nil,Rat.mul_zero,sE]
theorem pdot_cons_right (L:List (Int×Rat)) (y:Int×Rat) (M:List (Int×Rat)):pdot L (y :: M)=pget L y.1*y.2+pdot L M:=by
 induction L with
 | nil=>rw[pdot_nil,pdot_nil,pget_nil,Rat.zero_mul,zF]
 | cons x L ih =>
  rw[pdot_cons,pdot_cons,ih,zAd,zAd];by_cases h:y.1=x.1
  ·rw[bB h,bB h.symm];grind
  ·rw[dA h,dA (fun e=>h e.symm)];grind
theorem pdot_comm (L M:List (Int×Rat)):pdot L M=pdot M L:=by
 induction L with
 | nil=>rw[pdot_nil,pdot_nil_right]
 | cons x L ih=>rw[pdot_cons,pdot_cons_right,ih,Rat.mul_comm]
theorem pdot_congr_left {L L':List (Int×Rat)} (h:∀a,pget L a=pget L' a) (M:List (Int×Rat)):pdot L M=pdot L' M:=by rw[pdot_comm L,pdot_comm L',pdot_congr h]
theorem pdot_append (L L' M:List (Int×Rat)):pdot (L++L') M=pdot L M+pdot L' M:=by
 induction L with
 | nil=>rw[uE,pdot_nil,zF]
 | cons x L ih=>rw[bE,pdot_cons,pdot_cons,ih,Rat.add_assoc]
theorem Rise.snoc {L:List (Int×Rat)} {x:Int×Rat} (h:Rise L) (hx:∀y∈L,y.1<x.1):Rise (L++[x]):=by
 unfold Rise at h ⊢
 rw[List.pairwise_append];refine⟨h,List.pairwise_singleton _ _,fun y hy z hz=>?_⟩;rcases rB.1 hz with rfl | hz
 ·exact hx y hy
 ·cases hz
theorem Rise.front {L:List (Int×Rat)} {x:Int×Rat} (h:Rise (L++[x])):Rise L∧∀y∈L,y.1<x.1:=by
 unfold Rise at h
 rw[List.pairwise_append] at h;exact⟨h.1,fun y hy=>h.2.2 y hy x kB⟩
structure Grp (out ts:List (Int×Rat)) (i:Nat):Prop where
 rise:Rise out
 get:∀a,pget out a=pget (ts.take i) a
 last:∀l,out.getLast?=some l→∃t∈ts.take i,l.1=t.1
 len:out.length≤i
theorem Grp.start (ts:List (Int×Rat)):Grp [] ts 0:=⟨List.Pairwise.nil,fun _=>rfl,(fun l h=>(by cases h)),aA _⟩
theorem take_snoc' {α:Type} {L:List α} {i:Nat} {x:α} (h:L[i]?=some x):L.take (i+1)=L.take i++[x]:=by rw[aF,h];rfl
theorem snoc_of_last {α:Type} {L:List α} {l:α} (h:L.getLast?=some l):∃M,L=M++[l]:=by
 have hne:L≠[]:=by intro e;subst e;cases h
 rw[List.getLast?_eq_some_getLast hne] at h;exact⟨L.dropLast,by rw[←Option.some.inj h];exact(List.dropLast_concat_getLast hne).symm⟩
theorem Grp.new {out ts:List (Int×Rat)} {i:Nat} {t:Int×Rat} (h:Grp out ts i) (ht:ts[i]?=some t) (hs:∀x∈ts.take i,x.1≤t.1) (hl:∀l,out.getLast?=some l→l.1≠t.1):Grp (out++[t]) ts (i+1):=by
 refine⟨h.rise.snoc fun y hy=>?_,fun a=>?_,fun l hl'=>?_,by have:=h.len;simp;omega⟩
 ·obtain⟨l,hl'⟩:∃l,out.getLast?=some l:=by
   cases e:out.getLast? with
   | none=>rw[List.getLast?_eq_none_iff] at e;subst e;cases hy
   | some l=>exact⟨l,rfl⟩
  obtain⟨M,rfl⟩:=snoc_of_last hl';have h1:=hl l hl';obtain⟨u,hu,e⟩:=h.last l hl';have h2:=hs u hu;rcases uD.1 hy with hy | hy
  ·have:=(Rise.front h.rise).2 y hy;omega
  ·rcases rB.1 hy with rfl | hy
   ·omega
   ·cases hy
 ·rw[take_snoc' ht,pget_append,pget_append,h.get]
 ·rw[List.getLast?_append] at hl';simp at hl'
  subst hl';exact⟨t,by rw[take_snoc' ht];simp,rfl⟩
theorem Grp.same {out ts:List (Int×Rat)} {i:Nat} {t l:Int×Rat} (h:Grp out ts i) (ht:ts[i]?=some t) (hl:out.getLast?=some l) (e:l.1=t.1):Grp (out.set (out.length-1) (l.1,l.2+t.2)) ts (i+1):=by
 obtain⟨M,rfl⟩:=snoc_of_last hl;have e1:(M++[l]).set ((M++[l]).length-1) (l.1,l.2+t.2)=M++[(l.1,l.2+t.2)]:=by
  rw[List.set_append_right _ _ (by simp)];simp
 rw[e1];have hf:=Rise.front h.rise;refine⟨hf.1.snoc hf.2,fun a=>?_,fun l' hl'=>?_,by have:=h.len;simp at this ⊢;omega⟩
 ·have:=h.get a;rw[pget_append,pget_one] at this;rw[take_snoc' ht,pget_append,pget_append,pget_one,pget_one,←this,←e];simp only
  split
  ·rw[Rat.add_assoc]
  ·rw[sE,sE]
 ·rw[List.getLast?_append] at hl';simp at hl'
  subst hl';exact⟨t,by rw[take_snoc' ht];simp,e⟩
theorem Rise.strike {L:List (Int×Rat)} (h:Rise L):Nrm (L.filter fun x=>decide (x.2≠0)):=⟨List.Pairwise.filter _ h,fun x hx=>by simpa using (List.mem_filter.1 hx).2⟩
theorem Grp.done {out ts:List (Int×Rat)} {i:Nat} (h:Grp out ts i) (hi:ts.length≤i):nrm ts=out.filter fun x=>decide (x.2≠0) :=
 nrm_eq h.rise.strike fun a=>by rw[pget_nz,h.get,fA hi]
open Go.Sort
section
variable {α:Type} {lt:α→α→Bool}
theorem SWO.le_trans (h:SWO lt) {x y z:α} (h1:lt y x=false) (h2:lt z y=false):lt z x=false:=h.ntrans z y x h2 h1
theorem SWO.asym (h:SWO lt) {x y:α} (h1:lt x y=true):lt y x=false:=by
 cases e:lt y x
 ·rfl
 ·have:=h.trans x y x h1 e;rw[h.irrefl] at this;cases this
theorem SWO.lt_le (h:SWO lt) {x y z:α} (h1:lt x y=true) (h2:lt z y=false):lt x z=true:=by
 cases e:lt x z
 ·have:=h.ntrans x z y e h2;rw[h1] at this;cases this
 ·rfl
theorem SWO.le_lt (h:SWO lt) {x y z:α} (h1:lt y x=false) (h2:lt y z=true):lt x z=true:=by
 cases e:lt x z
 ·have:=h.ntrans y x z h1 e;rw[h2] at this;cases this
 ·rfl
end
variable {α:Type} [Inhabited α]
def Moved (f:Nat→Nat) (d d':Array α):Prop:=∀x,d'[x]! = d[f x]!
def swIdx (a b n x:Nat):Nat:=if a≤x∧x<a+n then b+(x-a) else if b≤x∧x<b+n then a+(x-b) else x
def rotIdx (a m b x:Nat):Nat:=if x<a then x else if x<a+(b-m) then m+(x-a) else if x<b then a+(x-(a+(b-m))) else x
def upIdx (a k x:Nat):Nat:=if a≤x∧x<k then x+1 else if x=k then a else x
def downIdx (m k x:Nat):Nat:=if k<x∧x≤m then x-1 else if x=k then m else x
theorem Moved.refl (d:Array α):Moved (fun x=>x) d d:=fun _=>rfl
theorem Moved.congr {f g:Nat→Nat} {d d':Array α} (h:Moved f d d') (e:∀x,f x=g x):Moved g d d':=fun x=>by rw[h x,e x]
theorem swp_at (d:Array α) (i j x:Nat) (hi:i<d.size) (hj:j<d.size):(swp d i j)[x]! = d[if x=i then j else if x=j then i else x]!:=by
 by_cases h1:x=i
 ·subst h1;rw[bB rfl];by_cases h2:x=j
  ·subst h2;exact swp_right d x x hj
  ·exact swp_left d x j hi h2
 ·rw[dA h1];by_cases h2:x=j
  ·subst h2;rw[bB rfl];exact swp_right d i x hj
  ·rw[dA h2];exact swp_other d i j x h1 h2
theorem Moved.swp {f:Nat→Nat} {d d':Array α} (h:Moved f d d') {i j:Nat} (hi:i<d'.size) (hj:j<d'.size):Moved (fun x=>f (if x=i then j else if x=j then i else x)) d (swp d' i j):=fun x=>by
 rw[swp_at d' i j x hi hj,h]
theorem Moved.trans {f g:Nat→Nat} {a b c:Array α} (h:Moved f a b) (k:Moved g b c):Moved (fun x=>f (g x)) a c:=fun x=>by rw[k x,h]
theorem Moved.sw {d d':Array α} {a b i n:Nat} (h:Moved (swIdx a b i) d d') (hi:i<n) (hab:a+n≤b) (hb:b+n≤d'.size):Moved (swIdx a b (i+1)) d (Go.Sort.swp d' (a+i) (b+i)) :=
 (h.swp (i:=a+i) (j:=b+i) zo zo).congr fun x=>by
  unfold swIdx
  by_cases h1:x=a+i
  ·subst h1;simp only[if_true];(repeat' split)<;>omega
  ·by_cases h2:x=b+i
   ·subst h2;rw[dA h1,bB rfl];(repeat' split)<;>omega
   ·rw[dA h1,dA h2];(repeat' split)<;>omega
theorem swIdx_zero (a b x:Nat):swIdx a b 0 x=x:=by unfold swIdx;(repeat' split)<;>omega
theorem upIdx_self (a x:Nat):upIdx a a x=x:=by unfold upIdx;(repeat' split)<;>omega
theorem downIdx_self (m x:Nat):downIdx m m x=x:=by unfold downIdx;(repeat' split)<;>omega
theorem upIdx_lt {a k x:Nat} (h:a≤x) (h':x<k):upIdx a k x=x+1:=by unfold upIdx;rw[bB ⟨h,h'⟩]
theorem upIdx_eq {a k:Nat}:upIdx a k k=a:=by unfold upIdx;rw[dA zo,bB rfl]
theorem upIdx_gt {a k x:Nat} (h:k<x):upIdx a k x=x:=by unfold upIdx;rw[dA zo,dA zo]
theorem downIdx_gt {m k x:Nat} (h:k<x) (h':x≤m):downIdx m k x=x-1:=by unfold downIdx;rw[bB ⟨h,h'⟩]
theorem downIdx_eq {m k:Nat}:downIdx m k k=m:=by unfold downIdx;rw[dA zo,bB rfl]
theorem downIdx_lt {m k x:Nat} (h:x<k):downIdx m k x=x:=by unfold downIdx;rw[dA zo,dA zo]
theorem Moved.up {d d':Array α} {a k:Nat} (h:Moved (upIdx a k) d d') (hk:a≤k) (hb:k+1<d'.size):Moved (upIdx a (k+1)) d (Go.Sort.swp d' k (k+1)) :=
 (h.swp (i:=k) (j:=k+1) zo zo).congr fun x=>by
  unfold upIdx
  by_cases h1:x=k
  ·subst h1;simp only[if_true];(repeat' split)<;>omega
  ·by_cases h2:x=k+1
   ·subst h2;rw[dA h1,bB rfl];(repeat' split)<;>omega
   ·rw[dA h1,dA h2];(repeat' split)<;>omega
theorem Moved.down {d d':Array α} {m k:Nat} (h:Moved (downIdx m (k+1)) d d') (hk:k+1≤m) (hb:k+1<d'.size):Moved (downIdx m k) d (Go.Sort.swp d' (k+1) k) :=
 (h.swp (i:=k+1) (j:=k) zo zo).congr fun x=>by
  unfold downIdx
  by_cases h1:x=k+1
  ·subst h1;simp only[if_true];(repeat' split)<;>omega
  ·by_cases h2:x=k
   ·subst h2;rw[dA h1,bB rfl];(repeat' split)<;>omega
   ·rw[dA h1,dA h2];(repeat' split)<;>omega
theorem rot_gt {m i j:Nat} (hi:i≤m) (h:j<i) (x:Nat):swIdx (m-i) m j (rotIdx (m-(i-j)) m (m+j) x)=rotIdx (m-i) m (m+j) x:=by
 unfold rotIdx swIdx
 (repeat' split)<;>omega
theorem rot_lt {m i j:Nat} (hi:i≤m) (h:i<j) (x:Nat):swIdx (m-i) (m+j-i) i (rotIdx (m-i) m (m+(j-i)) x)=rotIdx (m-i) m (m+j) x:=by
 unfold rotIdx swIdx
 (repeat' split)<;>omega
theorem rot_eq {m i:Nat} (hi:i≤m) (x:Nat):swIdx (m-i) m i x=rotIdx (m-i) m (m+i) x:=by
 unfold rotIdx swIdx
 (repeat' split)<;>omega
theorem rot_none {a m b:Nat} (hab:a≤m) (hmb:m≤b) (h:a=m∨b=m) (x:Nat):rotIdx a m b x=x:=by
 unfold rotIdx
 (repeat' split)<;>omega
section
variable {lt:α→α→Bool}
theorem SortedIn.le (hO:SWO lt) {a b:Nat} {d:Array α} (h:SortedIn lt a b d) {i j:Nat} (h1:a≤i) (h2:i≤j) (h3:j<b):lt d[j]! d[i]! = false:=by
 rcases eB i j with h4 | h4
 ·exact h i j h1 h4 h3
 ·obtain rfl:i=j:=zo;exact hO.irrefl _
theorem sym_split (hO:SWO lt) {d d1:Array α} {a m b s lo hi:Nat} (_ham:a<m) (hmb:m<b) (hl:SortedIn lt a m d) (hr:SortedIn lt m b d)
  (hlo:lo=if(a+b) / 2<m then(a+b) / 2+m-b else a) (hhi:hi=if(a+b) / 2<m then(a+b) / 2 else m) (h0:lo≤s) (h1:s≤hi)
  (c1:s=lo∨lt d[(a+b) / 2+m-s]! d[s-1]! = false) (c2:s=hi∨lt d[(a+b) / 2+m-1-s]! d[s]! = true)
  (hM:Moved (rotIdx s m ((a+b) / 2+m-s)) d d1) :
  (a≤s∧s≤m∧s≤(a+b) / 2∧(a+b) / 2≤(a+b) / 2+m-s∧m≤(a+b) / 2+m-s∧(a+b) / 2+m-s≤b)∧
  SortedIn lt a s d1∧SortedIn lt s ((a+b) / 2) d1∧SortedIn lt ((a+b) / 2) ((a+b) / 2+m-s) d1∧SortedIn lt ((a+b) / 2+m-s) b d1∧
  (∀i j,a≤i→i<(a+b) / 2→(a+b) / 2≤j→j<b→lt d1[j]! d1[i]! = false):=by
 obtain⟨mid,hmid⟩:∃mid,mid=(a+b) / 2:=⟨_,rfl⟩;rw[←hmid] at hlo hhi c1 c2 hM ⊢;obtain⟨t,ht⟩:∃t,t=mid+m-s:=⟨_,rfl⟩;rw[←ht] at c1 hM ⊢;have hb:a≤s∧s≤m∧s≤mid∧mid≤t∧m≤t∧t≤b:=by split at hlo<;>split at hhi<;>omega
 obtain⟨b1,b2,b3,b4,b5,b6⟩:=hb;have e:∀x,d1[x]! = d[rotIdx s m t x]!:=hM;have pA:∀x,x<s→rotIdx s m t x=x:=fun x hx=>by unfold rotIdx;rw[bB hx]
 have pB:∀x,s≤x→x<mid→rotIdx s m t x=m+(x-s):=fun x h1 h2=>by unfold rotIdx;rw[dA zo,bB zo]
 have pC:∀x,mid≤x→x<t→rotIdx s m t x=s+(x-mid):=fun x h1 h2=>by unfold rotIdx;rw[dA zo,dA zo,bB h2];omega
 have pD:∀x,t≤x→rotIdx s m t x=x:=fun x h1=>by unfold rotIdx;rw[dA zo,dA zo,dA zo]
 have cr:∀i j,(a≤i∧i<s∨m≤i∧i<t)→(s≤j∧j<m∨t≤j∧j<b)→lt d[j]! d[i]! = false:=by
  intro i j hi' hj;rcases hi' with⟨i1,i2⟩ | ⟨i1,i2⟩<;>rcases hj with⟨j1,j2⟩ | ⟨j1,j2⟩
  ·exact hl i j i1 zo j2
  ·rcases c1 with c | c
   ·exfalso;split at hlo<;>omega
   ·have x1:=SortedIn.le hO hl i1 (show i≤s-1 by omega) zo;have x2:=SortedIn.le hO hr b5 j1 j2;exact SWO.le_trans hO (SWO.le_trans hO x1 c) x2
  ·rcases c2 with c | c
   ·exfalso;split at hhi<;>omega
   ·have x1:=SortedIn.le hO hr i1 (show i≤mid+m-1-s by omega) zo;have x2:=SortedIn.le hO hl b1 j1 j2;exact SWO.asym hO (SWO.le_lt hO x1 (SWO.lt_le hO c x2))
  ·exact hr i j i1 zo j2
 refine⟨⟨b1,b2,b3,b4,b5,b6⟩,?_,?_,?_,?_,?_⟩
 ·intro i j h1 h2 h3;rw[e i,e j,pA i zo,pA j h3];exact hl i j h1 h2 zo
 ·intro i j h1 h2 h3;rw[e i,e j,pB i h1 zo,pB j zo h3];exact hr _ _ zo zo zo
 ·intro i j h1 h2 h3;rw[e i,e j,pC i h1 zo,pC j zo h3];exact hl _ _ zo zo zo
 ·intro i j h1 h2 h3;rw[e i,e j,pD i h1,pD j zo];exact hr _ _ zo h2 h3
 ·intro i j h1 h2 h3 h4;rw[e i,e j];refine cr _ _ ?_ ?_
  ·rcases eB i s with h | h
   ·rw[pA i h];exact .inl ⟨h1,h⟩
   ·rw[pB i h h2];exact .inr ⟨zo,zo⟩
  ·rcases eB j t with h | h
   ·rw[pC j h3 h];exact .inl ⟨zo,zo⟩
   ·rw[pD j h];exact .inr ⟨h,h4⟩
theorem sym_join {d1 d2 d3:Array α} {a mid b:Nat} (ham:a≤mid) (hmb:mid≤b) (hb:b≤d1.size) (hc:∀i j,a≤i→i<mid→mid≤j→j<b→lt d1[j]! d1[i]! = false)
  (p2:PermIn a mid d1 d2) (s2:SortedIn lt a mid d2) (p3:PermIn mid b d2 d3) (s3:SortedIn lt mid b d3):PermIn a b d1 d3∧SortedIn lt a b d3:=by
 have z2:d2.size=d1.size:=p2.1;refine⟨permIn_trans _ _ _ _ _ (permIn_mono _ _ _ _ _ _ (aA _) hmb hb p2) (permIn_mono _ _ _ _ _ _ ham (aA _) zo p3),fun i j h1 h2 h3=>?_⟩;rcases eB i mid with h | h
 ·rw[p3.2.1 i (.inl h)];rcases eB j mid with h' | h'
  ·rw[p3.2.1 j (.inl h')];exact s2 i j h1 h2 h'
  ·refine permIn_all d2 d3 mid b (fun y=>lt y d2[i]! = false) zo p3 (fun y y1 y2=>?_) j h' h3;rw[p2.2.1 y (.inr y1)];exact permIn_all d1 d2 a mid (fun z=>lt d1[y]! z=false) zo p2 (fun z z1 z2=>hc z y z1 z2 y1 y2) i h1 h
 ·exact s3 i j h h2 h3
theorem sym_up (hO:SWO lt) {d d':Array α} {a b i:Nat} (hi:a+1≤i) (hib:i≤b) (hr:SortedIn lt (a+1) b d) (h1:∀x,a+1≤x→x<i→lt d[x]! d[a]! = true) (h2:∀x,i≤x→x<b→lt d[x]! d[a]! = false)
  (hM:Moved (upIdx a (i-1)) d d'):SortedIn lt a b d':=by
 intro x y x1 xy y1;rw[hM x,hM y];by_cases c1:x<i-1
 ·rw[upIdx_lt x1 c1];by_cases c2:y<i-1
  ·rw[upIdx_lt zo c2];exact hr _ _ zo zo zo
  ·by_cases c3:y=i-1
   ·rw[c3,upIdx_eq];exact SWO.asym hO (h1 _ zo zo)
   ·rw[upIdx_gt zo];exact hr _ _ zo zo y1
 ·by_cases c3:x=i-1
  ·rw[c3,upIdx_eq,upIdx_gt zo];exact h2 y zo y1
  ·rw[upIdx_gt zo,upIdx_gt zo];exact hr _ _ zo xy y1
theorem sym_down (hO:SWO lt) {d d':Array α} {a m i:Nat} (hi:a≤i) (him:i≤m) (hl:SortedIn lt a m d) (h1:∀x,a≤x→x<i→lt d[m]! d[x]! = false) (h2:∀x,i≤x→x<m→lt d[m]! d[x]! = true)
  (hM:Moved (downIdx m i) d d'):SortedIn lt a (m+1) d':=by
 intro x y x1 xy y1;rw[hM x,hM y];by_cases c1:i<y
 ·rw[downIdx_gt c1 (show y≤m by omega)];by_cases c2:i<x
  ·rw[downIdx_gt c2 zo];exact hl _ _ zo zo zo
  ·by_cases c3:x=i
   ·rw[c3,downIdx_eq];exact SWO.asym hO (h2 _ zo zo)
   ·rw[downIdx_lt zo];exact hl _ _ x1 zo zo
 ·rw[downIdx_lt (show x<i by omega)];by_cases c3:y=i
  ·rw[c3,downIdx_eq];exact h1 x x1 zo
  ·rw[downIdx_lt zo];exact hl _ _ x1 xy zo
end
end Go.Proofs.YtiondclbdgijbaaGreatDoor
