/-
  The plain law of ProgramSpans: spans hold what is told of points between the bounds, and both ends are met. By hand.
-/
import Derived.Test.YtjkgjiofmgapfaaGreatDoorYPsD
import Derived.Test.YtjkgjiofmgapfaaGreatDoorYPfH
set_option maxRecDepth 100000
namespace Go.Proofs.YtjkgjiofmgapfaaGreatDoor
open Tw
theorem idx_at {X:List Fr} {a:Int} {y:Fr} (h0:¬a<0) (hy:X[a.toNat]?=some y):pget (idxP (X.map fun x=>x.q)) a=y.q:=by
 have hl:=(List.getElem?_eq_some_iff.1 hy).1;rw[idxP_get,if_pos ⟨zo,by rw[List.length_map];omega⟩,List.getD_eq_getElem?_getD,List.getElem?_map,hy];rfl
theorem span_term {V:List Vr} {X:List Fr} {t:Int×Rat} (h0:0≤t.1) (h1:t.1<(V.length:Int)) (hX:X.length=V.length) (hbt:Btw X V) :
  spT minQ (bnds V) t≤t.2*pget (idxP (X.map fun x=>x.q)) t.1∧t.2*pget (idxP (X.map fun x=>x.q)) t.1≤spT maxQ (bnds V) t:=by
 have n1:t.1.toNat<V.length:=zo;have n2:t.1.toNat<X.length:=by rw[hX];exact n1
 have n3:¬t.1<0:=zo;obtain⟨y,hy⟩:∃y,V[t.1.toNat]?=some y:=⟨V[t.1.toNat]'n1,List.getElem?_eq_getElem _⟩;obtain⟨x,hx⟩:∃x,X[t.1.toNat]?=some x:=⟨X[t.1.toNat]'n2,List.getElem?_eq_getElem _⟩;have h2:=hbt _ _ _ hx hy;have e1:spT minQ (bnds V) t=minQ (t.2*y.lo.q) (t.2*y.hi.q):=spT_at n3 hy;have e2:spT maxQ (bnds V) t=maxQ (t.2*y.lo.q) (t.2*y.hi.q):=spT_at n3 hy;have e3:=idx_at n3 hx;rw[e1,e2,e3];exact mul_between h2.1 h2.2
theorem span_le {V:List Vr} {X:List Fr} {P:List (Int×Rat)} (hb:∀t∈P,0≤t.1∧t.1<(V.length:Int)) (hX:X.length=V.length) (hbt:Btw X V) :
  spS minQ (bnds V) P≤pdot P (idxP (X.map fun x=>x.q))∧pdot P (idxP (X.map fun x=>x.q))≤spS maxQ (bnds V) P:=by
 have z:(0:Rat)≤0:=Rat.le_refl;have k1:∀t∈P,spT minQ (bnds V) t≤t.2*pget (idxP (X.map fun x=>x.q)) t.1:=fun t ht=>(span_term (hb t ht).1 (hb t ht).2 hX hbt).1;have k2:∀t∈P,t.2*pget (idxP (X.map fun x=>x.q)) t.1≤spT maxQ (bnds V) t:=fun t ht=>(span_term (hb t ht).1 (hb t ht).2 hX hbt).2;generalize idxP (X.map fun x=>x.q)=M at k1 k2 ⊢
 have a:=spS_lo z k1;have b:=spS_hi z k2;rw[Rat.zero_add] at a b;unfold spS
 exact⟨a,b⟩
open Tw
def sumTo (f:Nat→Rat):Nat→Rat
 | 0=>0
 | n+1=>sumTo f n+f n
theorem sumTo_congr {f g:Nat→Rat}:∀{n:Nat},(∀j,j<n→f j=g j)→sumTo f n=sumTo g n
 | 0,_=>rfl
 | n+1,h=>by
  show sumTo f n+f n=sumTo g n+g n
  rw[sumTo_congr (fun j hj=>h j zo),h n zo]
theorem sumTo_zero:∀n:Nat,sumTo (fun _=>0) n=0
 | 0=>rfl
 | n+1=>by
  show sumTo (fun _=>0) n+0=0
  rw[sumTo_zero n,Rat.add_zero]
theorem sumTo_add {f g:Nat→Rat}:∀n:Nat,sumTo (fun j=>f j+g j) n=sumTo f n+sumTo g n
 | 0=>(Rat.add_zero 0).symm
 | n+1=>by
  show sumTo (fun j=>f j+g j) n+(f n+g n)=sumTo f n+f n+(sumTo g n+g n)
  rw[sumTo_add n];grind
theorem sumTo_one {a:Nat} {q:Rat}:∀{n:Nat},sumTo (fun j=>if j=a then q else 0) n=if a<n then q else 0
 | 0=>rfl
 | n+1=>by
  show sumTo (fun j=>if j=a then q else 0) n+(if n=a then q else 0)=_
  rw[sumTo_one];by_cases h1:a<n
  ·rw[if_pos h1,if_neg zo,if_pos zo,Rat.add_zero]
  ·rw[if_neg h1];by_cases h2:n=a
   ·rw[if_pos h2,if_pos zo,Rat.zero_add]
   ·rw[if_neg h2,if_neg zo,Rat.add_zero]
theorem sumTo_split {f:Nat→Rat} (n:Nat):∀m:Nat,sumTo f (n+m)=sumTo f n+sumTo (fun j=>f (n+j)) m
 | 0=>(Rat.add_zero _).symm
 | m+1=>by
  show sumTo f (n+m)+f (n+m)=sumTo f n+(sumTo (fun j=>f (n+j)) m+f (n+m))
  rw[sumTo_split n m];grind
theorem pdot_sumTo {xs:List Rat} {n:Nat} (hl:xs.length=n):∀{P:List (Int×Rat)},(∀t∈P,0≤t.1∧t.1<(n:Int))→pdot P (idxP xs)=sumTo (fun j=>pget P (j:Int)*xs.getD j 0) n
 | [],_=>by
  rw[pdot_nil];rw[sumTo_congr (g:=fun _=>0) (fun j _=>by rw[pget_nil,Rat.zero_mul]),sumTo_zero]
 | t :: P,h=>by
  have h1:=h t List.mem_cons_self;rw[pdot_cons,pdot_sumTo hl (fun x hx=>h x (List.mem_cons_of_mem _ hx))];have e:sumTo (fun j=>pget (t :: P) (j:Int)*xs.getD j 0) n=sumTo (fun j=>(if j=t.1.toNat then t.2*xs.getD t.1.toNat 0 else 0)+pget P (j:Int)*xs.getD j 0) n:=by
   refine sumTo_congr fun j hj=>?_;rw[zAc];by_cases e:t.1=(j:Int)
   ·have e2:j=t.1.toNat:=zo;rw[if_pos e,if_pos e2,←e2];grind
   ·rw[if_neg e,if_neg zo,Rat.zero_add]
  rw[e,sumTo_add,sumTo_one,if_pos zo,idxP_get,if_pos ⟨h1.1,zo⟩]
def fq (F:List Fr) (j:Nat):Rat:=match F[j]? with | some x=>x.q | none=>0
def cq (CV:List Vc) (j:Nat) (a:Int):Rat:=match CV[j]? with | some v=>pget (prs v.L) a | none=>0
theorem sumF_pget {CV:List Vc} {F:List Fr} {n:Nat} (a:Int) (hc:CV.length=n) (hf:F.length=n):∀k,k≤n→pget (sumF CV F k) a=sumTo (fun j=>fq F j*cq CV j a) k
 | 0,_=>rfl
 | k+1,h=>by
  have ih:=sumF_pget a hc hf k zo;obtain⟨v,hv⟩:∃v,CV[k]?=some v:=⟨CV[k]'zo,List.getElem?_eq_getElem _⟩;obtain⟨x,hx⟩:∃x,F[k]?=some x:=⟨F[k]'zo,List.getElem?_eq_getElem _⟩;rw[sumF_at hv hx,nrm_get,pget_append,ih,pget_scale];show _=sumTo (fun j=>fq F j*cq CV j a) k+fq F k*cq CV k a
  unfold fq cq
  simp only[hv,hx]
theorem rowE_pget {R:List Rw} (hR:∀x∈R,Nrm (prs x.L)) (j i:Nat):∀n,n≤R.length→pget (rowE (frmE R n) (j:Int)) (i:Int)=if i<n then(match R[i]? with | some x=>pget (prs x.L) (j:Int) | none=>0) else 0
 | 0,_=>by rw[if_neg zo];rfl
 | n+1,h=>by
  obtain⟨x,hx⟩:∃x,R[n]?=some x:=⟨R[n]'zo,List.getElem?_eq_getElem _⟩;rw[frmE_at hx,rowE_append,pget_append,rowE_pget hR j i n zo];have e1:rowE (colE n (prs x.L)) (j:Int)=if pget (prs x.L) (j:Int)=0 then [] else [((n:Int),pget (prs x.L) (j:Int))]:=rowE_col (n:Int) (j:Int) (hR x (List.mem_of_getElem? hx));have e2:pget (rowE (colE n (prs x.L)) (j:Int)) (i:Int)=if i=n then pget (prs x.L) (j:Int) else 0:=by
   rw[e1];by_cases h0:pget (prs x.L) (j:Int)=0
   ·rw[if_pos h0,pget_nil,h0];split<;>rfl
   ·rw[if_neg h0,pget_one];by_cases h1:i=n
    ·rw[if_pos (by simp only;omega),if_pos h1]
    ·rw[if_neg (by simp only;omega),if_neg h1]
  rw[e2];by_cases h1:i<n
  ·rw[if_pos h1,if_neg zo,if_pos zo,Rat.add_zero]
  ·rw[if_neg h1];by_cases h2:i=n
   ·subst h2;rw[if_pos rfl,if_pos zo,Rat.zero_add,hx]
   ·rw[if_neg h2,if_neg zo,Rat.add_zero]
structure FullF (F:List Fr) (vn:Nat) (R:List Rw) (xs:List Rat):Prop where
 len:F.length=vn+R.length
 xl:xs.length=vn
 x:∀j,j<vn→fq F j=xs.getD j 0
 s:∀i x,R[i]?=some x→fq F (vn+i)=x.b.q-pdot (prs x.L) (idxP xs)
theorem forms_eqs {CV:List Vc} {F BB:List Fr} {R:List Rw} {vn B:Nat} {xs:List Rat} (hc:ColsF CV vn (frmE R R.length) R.length B) (hl:CV.length=vn+R.length) (hF:FullF F vn R xs)
  (hR:∀x∈R,Nrm (prs x.L)∧∀t∈prs x.L,0≤t.1∧t.1<(vn:Int)) (hB:∀i y,BB[i]?=some y→y.q=bbF R R.length i) (hBl:BB.length=R.length) :
  (eqsF (sumF CV F (vn+R.length)) BB R.length).all id=true:=by
 rw[List.all_eq_true];intro b hb;obtain⟨i,hi⟩:=List.getElem?_of_mem hb;have hin:i<R.length:=by
  have:=(List.getElem?_eq_some_iff.1 hi).1;unfold eqsF at this
  rwa [List.length_map,List.length_range] at this
 obtain⟨y,hy⟩:∃y,BB[i]?=some y:=⟨BB[i]'zo,List.getElem?_eq_getElem _⟩;obtain⟨x,hx⟩:∃x,R[i]?=some x:=⟨R[i]'hin,List.getElem?_eq_getElem _⟩;rw[eqsF_at hin hy] at hi;obtain rfl:=Option.some.inj hi;show decide _=true
 rw[decide_eq_true_eq,sumF_pget (i:Int) hl hF.len _ (Nat.le_refl _),sumTo_split,hB i y hy];have hxm:=hR x (List.mem_of_getElem? hx);have e1:sumTo (fun j=>fq F j*cq CV j (i:Int)) vn=pdot (prs x.L) (idxP xs):=by
  rw[pdot_sumTo hF.xl hxm.2];refine sumTo_congr fun j hj=>?_;obtain⟨v,hv⟩:∃v,CV[j]?=some v:=⟨CV[j]'zo,List.getElem?_eq_getElem _⟩;have h2:cq CV j (i:Int)=pget (prs x.L) (j:Int):=by
   unfold cq
   simp only[hv]
   rw[hc.e j v hv hj,rowE_pget (fun u hu=>(hR u hu).1) j i _ (Nat.le_refl _),if_pos hin];simp only[hx]
  rw[h2,hF.x j hj,Rat.mul_comm]
 have e2:sumTo (fun j=>fq F (vn+j)*cq CV (vn+j) (i:Int)) R.length=fq F (vn+i):=by
  have h3:sumTo (fun j=>fq F (vn+j)*cq CV (vn+j) (i:Int)) R.length=sumTo (fun j=>if j=i then fq F (vn+i) else 0) R.length:=by
   refine sumTo_congr fun j hj=>?_;obtain⟨v,hv⟩:∃v,CV[vn+j]?=some v:=⟨CV[vn+j]'zo,List.getElem?_eq_getElem _⟩;have h2:cq CV (vn+j) (i:Int)=if j=i then 1 else 0:=by
    unfold cq
    simp only[hv]
    rw[hc.s (vn+j) v hv zo zo,show vn+j-vn=j by omega,pget_one];by_cases h4:j=i
    ·rw[if_pos h4,if_pos (by simp only;omega)]
    ·rw[if_neg h4,if_neg (by simp only;omega)]
   rw[h2];by_cases h4:j=i
   ·rw[if_pos h4,if_pos h4,Rat.mul_one,h4]
   ·rw[if_neg h4,if_neg h4,Rat.mul_zero]
  rw[h3,sumTo_one,if_pos hin]
 rw[e1,e2,hF.s i x hx];unfold bbF
 rw[if_pos hin];simp only[hx]
 grind
theorem forms_cost {F CO:List Fr} {C:List Tm} {R:List Rw} {vn:Nat} {xs:List Rat} (hF:FullF F vn R xs) (hC:∀t∈prs C,0≤t.1∧t.1<(vn:Int)) (hCO:∀j y,CO[j]?=some y→y.q=coF C C.length j) (hl:CO.length=vn+R.length) :
  sumTo (fun j=>fq CO j*fq F j) (vn+R.length)=pdot (prs C) (idxP xs):=by
 have ec:∀j,j<vn+R.length→fq CO j=pget (prs C) (j:Int):=fun j hj=>by
  obtain⟨y,hy⟩:∃y,CO[j]?=some y:=⟨CO[j]'zo,List.getElem?_eq_getElem _⟩;have h1:=hCO j y hy;unfold coF at h1
  rw[List.take_length] at h1;unfold fq
  simp only[hy]
  exact h1
 rw[sumTo_split,pdot_sumTo hF.xl hC];have e2:sumTo (fun j=>fq CO (vn+j)*fq F (vn+j)) R.length=0:=by
  rw[sumTo_congr (g:=fun _=>0) (fun j hj=>by rw[ec (vn+j) zo,pget_none (fun t ht=>by have:=hC t ht;omega),Rat.zero_mul]),sumTo_zero]
 rw[e2,Rat.add_zero];exact sumTo_congr fun j hj=>by rw[ec j zo,hF.x j hj]
theorem cmpQ_neg (a b:Rat):cmpQ a b<0↔a<b:=by
 unfold cmpQ
 by_cases h:a<b
 ·rw[if_pos h];exact⟨fun _=>h,fun _=>by decide⟩
 ·rw[if_neg h];by_cases h2:a=b
  ·rw[if_pos h2];exact⟨fun h3=>absurd h3 zda,fun h3=>absurd h3 h⟩
  ·rw[if_neg h2];exact⟨fun h3=>absurd h3 zda,fun h3=>absurd h3 h⟩
theorem cmpQ_pos (a b:Rat):0<cmpQ a b↔b<a:=by
 unfold cmpQ
 by_cases h:a<b
 ·rw[if_pos h];exact⟨fun h3=>absurd h3 zda,fun h3=>by grind⟩
 ·rw[if_neg h];by_cases h2:a=b
  ·rw[if_pos h2];exact⟨fun h3=>absurd h3 zda,fun h3=>by grind⟩
  ·rw[if_neg h2];exact⟨fun _=>by grind,fun _=>by decide⟩
theorem slack_in {V:List Vr} {x:Rw} {d:Rat} (hk:x.kind=1∨x.kind=2∨x.kind=3) (h1:spS minQ (bnds V) (prs x.L)≤d) (h2:d≤spS maxQ (bnds V) (prs x.L)) :
  (!(decide (cmpQ (x.b.q-d) (slackF V x).1<0) || decide (0<cmpQ (x.b.q-d) (slackF V x).2)))=holdsQ x d:=by
 have key:∀u lo hi:Rat,(!(decide (cmpQ u lo<0) || decide (0<cmpQ u hi)))=(!(decide (u<lo) || decide (hi<u))):=fun u lo hi=>by
  rw[decide_eq_decide.2 (cmpQ_neg u lo),decide_eq_decide.2 (cmpQ_pos u hi)]
 rw[key];clear key;have c1:∀a b:Rat,(decide (cmpQ a b≤0))=!decide (b<a):=fun a b=>by
  have:=cmpQ_pos a b;by_cases h:b<a
  ·rw[decide_eq_true h,decide_eq_false (zi (this.2 h))];rfl
  ·rw[decide_eq_false h,decide_eq_true (by by_cases h3:0<cmpQ a b;exact absurd (this.1 h3) h;omega)];rfl
 have c2:∀a b:Rat,(decide (0≤cmpQ a b))=!decide (a<b):=fun a b=>by
  have:=cmpQ_neg a b;by_cases h:a<b
  ·rw[decide_eq_true h,decide_eq_false (zi (this.2 h))];rfl
  ·rw[decide_eq_false h,decide_eq_true (by by_cases h3:cmpQ a b<0;exact absurd (this.1 h3) h;omega)];rfl
 rcases hk with hk | hk | hk
 ·have e:slackF V x=(0,maxQ (x.b.q-spS minQ (bnds V) (prs x.L)) 0):=by unfold slackF;rw[if_pos hk]
  have e2:holdsQ x d=decide (cmpQ d x.b.q≤0):=by unfold holdsQ;rw[if_pos hk]
  rw[e2,c1,e];show(!(decide (x.b.q-d<0) || decide (maxQ (x.b.q-spS minQ (bnds V) (prs x.L)) 0<x.b.q-d)))=_
  have h3:¬maxQ (x.b.q-spS minQ (bnds V) (prs x.L)) 0<x.b.q-d:=by unfold maxQ;split<;>grind
  rw[decide_eq_false h3,Bool.or_false,decide_eq_decide.2 (show x.b.q-d<0↔x.b.q<d by constructor<;>intro h<;>grind)]
 ·have e:slackF V x=(0,0):=by unfold slackF;rw[if_neg zo,if_neg zo]
  have e2:holdsQ x d=(cmpQ d x.b.q==0):=by unfold holdsQ;rw[if_neg zo,if_pos hk]
  rw[e2,cmpQ_zero,e];show(!(decide (x.b.q-d<0) || decide (0<x.b.q-d)))=_
  by_cases h3:d=x.b.q
  ·rw[decide_eq_true h3,decide_eq_false (show ¬x.b.q-d<0 by grind),decide_eq_false (show ¬0<x.b.q-d by grind)];rfl
  ·rw[decide_eq_false h3];by_cases h5:x.b.q-d<0
   ·rw[decide_eq_true h5];rfl
   ·rw[decide_eq_false h5,decide_eq_true (show 0<x.b.q-d by grind)];rfl
 ·have e:slackF V x=(minQ (x.b.q-spS maxQ (bnds V) (prs x.L)) 0,0):=by unfold slackF;rw[if_neg zo,if_pos hk]
  have e2:holdsQ x d=decide (0≤cmpQ d x.b.q):=by unfold holdsQ;rw[if_neg zo,if_neg zo,if_pos hk]
  rw[e2,c2,e];show(!(decide (x.b.q-d<minQ (x.b.q-spS maxQ (bnds V) (prs x.L)) 0) || decide (0<x.b.q-d)))=_
  have h3:¬x.b.q-d<minQ (x.b.q-spS maxQ (bnds V) (prs x.L)) 0:=by unfold minQ;split<;>grind
  rw[decide_eq_false h3,Bool.false_or,decide_eq_decide.2 (show 0<x.b.q-d↔d<x.b.q by constructor<;>intro h<;>grind)]
theorem fq_of {F:List Fr} {j:Nat} {f:Fr} (h:F[j]?=some f):fq F j=f.q:=by unfold fq;rw[h]
structure RightR (R:List Rw) (vn:Nat):Prop where
 kind:∀x∈R,x.kind=1∨x.kind=2∨x.kind=3
 rise:∀x∈R,Nrm (prs x.L)∧∀t∈prs x.L,0≤t.1∧t.1<(vn:Int)
structure BndF (V:List Vr) (R:List Rw) (LO HI:List Fr):Prop where
 ll:LO.length=V.length+R.length
 hl:HI.length=V.length+R.length
 lo:∀j y,LO[j]?=some y→y.q=loF V R V.length R.length j
 hi:∀j y,HI[j]?=some y→y.q=hiF V R V.length R.length j
theorem zip_at {F LO HI:List Fr} {n j:Nat} (hF:F.length=n) (hl:LO.length=n) (hh:HI.length=n) (hj:j<n):∃f l h,F[j]?=some f∧LO[j]?=some l∧HI[j]?=some h∧(F.zip (LO.zip HI))[j]?=some (f,(l,h)):=by
 refine⟨F[j]'zo,LO[j]'zo,HI[j]'zo,List.getElem?_eq_getElem _,List.getElem?_eq_getElem _,List.getElem?_eq_getElem _,?_⟩;rw[List.getElem?_zip_eq_some,List.getElem?_zip_eq_some];exact⟨List.getElem?_eq_getElem _,List.getElem?_eq_getElem _,List.getElem?_eq_getElem _⟩
theorem inB_var {V:List Vr} {R:List Rw} {F LO HI X:List Fr} (hF:FullF F V.length R (X.map fun x=>x.q)) (hb:BndF V R LO HI) {j:Nat} {y:Vr} {x:Fr} (hy:V[j]?=some y) (hx:X[j]?=some x) :
  ∃z,(F.zip (LO.zip HI))[j]?=some z∧inB z=!outB (y,x):=by
 have hj:=(List.getElem?_eq_some_iff.1 hy).1;obtain⟨f,l,h,e1,e2,e3,e4⟩:=zip_at hF.len hb.ll hb.hl (show j<V.length+R.length by omega);refine⟨_,e4,?_⟩;have q1:f.q=x.q:=by
  rw[←fq_of e1,hF.x j hj,List.getD_eq_getElem?_getD,List.getElem?_map,hx];rfl
 have q2:l.q=y.lo.q:=by
  rw[hb.lo j l e2];unfold loF
  rw[if_pos hj,hy]
 have q3:h.q=y.hi.q:=by
  rw[hb.hi j h e3];unfold hiF
  rw[if_pos hj,hy]
 unfold inB outB
 simp only
 rw[q1,q2,q3]
theorem inB_row {V:List Vr} {R:List Rw} {F LO HI X:List Fr} (hF:FullF F V.length R (X.map fun x=>x.q)) (hb:BndF V R LO HI) (hR:RightR R V.length) (hX:X.length=V.length) (hbt:Btw X V) {i:Nat} {x:Rw} (hx:R[i]?=some x) :
  ∃z,(F.zip (LO.zip HI))[V.length+i]?=some z∧inB z=holdsQ x (pdot (prs x.L) (idxP (X.map fun x=>x.q))):=by
 have hj:=(List.getElem?_eq_some_iff.1 hx).1;obtain⟨f,l,h,e1,e2,e3,e4⟩:=zip_at hF.len hb.ll hb.hl (show V.length+i<V.length+R.length by omega);refine⟨_,e4,?_⟩;have hm:=List.mem_of_getElem? hx;have q1:f.q=x.b.q-pdot (prs x.L) (idxP (X.map fun x=>x.q)):=by rw[←fq_of e1];exact hF.s i x hx
 have q2:l.q=(slackF V x).1:=by
  rw[hb.lo _ l e2];unfold loF
  rw[if_neg zo,if_pos zo,show V.length+i-V.length=i by omega,hx]
 have q3:h.q=(slackF V x).2:=by
  rw[hb.hi _ h e3];unfold hiF
  rw[if_neg zo,if_pos zo,show V.length+i-V.length=i by omega,hx]
 have hs:=span_le (hR.rise x hm).2 hX hbt;rw[←slack_in (hR.kind x hm) hs.1 hs.2];unfold inB
 simp only
 rw[q1,q2,q3]
theorem forms_bounds {V:List Vr} {R:List Rw} {F LO HI X:List Fr} (hF:FullF F V.length R (X.map fun x=>x.q)) (hb:BndF V R LO HI) (hR:RightR R V.length) (hX:X.length=V.length) {u v:Int} (hu:brokenF V R X=(u,v)) :
  (F.zip (LO.zip HI)).all inB=(u==0 || u==3):=by
 unfold brokenF at hu
 rw[if_pos hX] at hu;have bad:∀{j z},(F.zip (LO.zip HI))[j]?=some z→inB z=false→(F.zip (LO.zip HI)).all inB=false:=fun h1 h2=>List.all_eq_false.2 ⟨_,List.mem_of_getElem? h1,by rw[h2];simp⟩;cases h1:(V.zip X).findIdx? outB with
 | some j =>
  rw[h1] at hu;simp only at hu
  obtain rfl:u=1:=(congrArg Prod.fst hu).symm;obtain⟨hj,ho,_⟩:=List.findIdx?_eq_some_iff_getElem.1 h1;rw[List.length_zip] at hj;obtain⟨y,hy⟩:∃y,V[j]?=some y:=⟨V[j]'zo,List.getElem?_eq_getElem _⟩;obtain⟨x,hx⟩:∃x,X[j]?=some x:=⟨X[j]'zo,List.getElem?_eq_getElem _⟩;obtain⟨z,hz,hi⟩:=inB_var hF hb hy hx;have ho2:outB (y,x)=true:=by
   rw[List.getElem_zip] at ho;obtain⟨_,rfl⟩:=List.getElem?_eq_some_iff.1 hy;obtain⟨_,rfl⟩:=List.getElem?_eq_some_iff.1 hx;exact ho
  rw[bad hz (by rw[hi,ho2];rfl)];rfl
 | none =>
  rw[h1] at hu;simp only at hu
  have hin:=List.findIdx?_eq_none_iff.1 h1;have hin2:∀j y x,V[j]?=some y→X[j]?=some x→outB (y,x)=false:=fun j y x hy hx=>hin (y,x) (List.mem_of_getElem? (i:=j) (by rw[List.getElem?_zip_eq_some];exact⟨hy,hx⟩));have hbt:Btw X V:=fun j x y hx hy=>by
   have h2:=hin2 j y x hy hx;unfold outB at h2
   simp only at h2
   rw[Bool.or_eq_false_iff,decide_eq_false_iff_not,decide_eq_false_iff_not,cmpQ_neg,cmpQ_pos] at h2;exact⟨Rat.not_lt.1 h2.1,Rat.not_lt.1 h2.2⟩
  cases h2:R.findIdx? (fun x=>!holdsQ x (pdot (prs x.L) (idxP (X.map fun x=>x.q)))) with
  | some i =>
   rw[h2] at hu;simp only at hu
   obtain rfl:u=2:=(congrArg Prod.fst hu).symm;obtain⟨hi,ho,_⟩:=List.findIdx?_eq_some_iff_getElem.1 h2;obtain⟨z,hz,hq⟩:=inB_row hF hb hR hX hbt (List.getElem?_eq_getElem hi);rw[Bool.not_eq_true'] at ho;rw[bad hz (by rw[hq];exact ho)];rfl
  | none =>
   rw[h2] at hu;simp only at hu
   have hrow:=List.findIdx?_eq_none_iff.1 h2;have hall:(F.zip (LO.zip HI)).all inB=true:=by
    rw[List.all_eq_true];intro z hz;obtain⟨j,hj⟩:=List.getElem?_of_mem hz;have hjl:=(List.getElem?_eq_some_iff.1 hj).1;rw[List.length_zip,List.length_zip,hF.len,hb.ll,hb.hl] at hjl;by_cases e:j<V.length
    ·obtain⟨y,hy⟩:∃y,V[j]?=some y:=⟨V[j]'e,List.getElem?_eq_getElem _⟩;obtain⟨x,hx⟩:∃x,X[j]?=some x:=⟨X[j]'zo,List.getElem?_eq_getElem _⟩;obtain⟨z',hz',hq⟩:=inB_var hF hb hy hx;obtain rfl:=Option.some.inj (hz'.symm.trans hj);rw[hq,hin2 j y x hy hx];rfl
    ·obtain⟨x,hx⟩:∃x,R[j-V.length]?=some x:=⟨R[j-V.length]'zo,List.getElem?_eq_getElem _⟩;obtain⟨z',hz',hq⟩:=inB_row hF hb hR hX hbt hx;rw[show V.length+(j-V.length)=j by omega] at hz';obtain rfl:=Option.some.inj (hz'.symm.trans hj);rw[hq];have:=hrow x (List.mem_of_getElem? hx);rwa [Bool.not_eq_false'] at this
   rw[hall];cases h3:(V.zip X).findIdx? fracB with
   | some i =>
    rw[h3] at hu;simp only at hu
    obtain rfl:u=3:=(congrArg Prod.fst hu).symm;rfl
   | none =>
    rw[h3] at hu;simp only at hu
    obtain rfl:u=0:=(congrArg Prod.fst hu).symm;rfl
theorem rowE_rise {R:List Rw} (hR:∀x∈R,Nrm (prs x.L)) (j:Int):∀n,n≤R.length→Rise (rowE (frmE R n) j)∧(rowE (frmE R n) j).length≤n∧∀t∈rowE (frmE R n) j,t.1<(n:Int)
 | 0,_=>⟨List.Pairwise.nil,Nat.zero_le _,fun t ht=>by cases ht⟩
 | n+1,h=>by
  obtain⟨h1,h2,h3⟩:=rowE_rise hR j n zo;obtain⟨x,hx⟩:∃x,R[n]?=some x:=⟨R[n]'zo,List.getElem?_eq_getElem _⟩;have e1:rowE (colE n (prs x.L)) j=if pget (prs x.L) j=0 then [] else [((n:Int),pget (prs x.L) j)]:=rowE_col (n:Int) j (hR x (List.mem_of_getElem? hx));rw[frmE_at hx,rowE_append,e1];by_cases h0:pget (prs x.L) j=0
  ·rw[if_pos h0,List.append_nil];exact⟨h1,zo,fun t ht=>by have:=h3 t ht;omega⟩
  ·rw[if_neg h0];refine⟨List.pairwise_append.2 ⟨h1,List.pairwise_singleton _ _,fun a ha b hb=>?_⟩,by rw[List.length_append,List.length_singleton];omega,fun t ht=>?_⟩
   ·rw[List.mem_singleton.1 hb];exact h3 a ha
   ·rcases List.mem_append.1 ht with ht | ht
    ·have:=h3 t ht;omega
    ·rw[List.mem_singleton.1 ht];simp only;omega
theorem cols_ok {CV:List Vc} {R:List Rw} {vn B:Nat} (hc:ColsF CV vn (frmE R R.length) R.length B) (hl:CV.length=vn+R.length) (hR:RightR R vn) (h12:R.length≤12):∀v∈CV,v.L.length≤12∧Rise (prs v.L):=fun v hv=>by
 obtain⟨a,ha⟩:=List.getElem?_of_mem hv;have hal:=(List.getElem?_eq_some_iff.1 ha).1;by_cases e:a<vn
 ·have h1:=hc.e a v ha e;obtain⟨h2,h3,_⟩:=rowE_rise (fun x hx=>(hR.rise x hx).1) (a:Int) R.length (Nat.le_refl _);rw[←h1] at h2 h3;rw[prs_len] at h3;exact⟨zo,h2⟩
 ·have h1:=hc.s a v ha zo zo;have h4:=congrArg List.length h1;rw[prs_len] at h4;rw[h1];exact⟨by rw[h4,List.length_singleton];omega,List.pairwise_singleton _ _⟩
theorem rightP_rows {p:Pg} (h:rightP p=true):RightR p.R p.vn:=by
 refine⟨fun x hx=>?_,fun x hx=>?_⟩
 ·unfold rightP at h
  simp only[Bool.and_eq_true,decide_eq_true_eq,List.all_eq_true] at h
  have h1:=h.2.2.1 x hx;unfold stdB at h1
  simp only[Bool.and_eq_true,Bool.or_eq_true,decide_eq_true_eq] at h1
  omega
 ·have h1:=rightB_nrm ((rightP_parts h).2.2.1 x hx);refine⟨h1.1,fun t ht=>?_⟩;obtain⟨u,hu,rfl⟩:=prs_mem ht;exact⟨(h1.2 u hu).1,(h1.2 u hu).2.1⟩
theorem NumsF.all {w:World} {K:Nat} {L:List Fr} {f:Nat→Rat} (h:NumsF w K L f):AllRn w K L:=fun x hx=>by
 obtain⟨i,hi⟩:=List.getElem?_of_mem hx;have:=h i x hi;exact⟨this.1,this.2.1,this.2.2.1⟩
theorem forms_all {w:World} {V:List Vr} {R:List Rw} {F LO HI BB X:List Fr} {CV:List Vc} {vn rn N B K:Nat} {u v:Int} (hv:V.length=vn) (hr:R.length=rn) (hN:vn+rn=N) (hc:ColsF CV vn (frmE R rn) rn B) (hl:CV.length=N) (h1:LO.length=N) (h2:HI.length=N) (h3:BB.length=rn)
  (hlo:NumsF w K LO (loF V R vn rn)) (hhi:NumsF w K HI (hiF V R vn rn)) (hbb:NumsF w K BB (bbF R rn)) (hF:FullF F vn R (X.map fun x=>x.q)) (hX:X.length=vn) (hR:RightR R vn) (hu:brokenF V R X=(u,v)):holdsF CV LO HI BB F N rn=(u==0 || u==3):=by
 subst hv;subst hr;subst hN;unfold holdsF
 rw[forms_bounds hF ⟨h1,h2,fun j y h=>(hlo j y h).2.2.2,fun j y h=>(hhi j y h).2.2.2⟩ hR hX hu,forms_eqs hc hl hF hR.rise (fun i y h=>(hbb i y h).2.2.2) h3,Bool.and_true]
open Go.ChangeShapes Go.WideShapes Go.ChangeAt Go.RowKit Tw
variable {H:Type} {enc:TypeId×Value→H} {W:World} {b:Nat} {sp:Nat→Bool} {hd:Bool} {fuel:Nat} {y:DataW H×List MemPlace}
theorem var_bulk {x:Vr} (hf:DataW.trod enc Tryz.prog W b sp hd fuel 44 x.cs=some y):(x.lo.l≤Rows.uptoBulk y.1∧x.lo.l'≤Rows.uptoBulk y.1)∧x.hi.l≤Rows.uptoBulk y.1∧x.hi.l'≤Rows.uptoBulk y.1:=by
 have hC0:Tryz.prog.cellsOf 33=4:=by kernel_rfl
 obtain⟨xs,n,_,rfl,_,hx,hi⟩:=DataW.trod_struct Tryz.underlying44 hf;obtain⟨z0,e0⟩:∃z,xs[0]?=some z:=⟨xs[0]'(by have:xs.length=3:=hx;omega),List.getElem?_eq_getElem _⟩;obtain⟨z1,e1⟩:∃z,xs[1]?=some z:=⟨xs[1]'(by have:xs.length=3:=hx;omega),List.getElem?_eq_getElem _⟩;have h0:=(hi 0 _ rfl).trans e0;have h1:=(hi 1 _ rfl).trans e1;simp[hC0,Vr.cs] at h0 h1
 have k0:=rat_bulk (x:=x.lo) h0;have k1:=rat_bulk (x:=x.hi) h1;have g0:Rows.uptoBulk z0.1≤Rows.uptoBulk (.agg (xs.map (·.1))):=bulk_agg (List.mem_map.2 ⟨z0,List.mem_of_getElem? e0,rfl⟩);have g1:Rows.uptoBulk z1.1≤Rows.uptoBulk (.agg (xs.map (·.1))):=bulk_agg (List.mem_map.2 ⟨z1,List.mem_of_getElem? e1,rfl⟩);exact⟨⟨Nat.le_trans k0.1 g0,Nat.le_trans k0.2 g0⟩,Nat.le_trans k1.1 g1,Nat.le_trans k1.2 g1⟩
theorem row_bulk2 {x:Rw} (hf:DataW.trod enc Tryz.prog W b sp hd fuel 35 x.cs=some y) (hL:Sl Tm.cs 5 W x.A x.n x.c x.L):(∀t∈x.L,t.x.l≤Rows.uptoBulk y.1∧t.x.l'≤Rows.uptoBulk y.1)∧x.b.l≤Rows.uptoBulk y.1∧x.b.l'≤Rows.uptoBulk y.1:=by
 have hC0:Tryz.prog.cellsOf 25=1:=by kernel_rfl
 have hC2:Tryz.prog.cellsOf 33=4:=by kernel_rfl
 obtain⟨xs,n,_,rfl,_,hx,hi⟩:=DataW.trod_struct Tryz.underlying35 hf;obtain⟨z0,e0⟩:∃z,xs[0]?=some z:=⟨xs[0]'(by have:xs.length=3:=hx;omega),List.getElem?_eq_getElem _⟩;obtain⟨z2,e2⟩:∃z,xs[2]?=some z:=⟨xs[2]'(by have:xs.length=3:=hx;omega),List.getElem?_eq_getElem _⟩;have h0:=(hi 0 _ rfl).trans e0;have h2:=(hi 2 _ rfl).trans e2;simp[hC0,Rw.cs] at h0
 simp[hC2,Rw.cs] at h2
 have k0:=(vec_bulk h0 hL).2;have k2:=rat_bulk (x:=x.b) h2;have g0:Rows.uptoBulk z0.1≤Rows.uptoBulk (.agg (xs.map (·.1))):=bulk_agg (List.mem_map.2 ⟨z0,List.mem_of_getElem? e0,rfl⟩);have g2:Rows.uptoBulk z2.1≤Rows.uptoBulk (.agg (xs.map (·.1))):=bulk_agg (List.mem_map.2 ⟨z2,List.mem_of_getElem? e2,rfl⟩);exact⟨fun t ht=>⟨Nat.le_trans (k0 t ht).1 g0,Nat.le_trans (k0 t ht).2 g0⟩,Nat.le_trans k2.1 g2,Nat.le_trans k2.2 g2⟩
theorem pgok_of {K:Nat} {q:Pg} (hf:DataW.trod enc Tryz.prog W b sp hd fuel 27 q.cs=some y) (hi0:PgIn W K q) (hK:K≤2000000) (hb:Rows.uptoBulk y.1≤K):PgOk W K q:=by
 have hC0:Tryz.prog.cellsOf 22=1:=by kernel_rfl
 have hC1:Tryz.prog.cellsOf 23=1:=by kernel_rfl
 have hC2:Tryz.prog.cellsOf 25=1:=by kernel_rfl
 obtain⟨xs,n,_,rfl,_,hx,hi⟩:=DataW.trod_struct Tryz.underlying27 hf;have g:∀k,k<3→∃z,xs[k]?=some z:=fun k hk=>⟨xs[k]'(by have:xs.length=3:=hx;omega),List.getElem?_eq_getElem _⟩;obtain⟨z0,e0⟩:=g 0 zo;obtain⟨z1,e1⟩:=g 1 zo;obtain⟨z2,e2⟩:=g 2 zo;have h0:=(hi 0 _ rfl).trans e0;have h1:=(hi 1 _ rfl).trans e1;have h2:=(hi 2 _ rfl).trans e2;simp[hC0,Pg.cs] at h0
 simp[hC1,Pg.cs] at h1
 simp[hC2,Pg.cs] at h2
 have gb:∀{k:Nat} {z:DataW H×List MemPlace},xs[k]?=some z→Rows.uptoBulk z.1≤K:=fun e=>Nat.le_trans (bulk_agg (List.mem_map.2 ⟨_,List.mem_of_getElem? e,rfl⟩)) hb;have b0:=slice_bulk Tryz.underlying22 (by kernel_rfl) Vr.cs_len h0 hi0.vsl;have b1:=slice_bulk Tryz.underlying23 (by kernel_rfl) Rw.cs_len h1 hi0.rsl;have b2:=vec_bulk h2 hi0.csl;refine⟨hi0.vsl,fun x k=>?_,hi0.rsl,fun x k=>?_,hi0.csl,fun t k=>(hi0.c t k).1.ok ⟨Nat.le_trans (b2.2 t k).1 (gb e2),Nat.le_trans (b2.2 t k).2 (gb e2)⟩,⟨Nat.le_trans hi0.ns.1 hK,Nat.le_trans hi0.ns.2.1 hK,Nat.le_trans hi0.ns.2.2 hK⟩,hi0.nil⟩
 ·obtain⟨fl,z,h3,h4⟩:=b0.2 x k;have h5:=var_bulk h3;have h6:=Nat.le_trans h4 (gb e0);exact⟨(hi0.v x k).1.ok ⟨Nat.le_trans h5.1.1 h6,Nat.le_trans h5.1.2 h6⟩,(hi0.v x k).2.ok ⟨Nat.le_trans h5.2.1 h6,Nat.le_trans h5.2.2 h6⟩⟩
 ·obtain⟨fl,z,h3,h4⟩:=b1.2 x k;obtain⟨r1,r2⟩:=hi0.r x k;have h5:=row_bulk2 h3 r1.sl;have h6:=Nat.le_trans h4 (gb e1);exact⟨r1.sl,fun t ht=>(r1.t t ht).1.ok ⟨Nat.le_trans (h5.1 t ht).1 h6,Nat.le_trans (h5.1 t ht).2 h6⟩,Nat.le_trans r2 hK,r1.nil,r1.b.ok ⟨Nat.le_trans h5.2.1 h6,Nat.le_trans h5.2.2 h6⟩⟩
end Go.Proofs.YtjkgjiofmgapfaaGreatDoor
