import Derived.Test.YtiondclbdgijbaaGreatDoorYZSched
import Derived.Test.YtiondclbdgijbaaGreatDoorYZMem
namespace Go.Proofs.YtiondclbdgijbaaGreatDoor
open Go.RowKit
namespace Reg
def cnt (l:Array Bool):Nat→Nat
 | 0=>0
 | n+1=>cnt l n+if l.getD n false then 0 else 1
def firstN (n s:Nat):Array Bool:=((List.range s).map fun i=>decide (i<n)).toArray
theorem cnt_out {l:Array Bool} {i:Nat}:∀{n:Nat},n≤i→cnt (l.setIfInBounds i true) n=cnt l n
 | 0,_=>rfl
 | n+1,h=>by
  unfold cnt
  rw[cnt_out zo,getD_set_ne false zo]
theorem set_self {l:Array Bool} {i:Nat} (h:i<l.size):(l.setIfInBounds i true).getD i false=true:=by simp[h]
theorem cnt_set {l:Array Bool} {i:Nat} (hi:i<l.size) (h:l.getD i false=false):∀{n:Nat},i<n→cnt (l.setIfInBounds i true) n+1=cnt l n
 | 0,h=>absurd h (mF _)
 | n+1,hn=>by
  unfold cnt
  by_cases e:i=n
  ·subst e;rw[cnt_out (aA _),set_self hi,h];simp
  ·rw[getD_set_ne false e];have:=cnt_set hi h (n:=n) zo;omega
theorem cnt_zero {l:Array Bool}:∀{n:Nat},cnt l n=0→∀i,i<n→l.getD i false=true
 | 0,_,i,h=>absurd h (mF _)
 | n+1,h,i,hi=>by
  unfold cnt at h
  by_cases e:i=n
  ·subst e;cases hl:l.getD i false
   ·rw[hl] at h;simp at h
   ·rfl
  ·exact cnt_zero (n:=n) zo i zo
theorem cnt_pos {l:Array Bool}:∀{n:Nat},0<cnt l n→∃i,i<n∧l.getD i false=false∧∀j,j<i→l.getD j false=true
 | 0,h=>absurd h (mF _)
 | n+1,h=>by
  rcases qC (cnt l n) with e | e
  ·refine⟨n,gF n,?_,fun j hj=>cnt_zero e j hj⟩;unfold cnt at h
   rw[e] at h;cases hl:l.getD n false
   ·rfl
   ·rw[hl] at h;simp at h
  ·obtain⟨i,h1,h2,h3⟩:=cnt_pos e;exact⟨i,zo,h2,h3⟩
theorem getD_size {l:Array Bool} {i:Nat} (h:i<l.size) (d d':Bool):l.getD i d=l.getD i d':=by simp[h]
section
variable {P:Program} {ops:Array Oper} {Q:Exit→Act→World→Prop} {md:Region.Mode}
def regOk (md:Region.Mode) (ops:Array Oper) (n N:Nat):Bool :=
 decide (n≤ops.size)&&((List.range n).all fun i=>(ops[i]?).any fun o=>(o.guard==none)&&(o.after.all fun e=>decide (e.on<i))&&(match o.dst with | none=>false | some d=>decide (d<N)) &&
  ((List.range n).all fun j=>(i==j) || (ops[j]?).any fun o'=>o'.dst != o.dst)) &&
 ((List.range ops.size).all fun k=>decide (k<n) || (List.range n).all fun j=>ancB md ops j ops.size k)
theorem wpAny_inv {n:Nat} {Inv:Array Bool→Act→World→Prop}
  (hb:∀i o,i<n→ops[i]?=some o→∀e∈o.after,e.on<i) (hn:n≤ops.size)
  (ht:∀k,n≤k→k<ops.size→∀j,j<n→ancB md ops j ops.size k=true)
  (hstep:∀i o l a w,i<n→ops[i]?=some o→l.size=ops.size→l.getD i false=false→(∀e∈o.after,Region.binds md e=true→l.getD e.on false=true)→Inv l a w→wpOp P ops Q i (fun a' w'=>Inv (l.setIfInBounds i true) a' w') a w)
  (hend:∀a w,Closed md ops (firstN n ops.size)→Inv (firstN n ops.size) a w→wpAny P md ops Q (ops.size-n) (firstN n ops.size) a w) :
  ∀k l a w,Closed md ops l→l.size=ops.size→(∀i,n≤i→l.getD i false=false)→cnt l n=k→Inv l a w→wpAny P md ops Q (k+(ops.size-n)) l a w
 | 0,l,a,w,hc,hs,hu,hk,hi=>by
  have e:l=firstN n ops.size:=by
   apply Array.ext_getElem?
   intro i;unfold firstN
   by_cases h:i<ops.size
   ·have h1:l[i]?=some (l.getD i false):=by simp[hs,h]
    rw[h1];rw[fF,mA,List.getElem?_range h];by_cases h2:i<n
    ·rw[cnt_zero hk i h2];simp[h2]
    ·rw[hu i zo];simp[h2]
   ·rw[gD zo];rw[fF,cB (by simp;omega)]
  subst e;rw[mC];exact hend a w hc hi
 | k+1,l,a,w,hc,hs,hu,hk,hi=>by
  rw[Nat.add_right_comm];obtain⟨m,m1,m2,m3⟩:=cnt_pos (l:=l) (n:=n) zo;refine⟨fun h=>?_,fun i hi'=>?_⟩
  ·have:m∈Region.ready md ops l:=by
    have hm:m<ops.size:=zo;refine mem_ready.2 ⟨by rw[getD_size zo true false];exact m2,ops[m],nD hm,fun e he hb'=>m3 _ (hb m _ m1 (nD hm) e he)⟩
   rw[h] at this;cases this
  ·obtain⟨h1,o,ho,hall⟩:=mem_ready.1 hi';have hsz:i<ops.size:=(wE.1 ho).1;have hin:i<n:=by
    rcases eB i n with h | h
    ·exact h
    ·have:=anc_listed hc ops.size i o ho (ht i h hsz m m1) hall;rw[m2] at this;cases this
   have h2:l.getD i false=false:=by rw[getD_size zo false true];exact h1
   refine wpOp_mono (fun a' w' h'=>?_) (hstep i o l a w hin ho hs h2 hall hi);refine wpAny_inv hb hn ht hstep hend k _ a' w' (hc.set hi') (by simp[hs]) (fun j hj=>?_) ?_ h'
   ·rw[getD_set_ne false zo];exact hu j hj
   ·have:=cnt_set (l:=l) zo h2 hin;omega
def bk:Value→Nat
 | .pointer (some a)=>a.block
 | .slice (some a) _ _=>a.block
 | _=>0
structure RInv (ops:Array Oper) (n:Nat) (a0:Act) (w0:World) (X:Nat→Value→World→Prop) (al:List Nat) (l:Nat→Prop) (a:Act) (w:World):Prop where
 size:a.tmps.size=a0.tmps.size
 defers:a.defers=a0.defers
 below:Below w0.heap.size w0 w
 other:∀t,(∀i o,i<n→ops[i]?=some o→o.dst≠some t)→a.tmps[t]?=a0.tmps[t]?
 done:∀i o d,i<n→ops[i]?=some o→o.dst=some d→l i→X i (a.eval (.tmp d)) w
 lt:∀i o d,i<n→ops[i]?=some o→o.dst=some d→l i→i∈al→w0.heap.size≤bk (a.eval (.tmp d))∧bk (a.eval (.tmp d))<w.heap.size
 apart:∀i j o o' d d',i<n→j<n→ops[i]?=some o→ops[j]?=some o'→o.dst=some d→o'.dst=some d'→l i→l j→i∈al→j∈al→i≠j→bk (a.eval (.tmp d))≠bk (a.eval (.tmp d'))
theorem wp_region_inv {id:Nat} {a:Act} {w:World} {l:List Oper} (n N:Nat) (X:Nat→Value→World→Prop) (al:List Nat) (tail:P3.Plan) (late:List Nat) (S:World→Prop) (hm:P.follows .mixedOrders=true)
  (hB:(regOk .any l.toArray n N&&(Region.noSelect l.toArray&&P3.planEnds late tail&&P3.planOk .any l.toArray late tail (l.toArray.size-n) (firstN n l.toArray.size)))=true) (hN:N≤a.tmps.size)
  (hX:∀i v w w',X i v w→Below w.heap.size w w'→X i v w')
  (hop:∀i o a' w',i<n→l.toArray[i]?=some o→RInv l.toArray n a w.drew X al (fun j=>∃e∈o.after,Region.binds .any e=true∧e.on=j) a' w'→
   o.wp P a' w' (fun a2 w2=>∃v,a2=a'.put o.dst v∧X i v w2∧Below w'.heap.size w' w2∧(i∈al→w'.heap.size≤bk v∧bk v<w2.heap.size)) (NoPanic Q))
  (hend:∀a' w',RInv l.toArray n a w.drew X al (fun _=>True) a' w'→S w'∧P3.wpPlan P l.toArray (NoPanic Q) S late tail a' w'):(Code.region id l.toArray true).wp P Q a w:=by
 simp only[dB] at hB
 obtain⟨hR,⟨hsel,hends⟩,hplan⟩:=hB;unfold regOk at hR
 simp only[dB,wB,sB,zD,Bool.or_eq_true] at hR
 obtain⟨⟨hn,hops⟩,htl⟩:=hR;have hmain:∀i o,i<n→l.toArray[i]?=some o→o.guard=none∧(∀e∈o.after,e.on<i)∧(∃d,o.dst=some d∧d<N)∧∀j o',j<n→j≠i→l.toArray[j]?=some o'→o'.dst≠o.dst:=by
  intro i o hi ho;have h:=hops i hi;rw[ho] at h;simp only[Option.any_some,dB,beq_iff_eq,Array.all_eq_true_iff_forall_mem,wB,sB,zD,Bool.or_eq_true] at h
  obtain⟨⟨⟨h1,h2⟩,h3⟩,h4⟩:=h;refine⟨h1,h2,?_,fun j o' hj hne ho'=>?_⟩
  ·cases hd:o.dst with
   | none=>rw[hd] at h3;cases h3
   | some d=>rw[hd] at h3;exact⟨d,rfl,by simpa using h3⟩
  ·rcases h4 j hj with e | e
   ·exact absurd e.symm hne
   ·rw[ho'] at e;simpa using e
 refine wp_region_noPanic (wp_region_any hm ?_);have key:=wpAny_inv (P:=P) (ops:=l.toArray) (Q:=NoPanic Q) (md:=.any) (n:=n) (Inv:=fun li a' w'=>RInv l.toArray n a w.drew X al (fun j=>li.getD j false=true) a' w')
  (fun i o hi ho=>(hmain i o hi ho).2.1) hn (fun k hk hks j hj=>by rcases htl k hks with h | h;exact absurd h zo;exact h j hj)
  (fun i o li a' w' hi ho hs hf hall hI=>?_) (fun a' w' hc hI=>?_) (cnt (Array.replicate l.toArray.size false) n) (Array.replicate l.toArray.size false) a w.drew (Closed.start _) (by simp) (fun i _=>by
   rcases eB i l.toArray.size with h | h
   ·simp only[tD,Array.getElem?_replicate,h,if_true,Option.getD_some]
   ·simp only[tD,Array.getElem?_replicate,Nat.not_lt.2 h,if_false,Option.getD_none]) rfl ?_
 ·have e:cnt (Array.replicate l.toArray.size false) n=n:=by
   have:∀k,k≤l.toArray.size→cnt (Array.replicate l.toArray.size false) k=k:=by
    intro k;induction k with
    | zero=>intro _;rfl
    | succ k ih =>
     intro hk;unfold cnt
     rw[ih zo];simp only[tD,Array.getElem?_replicate,show k<l.toArray.size by omega,if_true,Option.getD_some]
     simp
   exact this n hn
  rw[e,Nat.add_sub_cancel' hn] at key;exact key
 ·obtain⟨hg,hb,⟨d,hd,hdN⟩,hdis⟩:=hmain i o hi ho;have hw:Region.wanted o (yielded l.toArray a'.tmps)=true:=by unfold Region.wanted;rw[hg]
  unfold wpOp
  simp only[ho,hw,if_true]
  refine .inl (Oper.wp_mono (fun a2 w2 h=>?_) (hop i o a' w' hi ho ⟨hI.size,hI.defers,hI.below,hI.other,fun j oj dj hj hoj hdj hex=>hI.done j oj dj hj hoj hdj (by obtain⟨e,he,hbd,rfl⟩:=hex;exact hall e he hbd),
   fun j oj dj hj hoj hdj hex=>hI.lt j oj dj hj hoj hdj (by obtain⟨e,he,hbd,rfl⟩:=hex;exact hall e he hbd),
   fun j k oj ok dj dk hj hk hoj hok hdj hdk hex hex'=>hI.apart j k oj ok dj dk hj hk hoj hok hdj hdk (by obtain⟨e,he,hbd,rfl⟩:=hex;exact hall e he hbd) (by obtain⟨e,he,hbd,rfl⟩:=hex';exact hall e he hbd)⟩))
  obtain⟨v,rfl,hx,hbl,hal⟩:=h;have old:∀j oj dj,j<n→l.toArray[j]?=some oj→oj.dst=some dj→j≠i→(a'.put o.dst v).eval (.tmp dj)=a'.eval (.tmp dj):=fun j oj dj hj hoj hdj hne0=>by
   have h1:=hdis j oj hj hne0 hoj;have h2:dj≠d:=fun x=>h1 (by rw[hdj,hd,x]);rw[hd];show(a'.tmps.setIfInBounds d v).getD dj undef=a'.tmps.getD dj undef
   simp only[tD]
   rw[Array.getElem?_setIfInBounds_ne (Ne.symm h2)]
  have hput:a'.put o.dst v={ a' with tmps:=a'.tmps.setIfInBounds d v }:=by rw[hd];rfl
  have hne:∀t,t≠d→(a'.put o.dst v).tmps[t]?=a'.tmps[t]?:=fun t ht=>by
   rw[hput];simp only
   rw[Array.getElem?_setIfInBounds_ne (Ne.symm ht)]
  have hev:∀t,t≠d→(a'.put o.dst v).eval (.tmp t)=a'.eval (.tmp t):=fun t ht=>by
   simp only[Act.eval,tD]
   rw[hne t ht]
  have hself:(a'.put o.dst v).eval (.tmp d)=v:=by
   rw[hput];have:d<a'.tmps.size:=by rw[hI.size];exact gC hdN hN
   simp[Act.eval,Array.getD,this]
  have same:∀j oj dj,l.toArray[j]?=some oj→oj.dst=some dj→j=i→dj=d∧(a'.put o.dst v).eval (.tmp dj)=v:=fun j oj dj hoj hdj e=>by
   subst e;rw[ho] at hoj;cases hoj;rw[hd] at hdj;cases hdj;exact⟨rfl,hself⟩
  refine⟨by rw[hput];simp[hI.size],by rw[hput];exact hI.defers,below_trans hI.below hbl,fun t ht=>?_,fun j oj dj hj hoj hdj hl=>?_,fun j oj dj hj hoj hdj hl hja=>?_,fun j k oj ok dj dk hj hk hoj hok hdj hdk hl hl' hja hka hjk=>?_⟩
  ·rw[hne t (fun e=>ht i o hi ho (by rw[hd,e]))];exact hI.other t ht
  ·by_cases e:j=i
   ·rw[(same j oj dj hoj hdj e).2,e];exact hx
   ·rw[old j oj dj hj hoj hdj e];rw[getD_set_ne false (fun x=>e x.symm)] at hl;exact hX _ _ _ _ (hI.done j oj dj hj hoj hdj hl) hbl
  ·by_cases e:j=i
   ·rw[(same j oj dj hoj hdj e).2];have h1:=hal (e ▸ hja);have h2:=hI.below.size;exact⟨wA h2 h1.1,h1.2⟩
   ·rw[old j oj dj hj hoj hdj e];rw[getD_set_ne false (fun x=>e x.symm)] at hl;have h1:=hI.lt j oj dj hj hoj hdj hl hja;exact⟨h1.1,gC h1.2 hbl.size⟩
  ·by_cases e:j=i
   ·have e2:k≠i:=fun x=>hjk (e.trans x.symm);rw[(same j oj dj hoj hdj e).2,old k ok dk hk hok hdk e2];rw[getD_set_ne false (fun x=>e2 x.symm)] at hl';have h1:=hal (e ▸ hja);have h2:=hI.lt k ok dk hk hok hdk hl' hka;omega
   ·rw[getD_set_ne false (fun x=>e x.symm)] at hl;by_cases e2:k=i
    ·rw[(same k ok dk hok hdk e2).2,old j oj dj hj hoj hdj e];have h1:=hal (e2 ▸ hka);have h2:=hI.lt j oj dj hj hoj hdj hl hja;omega
    ·rw[getD_set_ne false (fun x=>e2 x.symm)] at hl';rw[old j oj dj hj hoj hdj e,old k ok dk hk hok hdk e2];exact hI.apart j k oj ok dj dk hj hk hoj hok hdj hdk hl hl' hja hka hjk
 ·have all:∀j,j<n→(firstN n l.toArray.size).getD j false=true:=fun j hj=>by
   unfold firstN
   rw[tD,fF,mA,List.getElem?_range (gC hj hn)];simp[hj]
  obtain⟨h1,h2⟩:=hend a' w' ⟨hI.size,hI.defers,hI.below,hI.other,fun j oj dj hj hoj hdj _=>hI.done j oj dj hj hoj hdj (all j hj),fun j oj dj hj hoj hdj _ hja=>hI.lt j oj dj hj hoj hdj (all j hj) hja,fun j k oj ok dj dk hj hk hoj hok hdj hdk _ _=>hI.apart j k oj ok dj dk hj hk hoj hok hdj hdk (all j hj) (all k hk)⟩;exact wpAny_of_l _ _ _ _ (P3.wpAnyL_plan hsel (fun _ _ _ h=>h) tail _ _ a' w' hplan hends (.inl h1) hc h2)
 ·have no:∀j,¬(Array.replicate l.toArray.size false).getD j false=true:=fun j hl=>by
   rw[tD,Array.getElem?_replicate] at hl;split at hl<;>simp at hl
  exact⟨rfl,rfl,Below.refl _ _,fun t _=>rfl,fun j oj dj hj hoj hdj hl=>absurd hl (no j),fun j oj dj hj hoj hdj hl=>absurd hl (no j),fun j k oj ok dj dk hj hk hoj hok hdj hdk hl=>absurd hl (no j)⟩
theorem dep {o:Oper} {j:Nat} (h:(o.after.any fun e=>Region.binds .any e&&e.on==j)=true):∃e∈o.after,Region.binds .any e=true∧e.on=j:=by
 rw[Array.any_eq_true'] at h;obtain⟨e,he,h⟩:=h;simp only[dB,beq_iff_eq] at h
 exact⟨e,he,h⟩
theorem op_val {o:Oper} {a:Act} {w W:World} {v:Value} {K:Act→World→Prop} (h:(execOp a.eval o).run P w=.ok (.value v) W) (hk:K (a.put o.dst v) W):o.wp P a w K Q:=by
 unfold Oper.wp
 rw[h];exact hk
theorem op_skip {o:Oper} {a:Act} {w W:World} {K:Act→World→Prop} (h:(execOp a.eval o).run P w=.ok .skip W) (hk:K (a.put o.dst undef) W):o.wp P a w K Q:=by
 unfold Oper.wp
 rw[h];exact hk
theorem op_call {o:Oper} {a:Act} {w:World} {f:FuncId} {args:Array Value} {K:Act→World→Prop} {R:Ending→World→Prop} (h:(execOp a.eval o).run P w=.ok (.enter f args) w) (hc:Calls P f args w R)
  (hk:∀e w',R e w'→∃v,e=.returned v∧K (a.put o.dst v) w'):o.wp P a w K Q:=by
 unfold Oper.wp
 rw[h];refine hc.mono fun e w' hr=>?_;obtain⟨v,rfl,h2⟩:=hk e w' hr;exact h2
theorem foldl_put {f:Nat→Value} {a0:Act}:∀{ds:List Nat},(ds.foldl (fun x d=>x.put (some d) (f d)) a0).defers=a0.defers∧(ds.foldl (fun x d=>x.put (some d) (f d)) a0).tmps.size=a0.tmps.size∧
  ∀t,(ds.foldl (fun x d=>x.put (some d) (f d)) a0).tmps[t]?=if t∈ds∧t<a0.tmps.size then some (f t) else a0.tmps[t]?:=by
 intro ds;induction ds generalizing a0 with
 | nil=>exact⟨rfl,rfl,fun t=>by simp⟩
 | cons d ds ih =>
  have h:=ih (a0:=a0.put (some d) (f d));have hs:(a0.put (some d) (f d)).tmps.size=a0.tmps.size:=by simp[Act.put]
  refine⟨h.1,by rw[dF,h.2.1,hs],fun t=>?_⟩;rw[dF,h.2.2 t,hs];by_cases h1:t∈ds
  ·by_cases h2:t<a0.tmps.size
   ·rw[bB ⟨h1,h2⟩,bB ⟨jB _ h1,h2⟩]
   ·rw[dA (fun x=>h2 x.2),dA (fun x=>h2 x.2)];simp only[Act.put]
    rw[gD (by simp;omega),gD zo]
  ·rw[dA (fun x=>h1 x.1)];by_cases h2:t=d
   ·subst h2;by_cases h3:t<a0.tmps.size
    ·rw[bB ⟨kB,h3⟩];simp[Act.put,h3]
    ·rw[dA (fun x=>h3 x.2)];simp only[Act.put]
     rw[gD (by simp;omega),gD zo]
   ·rw[dA (fun x=>by rcases rB.1 x.1 with e | e;exact h2 e;exact h1 e)];simp only[Act.put]
    rw[Array.getElem?_setIfInBounds_ne (Ne.symm h2)]
theorem RInv.puts {n:Nat} {a0 a:Act} {w0 w:World} {X:Nat→Value→World→Prop} {al:List Nat} {l:Nat→Prop} (h:RInv ops n a0 w0 X al l a w) (ds:List Nat)
  (hds:((List.range n).all fun i=>(ops[i]?).all fun o=>ds.any fun d=>o.dst==some d)=true):a=ds.foldl (fun x d=>x.put (some d) (a.eval (.tmp d))) a0:=by
 have hf:=foldl_put (f:=fun d=>a.eval (.tmp d)) (a0:=a0) (ds:=ds);obtain⟨tm,df⟩:=a;have e:(ds.foldl (fun x d=>x.put (some d) (Act.eval ⟨tm,df⟩ (.tmp d))) a0)=⟨(ds.foldl (fun x d=>x.put (some d) (Act.eval ⟨tm,df⟩ (.tmp d))) a0).tmps,(ds.foldl (fun x d=>x.put (some d) (Act.eval ⟨tm,df⟩ (.tmp d))) a0).defers⟩:=rfl;rw[e,hf.1,h.defers.symm];congr 1
 apply Array.ext_getElem?
 intro t;rw[hf.2.2 t];by_cases h1:t∈ds
 ·by_cases h2:t<a0.tmps.size
  ·rw[bB ⟨h1,h2⟩];have h3:t<tm.size:=by have:=h.size;simp only at this;omega
   simp[Act.eval,Array.getD,h3]
  ·rw[dA (fun x=>h2 x.2),gD (by have:=h.size;simp only at this;omega),gD zo]
 ·rw[dA (fun x=>h1 x.1)];refine h.other t fun i o hi ho e=>h1 ?_;have:=sB.1 hds i (zD.2 hi);rw[ho] at this;simp only[Option.all_some,List.any_eq_true,beq_iff_eq] at this
  obtain⟨d,hd,h2⟩:=this;rw[e] at h2;cases h2;exact hd
theorem RInv.at {n:Nat} {a0 a:Act} {w0 w:World} {X:Nat→Value→World→Prop} {al:List Nat} {l:Nat→Prop} (h:RInv ops n a0 w0 X al l a w) (t:Nat)
  (ht:((List.range n).all fun i=>(ops[i]?).all fun o=>o.dst != some t)=true):a.eval (.tmp t)=a0.eval (.tmp t):=by
 simp only[Act.eval,tD]
 rw[h.other t fun i o hi ho e=>by
  have:=sB.1 ht i (zD.2 hi);rw[ho] at this;simp only[Option.all_some,bne_iff_ne,ne_eq] at this
  exact this e]
end
end Reg
end Go.Proofs.YtiondclbdgijbaaGreatDoor
