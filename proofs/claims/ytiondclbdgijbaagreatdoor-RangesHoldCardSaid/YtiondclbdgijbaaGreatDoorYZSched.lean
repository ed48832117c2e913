import Derived.Test.YtiondclbdgijbaaGreatDoorYA
import Derived.Test.YtiondclbdgijbaaGreatDoorRows
import Derived.WalkKit
import Derived.Deep.RegionHeld3
import Derived.Lib.Hide
namespace Go.Proofs.YtiondclbdgijbaaGreatDoor
open Go.RowKit
section
variable {P:Program} {ops:Array Oper} {Q:Exit→Act→World→Prop} {md:Region.Mode} {S:World→Prop}
def schedOk (md:Region.Mode) (ops:Array Oper):List (Nat×Bool)→Array Bool→Bool
 | [],listed=>Region.ready md ops listed==[]
 | (i,true) :: rest,listed=>(Region.ready md ops listed==[i])&&schedOk md ops rest (listed.setIfInBounds i true)
 | (i,false) :: rest,listed=>(Region.ready md ops listed).contains i&&Region.free md ops listed i&&schedOk md ops rest (listed.setIfInBounds i true)
def wpSched (P:Program) (ops:Array Oper) (Q:Exit→Act→World→Prop) (S:World→Prop):List (Nat×Bool)→Act→World→Prop
 | [],a,w=>Q .normal a w
 | (i,true) :: rest,a,w=>wpOp P ops Q i (fun a' w'=>S w'∧wpSched P ops Q S rest a' w') a w
 | (i,false) :: rest,a,w=>∃o v,ops[i]?=some o∧YieldsIf P ops S o v a∧wpSched P ops Q S rest (a.put o.dst v) w
theorem wpAnyH_sched (hs:Region.noSelect ops=true) (hQ:∀c a w,¬Q (.panic c) a w):∀(l:List (Nat×Bool)) (listed:Array Bool) (a:Act) (w:World),schedOk md ops l listed=true→S w→
  wpSched P ops Q S l a w→wpAnyH P md ops Q S l.length listed a w
 | [],_,_,_,hB,_,h=>⟨by simpa [schedOk] using hB,h⟩
 | (i,true) :: rest,listed,a,w,hB,_,h=>by
  simp only[schedOk,dB,beq_iff_eq] at hB
  refine⟨fun h0=>(by rw[hB.1] at h0;cases h0),fun j hj=>?_⟩;rw[hB.1] at hj;obtain rfl:j=i:=by simpa using hj
  exact wpOp_mono (fun a' w' h'=>⟨h'.1,wpAnyH_sched hs hQ rest _ a' w' hB.2 h'.1 h'.2⟩) h
 | (i,false) :: rest,listed,a,w,hB,hS,h=>by
  simp only[schedOk,dB] at hB
  obtain⟨o,v,ho,hy,h⟩:=h;exact wpAnyH_take ho hs hB.1.2 hB.1.1 (fun c a w h=>absurd h (hQ c _ w)) hy hS (wpAnyH_sched hs hQ rest _ _ w hB.2 hS h)
variable {a:Act} {w:World} {rest:List (Nat×Bool)} {i:Nat} {o:Oper} {v:Value}
end
inductive Plan where
 | done
 | take (i:Nat) (t:Plan)
 | pure (i:Nat) (t:Plan)
 | only (i:Nat) (t:Plan)
 | two (i:Nat) (t:Plan) (j:Nat) (u:Plan)
section
variable {P:Program} {ops:Array Oper} {Q:Exit→Act→World→Prop} {md:Region.Mode} {S:World→Prop} {late:List Nat}
def wpAnyL (P:Program) (md:Region.Mode) (ops:Array Oper) (Q:Exit→Act→World→Prop) (S:World→Prop) (late:List Nat):Nat→Array Bool→Act→World→Prop
 | 0,listed,a,w=>Region.ready md ops listed=[]∧Q .normal a w
 | fuel+1,listed,a,w =>
  (Region.ready md ops listed=[]→Q .normal a w)∧
  ∀i∈Region.ready md ops listed,wpOp P ops Q i (fun a' w'=>(i∉late→S w→S w')∧wpAnyL P md ops Q S late fuel (listed.setIfInBounds i true) a' w') a w
theorem wpAny_of_l:∀(fuel:Nat) (listed:Array Bool) (a:Act) (w:World),wpAnyL P md ops Q S late fuel listed a w→wpAny P md ops Q fuel listed a w
 | 0,_,_,_,h=>h
 | fuel+1,_,_,_,h=>⟨h.1,fun i hi=>wpOp_mono (fun a' w' h'=>wpAny_of_l fuel _ a' w' h'.2) (h.2 i hi)⟩
def Closed (md:Region.Mode) (ops:Array Oper) (listed:Array Bool):Prop :=
 ∀j o,ops[j]?=some o→listed.getD j false=true→∀e∈o.after,Region.binds md e=true→listed.getD e.on false=true
theorem Closed.set {listed:Array Bool} {j:Nat} (h:Closed md ops listed) (hj:j∈Region.ready md ops listed):Closed md ops (listed.setIfInBounds j true):=fun k o ho hk e he hb=>by
 by_cases hjk:j=k
 ·subst hjk;obtain⟨_,o',ho',hall⟩:=mem_ready.1 hj;rw[ho] at ho';cases ho';exact getD_set_true (hall e he hb)
 ·rw[getD_set_ne false hjk] at hk;exact getD_set_true (h k o ho hk e he hb)
theorem Closed.start (n:Nat):Closed md ops (Array.replicate n false):=fun j o _ hk=>by
 rcases eB j n with h | h<;>simp[h] at hk
def ancB (md:Region.Mode) (ops:Array Oper) (i:Nat):Nat→Nat→Bool
 | 0,_=>false
 | f+1,k=>(match ops[k]? with
  | none=>false
  | some o=>o.after.any fun e=>Region.binds md e&&((e.on==i) || ancB md ops i f e.on))
theorem anc_listed {listed:Array Bool} {i:Nat} (hc:Closed md ops listed):∀(f k:Nat) (o:Oper),ops[k]?=some o→ancB md ops i f k=true→
  (∀e∈o.after,Region.binds md e=true→listed.getD e.on false=true)→listed.getD i false=true
 | 0,_,_,_,h,_=>by simp[ancB] at h
 | f+1,k,o,ho,h,hall=>by
  unfold ancB at h
  rw[ho] at h;simp only[Array.any_eq_true',dB,Bool.or_eq_true,beq_iff_eq] at h
  obtain⟨e,he,hb,h⟩:=h;have hl:=hall e he hb;rcases h with rfl | h
  ·exact hl
  ·cases ho':ops[e.on]? with
   | none=>cases f<;>simp[ancB,ho'] at h
   | some o'=>exact anc_listed hc f e.on o' ho' h (hc e.on o' ho' hl)
def waitsB (md:Region.Mode) (ops:Array Oper) (late:List Nat) (i:Nat):Bool:=late.all fun k=>(i != k)&&ancB md ops i ops.size k
theorem wpAnyL_first {i:Nat} {oi:Oper} {v:Value} (hi:ops[i]?=some oi) (hsel:∀(j:Nat) (o:Oper) cs b,ops[j]?=some o→o.op≠.select cs b)
  (hQ:∀c a w,Q (.panic c) (a.put oi.dst v) w→Q (.panic c) a w) (hl:waitsB md ops late i=true) :
  ∀(fuel:Nat) (listed:Array Bool) (a:Act) (w:World),
   (∀j oj,ops[j]?=some oj→j≠i→listed.getD j true=false→(∀e∈oj.after,Region.binds md e=true→e.on≠i)→oi.apart ops oj=true)→
   i∈Region.ready md ops listed→YieldsIf P ops S oi v a→S w→Closed md ops listed→
   wpAnyL P md ops Q S late fuel (listed.setIfInBounds i true) (a.put oi.dst v) w→wpAnyL P md ops Q S late (fuel+1) listed a w:=by
 intro fuel;induction fuel with
 | zero =>
  intro listed a w _ hr hy hS _ H;refine⟨fun h=>(by rw[h] at hr;cases hr),fun j hj=>?_⟩;by_cases hji:j=i
  ·subst hji;exact hy.wpOp hi hS ⟨fun _ h=>h,H⟩
  ·have:=ready_mono hj hji;rw[H.1] at this;cases this
 | succ fuel ih =>
  intro listed a w hfree hr hy hS hc H;refine⟨fun h=>(by rw[h] at hr;cases hr),fun j hj=>?_⟩;by_cases hji:j=i
  ·subst hji;exact hy.wpOp hi hS ⟨fun _ h=>h,H⟩
  ·have h1:=H.2 j (ready_mono hj hji);obtain⟨hjun,oj,hoj,hall⟩:=mem_ready.1 hj;have hnot:∀e∈oj.after,Region.binds md e=true→e.on≠i:=fun e he hb heq=>by
    have h1:=hall e he hb;have h0:=(mem_ready.1 hr).1;rw[heq] at h1;rcases eB i listed.size with h' | h'
    ·simp[h'] at h0 h1;rw[h0] at h1;cases h1
    ·simp[Array.getElem?_eq_none h'] at h1
   have hjl:j∉late:=fun e=>by
    have h1:=sB.1 hl j e;simp only[dB] at h1
    have h2:=anc_listed hc _ j oj hoj h1.2 hall;have h0:=(mem_ready.1 hr).1;rcases eB i listed.size with h' | h'
    ·simp[h'] at h0 h2;rw[h0] at h2;cases h2
    ·simp[Array.getElem?_eq_none h'] at h2
   have h2:=wpOp_putIf hoj (hfree j oj hoj hji hjun hnot) (fun cs b=>hsel i oi cs b hi) (fun cs b=>hsel j oj cs b hoj) hQ hy h1;have hfree':∀k ok,ops[k]?=some ok→k≠i→(listed.setIfInBounds j true).getD k true=false→
     (∀e∈ok.after,Region.binds md e=true→e.on≠i)→oi.apart ops ok=true:=fun k ok hk hki hun hno=>by
    refine hfree k ok hk hki ?_ hno;by_cases hjk:j=k
    ·subst hjk;exact hjun
    ·rw[getD_set_ne true hjk] at hun;exact hun
   refine wpOp_mono (fun a' w' h3=>⟨fun _ _=>h3.2.1 hjl hS,ih (listed.setIfInBounds j true) a' w' hfree' (ready_mono hr (Ne.symm hji)) h3.1 (h3.2.1 hjl hS) (hc.set hj) ?_⟩) h2;rw[Array.setIfInBounds_comm _ _ hji];exact h3.2.2
theorem wpAnyL_pure {i:Nat} {oi:Oper} {v:Value} (hi:ops[i]?=some oi) (hsel:∀(j:Nat) (o:Oper) cs b,ops[j]?=some o→o.op≠.select cs b)
  (hQ:∀c a w,Q (.panic c) (a.put oi.dst v) w→Q (.panic c) a w) :
  ∀(fuel:Nat) (listed:Array Bool) (a:Act) (w:World),
   (∀j oj,ops[j]?=some oj→j≠i→listed.getD j true=false→(∀e∈oj.after,Region.binds md e=true→e.on≠i)→oi.apart ops oj=true)→
   i∈Region.ready md ops listed→YieldsIf P ops (fun _=>True) oi v a→
   wpAnyL P md ops Q S late fuel (listed.setIfInBounds i true) (a.put oi.dst v) w→wpAnyL P md ops Q S late (fuel+1) listed a w:=by
 intro fuel;induction fuel with
 | zero =>
  intro listed a w _ hr hy H;refine⟨fun h=>(by rw[h] at hr;cases hr),fun j hj=>?_⟩;by_cases hji:j=i
  ·subst hji;exact hy.wpOp hi trivial ⟨fun _ h=>h,H⟩
  ·have:=ready_mono hj hji;rw[H.1] at this;cases this
 | succ fuel ih =>
  intro listed a w hfree hr hy H;refine⟨fun h=>(by rw[h] at hr;cases hr),fun j hj=>?_⟩;by_cases hji:j=i
  ·subst hji;exact hy.wpOp hi trivial ⟨fun _ h=>h,H⟩
  ·have h1:=H.2 j (ready_mono hj hji);obtain⟨hjun,oj,hoj,hall⟩:=mem_ready.1 hj;have hnot:∀e∈oj.after,Region.binds md e=true→e.on≠i:=fun e he hb heq=>by
    have h1:=hall e he hb;have h0:=(mem_ready.1 hr).1;rw[heq] at h1;rcases eB i listed.size with h' | h'
    ·simp[h'] at h0 h1;rw[h0] at h1;cases h1
    ·simp[Array.getElem?_eq_none h'] at h1
   have h2:=wpOp_putIf hoj (hfree j oj hoj hji hjun hnot) (fun cs b=>hsel i oi cs b hi) (fun cs b=>hsel j oj cs b hoj) hQ hy h1;have hfree':∀k ok,ops[k]?=some ok→k≠i→(listed.setIfInBounds j true).getD k true=false→
     (∀e∈ok.after,Region.binds md e=true→e.on≠i)→oi.apart ops ok=true:=fun k ok hk hki hun hno=>by
    refine hfree k ok hk hki ?_ hno;by_cases hjk:j=k
    ·subst hjk;exact hjun
    ·rw[getD_set_ne true hjk] at hun;exact hun
   refine wpOp_mono (fun a' w' h3=>⟨h3.2.1,ih (listed.setIfInBounds j true) a' w' hfree' (ready_mono hr (Ne.symm hji)) h3.1 ?_⟩) h2;rw[Array.setIfInBounds_comm _ _ hji];exact h3.2.2
def planOk (md:Region.Mode) (ops:Array Oper) (late:List Nat):Plan→Nat→Array Bool→Bool
 | .done,n,listed=>(n==0)&&(Region.ready md ops listed==[])
 | .take i t,n+1,listed=>(Region.ready md ops listed).contains i&&Region.free md ops listed i&&waitsB md ops late i&&planOk md ops late t n (listed.setIfInBounds i true)
 | .pure i t,n+1,listed=>(Region.ready md ops listed).contains i&&Region.free md ops listed i&&planOk md ops late t n (listed.setIfInBounds i true)
 | .only i t,n+1,listed=>(Region.ready md ops listed==[i])&&planOk md ops late t n (listed.setIfInBounds i true)
 | .two i t j u,n+1,listed=>(Region.ready md ops listed==[i,j])&&planOk md ops late t n (listed.setIfInBounds i true)&&planOk md ops late u n (listed.setIfInBounds j true)
 | _,0,_=>false
def wpPlan (P:Program) (ops:Array Oper) (Q:Exit→Act→World→Prop) (S:World→Prop) (late:List Nat):Plan→Act→World→Prop
 | .done,a,w=>Q .normal a w
 | .take i t,a,w=>∃o v,ops[i]?=some o∧YieldsIf P ops S o v a∧wpPlan P ops Q S late t (a.put o.dst v) w
 | .pure i t,a,w=>∃o v,ops[i]?=some o∧YieldsIf P ops (fun _=>True) o v a∧wpPlan P ops Q S late t (a.put o.dst v) w
 | .only i t,a,w=>wpOp P ops Q i (fun a' w'=>(i∉late→S w')∧((i∉late→S w')→wpPlan P ops Q S late t a' w')) a w
 | .two i t j u,a,w=>wpOp P ops Q i (fun a' w'=>(i∉late→S w')∧((i∉late→S w')→wpPlan P ops Q S late t a' w')) a w∧wpOp P ops Q j (fun a' w'=>(j∉late→S w')∧((j∉late→S w')→wpPlan P ops Q S late u a' w')) a w
def noTake:Plan→Bool
 | .done=>true
 | .take _ _=>false
 | .pure _ t=>noTake t
 | .only _ t=>noTake t
 | .two _ t _ u=>noTake t&&noTake u
def planEnds (late:List Nat):Plan→Bool
 | .done=>true
 | .take _ t=>planEnds late t
 | .pure _ t=>planEnds late t
 | .only i t=>(!late.contains i || noTake t)&&planEnds late t
 | .two i t j u=>(!late.contains i || noTake t)&&(!late.contains j || noTake u)&&planEnds late t&&planEnds late u
theorem late_or {i:Nat} {t:Plan} {p:Prop} (h:(!late.contains i || noTake t)=true) (h':i∉late→p):p∨noTake t=true:=by
 simp only[Bool.or_eq_true,Bool.not_eq_true',List.contains_eq_mem,decide_eq_false_iff_not] at h
 rcases h with h | h
 ·exact .inl (h' h)
 ·exact .inr h
theorem wpAnyL_plan (hs:Region.noSelect ops=true) (hQ:∀c a w,¬Q (.panic c) a w):∀(p:Plan) (n:Nat) (listed:Array Bool) (a:Act) (w:World),planOk md ops late p n listed=true→planEnds late p=true→(S w∨noTake p=true)→Closed md ops listed→
  wpPlan P ops Q S late p a w→wpAnyL P md ops Q S late n listed a w
 | .done,n,listed,a,w,hB,_,_,_,h=>by
  simp only[planOk,dB,beq_iff_eq] at hB
  obtain⟨rfl,hr⟩:=hB;exact⟨hr,h⟩
 | .take i t,0,listed,a,w,hB,_,_,_,h=>by simp[planOk] at hB
 | .take i t,n+1,listed,a,w,hB,hE,hS,hc,h=>by
  simp only[planOk,dB] at hB
  obtain⟨o,v,ho,hy,h⟩:=h;have hS:=hS.resolve_right (by simp[noTake]);exact wpAnyL_first ho (Region.noSelect_spec hs) (fun c a w h=>absurd h (hQ c _ w)) hB.1.2 n listed a w (Region.free_spec ho hB.1.1.2) (by simpa using hB.1.1.1) hy hS hc (wpAnyL_plan hs hQ t n _ _ w hB.2 hE (.inl hS) (hc.set (by simpa using hB.1.1.1)) h)
 | .pure i t,0,listed,a,w,hB,_,_,_,h=>by simp[planOk] at hB
 | .pure i t,n+1,listed,a,w,hB,hE,hS,hc,h=>by
  simp only[planOk,dB] at hB
  obtain⟨o,v,ho,hy,h⟩:=h;exact wpAnyL_pure ho (Region.noSelect_spec hs) (fun c a w h=>absurd h (hQ c _ w)) n listed a w (Region.free_spec ho hB.1.2) (by simpa using hB.1.1) hy (wpAnyL_plan hs hQ t n _ _ w hB.2 hE hS (hc.set (by simpa using hB.1.1)) h)
 | .only i t,0,listed,a,w,hB,_,_,_,h=>by simp[planOk] at hB
 | .only i t,n+1,listed,a,w,hB,hE,_,hc,h=>by
  simp only[planOk,dB,beq_iff_eq] at hB
  simp only[planEnds,dB] at hE
  refine⟨fun h0=>(by rw[hB.1] at h0;cases h0),fun j hj=>?_⟩;rw[hB.1] at hj;obtain rfl:j=i:=by simpa using hj
  exact wpOp_mono (fun a' w' h'=>⟨fun hl _=>h'.1 hl,wpAnyL_plan hs hQ t n _ a' w' hB.2 hE.2 (late_or hE.1 h'.1) (hc.set (by rw[hB.1];simp)) (h'.2 h'.1)⟩) h
 | .two i t j u,0,listed,a,w,hB,_,_,_,h=>by simp[planOk] at hB
 | .two i t j u,n+1,listed,a,w,hB,hE,_,hc,h=>by
  simp only[planOk,dB,beq_iff_eq] at hB
  simp only[planEnds,dB] at hE
  refine⟨fun h0=>(by rw[hB.1.1] at h0;cases h0),fun k hk=>?_⟩;rw[hB.1.1] at hk;rcases rB.1 hk with rfl | hk
  ·exact wpOp_mono (fun a' w' h'=>⟨fun hl _=>h'.1 hl,wpAnyL_plan hs hQ t n _ a' w' hB.1.2 hE.1.2 (late_or hE.1.1.1 h'.1) (hc.set (by rw[hB.1.1];simp)) (h'.2 h'.1)⟩) h.1
  ·obtain rfl:k=j:=by simpa using hk
   exact wpOp_mono (fun a' w' h'=>⟨fun hl _=>h'.1 hl,wpAnyL_plan hs hQ u n _ a' w' hB.2 hE.2 (late_or hE.1.1.2 h'.1) (hc.set (by rw[hB.1.1];simp)) (h'.2 h'.1)⟩) h.2
theorem wp_region_plan {id:Nat} {a:Act} {w:World} {l:List Oper} (p:Plan) (late:List Nat) (S:World→Prop) (hm:P.follows .mixedOrders=true)
  (hB:(Region.noSelect l.toArray&&planEnds late p&&planOk .any l.toArray late p l.toArray.size (Array.replicate l.toArray.size false))=true) (hS:S w.drew)
  (h:wpPlan P l.toArray (NoPanic Q) S late p a w.drew):(Code.region id l.toArray true).wp P Q a w:=by
 simp only[dB] at hB
 refine wp_region_noPanic (wp_region_any hm (wpAny_of_l (S:=S) (late:=late) _ _ _ _ ?_));exact wpAnyL_plan (md:=.any) (P:=P) (Q:=NoPanic Q) (S:=S) hB.1.1 (fun _ _ _ h=>h) p l.toArray.size (Array.replicate l.toArray.size false) a w.drew hB.2 hB.1.2 (.inl hS) (Closed.start _) h
def zz:List Nat→Plan→Plan
 | [],p=>p
 | i::l,p=>.take i (zz l p)
def Hs (S:World→Prop) (w:World):Prop:=S w.drew
theorem zn {w:World}:Hs (fun _=>True) w:=trivial
theorem zIa {w:World} {c:Addr} {v:Value} (p:w.cell? c=some v):Hs (fun w=>w.cell? c=some v) w:=p
theorem zsa {w:World} {c:Addr} {v:Value} {T:World→Prop} (p:w.cell? c=some v) (h:Hs T w):Hs (fun w=>w.cell? c=some v∧T w) w:=⟨p,h⟩
theorem zl {id:Nat} {a:Act} {w:World} {l:List Oper} {S:World→Prop} (p:Plan) (late:List Nat) (hS:Hs S w) (h:wpPlan P l.toArray (NoPanic Q) S late p a w.drew) (hm:P.follows .mixedOrders=true:=by kernel_rfl) (hB:(Region.noSelect l.toArray&&planEnds late p&&planOk .any l.toArray late p l.toArray.size (Array.replicate l.toArray.size false))=true:=by kernel_rfl):(Code.region id l.toArray true).wp P Q a w:=wp_region_plan p late S hm hB hS h
variable {a:Act} {w:World} {t u:Plan} {i j:Nat} {o o':Oper} {v:Value}
theorem wpPlan_done (h:Q .normal a w):wpPlan P ops (NoPanic Q) S late .done a w:=h
theorem wpPlan_take (hi:ops[i]?=some o) (hw:Region.wanted o (yielded ops a.tmps)=true) (hy:∀w,S w→(execOp a.eval o).run P w=.ok (.value v) w)
  (h:wpPlan P ops Q S late t (a.put o.dst v) w):wpPlan P ops Q S late (.take i t) a w:=⟨o,v,hi,.inl ⟨hw,hy⟩,h⟩
theorem wpPlan_skip (hi:ops[i]?=some o) (hw:Region.wanted o (yielded ops a.tmps)=false)
  (h:wpPlan P ops Q S late t (a.put o.dst undef) w):wpPlan P ops Q S late (.take i t) a w:=⟨o,undef,hi,.inr ⟨hw,rfl⟩,h⟩
theorem wpPlan_pure (hi:ops[i]?=some o) (hw:Region.wanted o (yielded ops a.tmps)=true) (hy:∀w,(execOp a.eval o).run P w=.ok (.value v) w)
  (h:wpPlan P ops Q S late t (a.put o.dst v) w):wpPlan P ops Q S late (.pure i t) a w:=⟨o,v,hi,.inl ⟨hw,fun w _=>hy w⟩,h⟩
theorem wpPlan_pskip (hi:ops[i]?=some o) (hw:Region.wanted o (yielded ops a.tmps)=false)
  (h:wpPlan P ops Q S late t (a.put o.dst undef) w):wpPlan P ops Q S late (.pure i t) a w:=⟨o,undef,hi,.inr ⟨hw,rfl⟩,h⟩
theorem wpPlan_op (hi:ops[i]?=some o) (hw:Region.wanted o (yielded ops a.tmps)=true)
  (h:∀K:Act→World→Prop,Hid (∀a' w',S w'→(S w'→wpPlan P ops Q S late t a' w')→K a' w')→o.wp P a w K Q) :
  wpOp P ops Q i (fun a' w'=>(i∉late→S w')∧((i∉late→S w')→wpPlan P ops Q S late t a' w')) a w:=by
 unfold wpOp
 simp only[hi,hw,if_true]
 exact .inl (h _ (Lib.hid fun a' w' hS hr=>⟨fun _=>hS,fun _=>hr hS⟩))
theorem wpPlan_call (hi:ops[i]?=some o) (hw:Region.wanted o (yielded ops a.tmps)=true)
  (h:∀K:Act→World→Prop,Hid (∀a' w',S w'→(S w'→wpPlan P ops Q S late t a' w')→K a' w')→o.wp P a w K Q):wpPlan P ops Q S late (.only i t) a w:=wpPlan_op hi hw h
theorem zT {d:Tmp} {x1:Op} {x2:TypeId} {x3:String} {x4:Array Edge} {x5:Option (Nat×Bool)} (hi:ops[i]?=some ⟨some d,x1,x2,x3,x4,x5⟩) (hw:Region.wanted (⟨some d,x1,x2,x3,x4,x5⟩:Oper) (yielded ops a.tmps)=true) (hy:∀w,S w→(execOp a.eval (⟨some d,x1,x2,x3,x4,x5⟩:Oper)).run P w=.ok (.value v) w) (h:wpPlan P ops Q S late t (a.put (some d) v) w):wpPlan P ops Q S late (.take i t) a w:=wpPlan_take hi hw hy h
theorem zUa {d:Tmp} {x1:Op} {x2:TypeId} {x3:String} {x4:Array Edge} {x5:Option (Nat×Bool)} (h:wpPlan P ops Q S late t (a.put (some d) v) w) (hi:ops[i]?=some ⟨some d,x1,x2,x3,x4,x5⟩:=by exact rfl) (hw:Region.wanted (⟨some d,x1,x2,x3,x4,x5⟩:Oper) (yielded ops a.tmps)=true:=by exact rfl) (hy:∀w,S w→(execOp a.eval (⟨some d,x1,x2,x3,x4,x5⟩:Oper)).run P w=.ok (.value v) w:=by intro w hS;(try dsimp only at hS);(repeat (obtain⟨_,hS⟩:=hS));go_simp<;>with_reducible rfl):wpPlan P ops Q S late (.take i t) a w:=zT hi hw hy h
theorem zP {d:Tmp} {x1:Op} {x2:TypeId} {x3:String} {x4:Array Edge} {x5:Option (Nat×Bool)} (hi:ops[i]?=some ⟨some d,x1,x2,x3,x4,x5⟩) (hw:Region.wanted (⟨some d,x1,x2,x3,x4,x5⟩:Oper) (yielded ops a.tmps)=true) (hy:∀w,(execOp a.eval (⟨some d,x1,x2,x3,x4,x5⟩:Oper)).run P w=.ok (.value v) w) (h:wpPlan P ops Q S late t (a.put (some d) v) w):wpPlan P ops Q S late (.pure i t) a w:=wpPlan_pure hi hw hy h
theorem zV {d:Tmp} {x1:Op} {x2:TypeId} {x3:String} {x4:Array Edge} {x5:Option (Nat×Bool)} (h:wpPlan P ops Q S late t (a.put (some d) v) w) (hi:ops[i]?=some ⟨some d,x1,x2,x3,x4,x5⟩:=by exact rfl) (hw:Region.wanted (⟨some d,x1,x2,x3,x4,x5⟩:Oper) (yielded ops a.tmps)=true:=by exact rfl) (hy:∀w,(execOp a.eval (⟨some d,x1,x2,x3,x4,x5⟩:Oper)).run P w=.ok (.value v) w:=by intro w;go_simp<;>with_reducible rfl):wpPlan P ops Q S late (.pure i t) a w:=zP hi hw hy h
theorem zN {d:Tmp} {x1:Op} {x2:TypeId} {x3:String} {x4:Array Edge} {x5:Option (Nat×Bool)} (hi:ops[i]?=some ⟨some d,x1,x2,x3,x4,x5⟩) (hw:Region.wanted (⟨some d,x1,x2,x3,x4,x5⟩:Oper) (yielded ops a.tmps)=false) (h:wpPlan P ops Q S late t (a.put (some d) undef) w):wpPlan P ops Q S late (.take i t) a w:=wpPlan_skip hi hw h
theorem zK {d:Tmp} {x1:Op} {x2:TypeId} {x3:String} {x4:Array Edge} {x5:Option (Nat×Bool)} (hi:ops[i]?=some ⟨some d,x1,x2,x3,x4,x5⟩) (hw:Region.wanted (⟨some d,x1,x2,x3,x4,x5⟩:Oper) (yielded ops a.tmps)=false) (h:wpPlan P ops Q S late t (a.put (some d) undef) w):wpPlan P ops Q S late (.pure i t) a w:=wpPlan_pskip hi hw h
theorem zC (d:Tmp) {x1:Op} {x2:TypeId} {x3:String} {x4:Array Edge} {x5:Option (Nat×Bool)} (hi:ops[i]?=some ⟨some d,x1,x2,x3,x4,x5⟩) (hw:Region.wanted (⟨some d,x1,x2,x3,x4,x5⟩:Oper) (yielded ops a.tmps)=true) (h:∀K:Act→World→Prop,Hid (∀a' w',S w'→(S w'→wpPlan P ops Q S late t a' w')→K a' w')→(⟨some d,x1,x2,x3,x4,x5⟩:Oper).wp P a w K Q):wpPlan P ops Q S late (.only i t) a w:=wpPlan_call hi hw h
theorem wpPlan_late (hi:ops[i]?=some o) (hw:Region.wanted o (yielded ops a.tmps)=true) (hl:i∈late)
  (h:∀K:Act→World→Prop,Hid (∀a' w',wpPlan P ops Q S late t a' w'→K a' w')→o.wp P a w K Q):wpPlan P ops Q S late (.only i t) a w:=by
 show wpOp P ops Q i _ a w
 unfold wpOp
 simp only[hi,hw,if_true]
 exact .inl (h _ (Lib.hid fun a' w' hr=>⟨fun e=>absurd hl e,fun _=>hr⟩))
theorem wpPlan_two (hi:ops[i]?=some o) (hw:Region.wanted o (yielded ops a.tmps)=true) (hj:ops[j]?=some o') (hw':Region.wanted o' (yielded ops a.tmps)=true)
  (h:∀K:Act→World→Prop,Hid (∀a' w',S w'→(S w'→wpPlan P ops Q S late t a' w')→K a' w')→o.wp P a w K Q)
  (h':∀K:Act→World→Prop,Hid (∀a' w',S w'→(S w'→wpPlan P ops Q S late u a' w')→K a' w')→o'.wp P a w K Q):wpPlan P ops Q S late (.two i t j u) a w:=⟨wpPlan_op hi hw h,wpPlan_op hj hw' h'⟩
end
namespace P3
inductive Plan where
 | done
 | take (i:Nat) (t:Plan)
 | pure (i:Nat) (t:Plan)
 | only (i:Nat) (t:Plan)
 | two (i:Nat) (t:Plan) (j:Nat) (u:Plan)
 | three (i:Nat) (t:Plan) (j:Nat) (u:Plan) (k:Nat) (v:Plan)
section
variable {P:Program} {ops:Array Oper} {Q:Exit→Act→World→Prop} {md:Region.Mode} {S:World→Prop} {late:List Nat}
def planOk (md:Region.Mode) (ops:Array Oper) (late:List Nat):Plan→Nat→Array Bool→Bool
 | .done,n,listed=>(n==0)&&(Region.ready md ops listed==[])
 | .take i t,n+1,listed=>(Region.ready md ops listed).contains i&&Region.free md ops listed i&&waitsB md ops late i&&planOk md ops late t n (listed.setIfInBounds i true)
 | .pure i t,n+1,listed=>(Region.ready md ops listed).contains i&&Region.free md ops listed i&&planOk md ops late t n (listed.setIfInBounds i true)
 | .only i t,n+1,listed=>(Region.ready md ops listed==[i])&&planOk md ops late t n (listed.setIfInBounds i true)
 | .two i t j u,n+1,listed=>(Region.ready md ops listed==[i,j])&&planOk md ops late t n (listed.setIfInBounds i true)&&planOk md ops late u n (listed.setIfInBounds j true)
 | .three i t j u k v,n+1,listed=>(Region.ready md ops listed==[i,j,k])&&planOk md ops late t n (listed.setIfInBounds i true)&&planOk md ops late u n (listed.setIfInBounds j true)&&planOk md ops late v n (listed.setIfInBounds k true)
 | _,0,_=>false
def wpPlan (P:Program) (ops:Array Oper) (Q:Exit→Act→World→Prop) (S:World→Prop) (late:List Nat):Plan→Act→World→Prop
 | .done,a,w=>Q .normal a w
 | .take i t,a,w=>∃o v,ops[i]?=some o∧YieldsIf P ops S o v a∧wpPlan P ops Q S late t (a.put o.dst v) w
 | .pure i t,a,w=>∃o v,ops[i]?=some o∧YieldsIf P ops (fun _=>True) o v a∧wpPlan P ops Q S late t (a.put o.dst v) w
 | .only i t,a,w=>wpOp P ops Q i (fun a' w'=>(i∉late→S w')∧((i∉late→S w')→wpPlan P ops Q S late t a' w')) a w
 | .two i t j u,a,w=>wpOp P ops Q i (fun a' w'=>(i∉late→S w')∧((i∉late→S w')→wpPlan P ops Q S late t a' w')) a w∧wpOp P ops Q j (fun a' w'=>(j∉late→S w')∧((j∉late→S w')→wpPlan P ops Q S late u a' w')) a w
 | .three i t j u k v,a,w=>wpOp P ops Q i (fun a' w'=>(i∉late→S w')∧((i∉late→S w')→wpPlan P ops Q S late t a' w')) a w∧wpOp P ops Q j (fun a' w'=>(j∉late→S w')∧((j∉late→S w')→wpPlan P ops Q S late u a' w')) a w∧wpOp P ops Q k (fun a' w'=>(k∉late→S w')∧((k∉late→S w')→wpPlan P ops Q S late v a' w')) a w
def noTake:Plan→Bool
 | .done=>true
 | .take _ _=>false
 | .pure _ t=>noTake t
 | .only _ t=>noTake t
 | .two _ t _ u=>noTake t&&noTake u
 | .three _ t _ u _ v=>noTake t&&noTake u&&noTake v
def planEnds (late:List Nat):Plan→Bool
 | .done=>true
 | .take _ t=>planEnds late t
 | .pure _ t=>planEnds late t
 | .only i t=>(!late.contains i || noTake t)&&planEnds late t
 | .two i t j u=>(!late.contains i || noTake t)&&(!late.contains j || noTake u)&&planEnds late t&&planEnds late u
 | .three i t j u k v=>((!late.contains i || noTake t)&&(!late.contains j || noTake u)&&(!late.contains k || noTake v))&&planEnds late t&&planEnds late u&&planEnds late v
theorem late_or {i:Nat} {t:Plan} {p:Prop} (h:(!late.contains i || noTake t)=true) (h':i∉late→p):p∨noTake t=true:=by
 simp only[Bool.or_eq_true,Bool.not_eq_true',List.contains_eq_mem,decide_eq_false_iff_not] at h
 rcases h with h | h
 ·exact .inl (h' h)
 ·exact .inr h
theorem wpAnyL_plan (hs:Region.noSelect ops=true) (hQ:∀c a w,¬Q (.panic c) a w):∀(p:Plan) (n:Nat) (listed:Array Bool) (a:Act) (w:World),planOk md ops late p n listed=true→planEnds late p=true→(S w∨noTake p=true)→Closed md ops listed→
  wpPlan P ops Q S late p a w→wpAnyL P md ops Q S late n listed a w
 | .done,n,listed,a,w,hB,_,_,_,h=>by
  simp only[planOk,dB,beq_iff_eq] at hB
  obtain⟨rfl,hr⟩:=hB;exact⟨hr,h⟩
 | .take i t,0,listed,a,w,hB,_,_,_,h=>by simp[planOk] at hB
 | .take i t,n+1,listed,a,w,hB,hE,hS,hc,h=>by
  simp only[planOk,dB] at hB
  obtain⟨o,v,ho,hy,h⟩:=h;have hS:=hS.resolve_right (by simp[noTake]);exact wpAnyL_first ho (Region.noSelect_spec hs) (fun c a w h=>absurd h (hQ c _ w)) hB.1.2 n listed a w (Region.free_spec ho hB.1.1.2) (by simpa using hB.1.1.1) hy hS hc (wpAnyL_plan hs hQ t n _ _ w hB.2 hE (.inl hS) (hc.set (by simpa using hB.1.1.1)) h)
 | .pure i t,0,listed,a,w,hB,_,_,_,h=>by simp[planOk] at hB
 | .pure i t,n+1,listed,a,w,hB,hE,hS,hc,h=>by
  simp only[planOk,dB] at hB
  obtain⟨o,v,ho,hy,h⟩:=h;exact wpAnyL_pure ho (Region.noSelect_spec hs) (fun c a w h=>absurd h (hQ c _ w)) n listed a w (Region.free_spec ho hB.1.2) (by simpa using hB.1.1) hy (wpAnyL_plan hs hQ t n _ _ w hB.2 hE hS (hc.set (by simpa using hB.1.1)) h)
 | .only i t,0,listed,a,w,hB,_,_,_,h=>by simp[planOk] at hB
 | .only i t,n+1,listed,a,w,hB,hE,_,hc,h=>by
  simp only[planOk,dB,beq_iff_eq] at hB
  simp only[planEnds,dB] at hE
  refine⟨fun h0=>(by rw[hB.1] at h0;cases h0),fun j hj=>?_⟩;rw[hB.1] at hj;obtain rfl:j=i:=by simpa using hj
  exact wpOp_mono (fun a' w' h'=>⟨fun hl _=>h'.1 hl,wpAnyL_plan hs hQ t n _ a' w' hB.2 hE.2 (late_or hE.1 h'.1) (hc.set (by rw[hB.1];simp)) (h'.2 h'.1)⟩) h
 | .two i t j u,0,listed,a,w,hB,_,_,_,h=>by simp[planOk] at hB
 | .two i t j u,n+1,listed,a,w,hB,hE,_,hc,h=>by
  simp only[planOk,dB,beq_iff_eq] at hB
  simp only[planEnds,dB] at hE
  refine⟨fun h0=>(by rw[hB.1.1] at h0;cases h0),fun k hk=>?_⟩;rw[hB.1.1] at hk;rcases rB.1 hk with rfl | hk
  ·exact wpOp_mono (fun a' w' h'=>⟨fun hl _=>h'.1 hl,wpAnyL_plan hs hQ t n _ a' w' hB.1.2 hE.1.2 (late_or hE.1.1.1 h'.1) (hc.set (by rw[hB.1.1];simp)) (h'.2 h'.1)⟩) h.1
  ·obtain rfl:k=j:=by simpa using hk
   exact wpOp_mono (fun a' w' h'=>⟨fun hl _=>h'.1 hl,wpAnyL_plan hs hQ u n _ a' w' hB.2 hE.2 (late_or hE.1.1.2 h'.1) (hc.set (by rw[hB.1.1];simp)) (h'.2 h'.1)⟩) h.2
 | .three i t j u k v,0,listed,a,w,hB,_,_,_,h=>by simp[planOk] at hB
 | .three i t j u k v,n+1,listed,a,w,hB,hE,_,hc,h=>by
  simp only[planOk,dB,beq_iff_eq] at hB
  simp only[planEnds,dB] at hE
  obtain⟨⟨⟨hr,b1⟩,b2⟩,b3⟩:=hB;obtain⟨⟨⟨⟨⟨l1,l2⟩,l3⟩,e1⟩,e2⟩,e3⟩:=hE;refine⟨fun h0=>(by rw[hr] at h0;cases h0),fun m hm=>?_⟩;rw[hr] at hm;rcases rB.1 hm with rfl | hm
  ·exact wpOp_mono (fun a' w' h'=>⟨fun hl _=>h'.1 hl,wpAnyL_plan hs hQ t n _ a' w' b1 e1 (late_or l1 h'.1) (hc.set (by rw[hr];simp)) (h'.2 h'.1)⟩) h.1
  ·rcases rB.1 hm with rfl | hm
   ·exact wpOp_mono (fun a' w' h'=>⟨fun hl _=>h'.1 hl,wpAnyL_plan hs hQ u n _ a' w' b2 e2 (late_or l2 h'.1) (hc.set (by rw[hr];simp)) (h'.2 h'.1)⟩) h.2.1
   ·obtain rfl:m=k:=by simpa using hm
    exact wpOp_mono (fun a' w' h'=>⟨fun hl _=>h'.1 hl,wpAnyL_plan hs hQ v n _ a' w' b3 e3 (late_or l3 h'.1) (hc.set (by rw[hr];simp)) (h'.2 h'.1)⟩) h.2.2
theorem wp_region_plan {id:Nat} {a:Act} {w:World} {l:List Oper} (p:Plan) (late:List Nat) (S:World→Prop) (hm:P.follows .mixedOrders=true)
  (hB:(Region.noSelect l.toArray&&planEnds late p&&planOk .any l.toArray late p l.toArray.size (Array.replicate l.toArray.size false))=true) (hS:S w.drew)
  (h:wpPlan P l.toArray (NoPanic Q) S late p a w.drew):(Code.region id l.toArray true).wp P Q a w:=by
 simp only[dB] at hB
 refine wp_region_noPanic (wp_region_any hm (wpAny_of_l (S:=S) (late:=late) _ _ _ _ ?_));exact wpAnyL_plan (md:=.any) (P:=P) (Q:=NoPanic Q) (S:=S) hB.1.1 (fun _ _ _ h=>h) p l.toArray.size (Array.replicate l.toArray.size false) a w.drew hB.2 hB.1.2 (.inl hS) (Closed.start _) h
variable {a:Act} {w:World} {t u:Plan} {i j:Nat} {o o':Oper} {v:Value}
theorem wpPlan_done (h:Q .normal a w):wpPlan P ops (NoPanic Q) S late .done a w:=h
theorem wpPlan_take (hi:ops[i]?=some o) (hw:Region.wanted o (yielded ops a.tmps)=true) (hy:∀w,S w→(execOp a.eval o).run P w=.ok (.value v) w)
  (h:wpPlan P ops Q S late t (a.put o.dst v) w):wpPlan P ops Q S late (.take i t) a w:=⟨o,v,hi,.inl ⟨hw,hy⟩,h⟩
theorem wpPlan_skip (hi:ops[i]?=some o) (hw:Region.wanted o (yielded ops a.tmps)=false)
  (h:wpPlan P ops Q S late t (a.put o.dst undef) w):wpPlan P ops Q S late (.take i t) a w:=⟨o,undef,hi,.inr ⟨hw,rfl⟩,h⟩
theorem wpPlan_pure (hi:ops[i]?=some o) (hw:Region.wanted o (yielded ops a.tmps)=true) (hy:∀w,(execOp a.eval o).run P w=.ok (.value v) w)
  (h:wpPlan P ops Q S late t (a.put o.dst v) w):wpPlan P ops Q S late (.pure i t) a w:=⟨o,v,hi,.inl ⟨hw,fun w _=>hy w⟩,h⟩
theorem wpPlan_pskip (hi:ops[i]?=some o) (hw:Region.wanted o (yielded ops a.tmps)=false)
  (h:wpPlan P ops Q S late t (a.put o.dst undef) w):wpPlan P ops Q S late (.pure i t) a w:=⟨o,undef,hi,.inr ⟨hw,rfl⟩,h⟩
theorem wpPlan_op (hi:ops[i]?=some o) (hw:Region.wanted o (yielded ops a.tmps)=true)
  (h:∀K:Act→World→Prop,Hid (∀a' w',S w'→(S w'→wpPlan P ops Q S late t a' w')→K a' w')→o.wp P a w K Q) :
  wpOp P ops Q i (fun a' w'=>(i∉late→S w')∧((i∉late→S w')→wpPlan P ops Q S late t a' w')) a w:=by
 unfold wpOp
 simp only[hi,hw,if_true]
 exact .inl (h _ (Lib.hid fun a' w' hS hr=>⟨fun _=>hS,fun _=>hr hS⟩))
theorem wpPlan_call (hi:ops[i]?=some o) (hw:Region.wanted o (yielded ops a.tmps)=true)
  (h:∀K:Act→World→Prop,Hid (∀a' w',S w'→(S w'→wpPlan P ops Q S late t a' w')→K a' w')→o.wp P a w K Q):wpPlan P ops Q S late (.only i t) a w:=wpPlan_op hi hw h
theorem wpPlan_late (hi:ops[i]?=some o) (hw:Region.wanted o (yielded ops a.tmps)=true) (hl:i∈late)
  (h:∀K:Act→World→Prop,Hid (∀a' w',wpPlan P ops Q S late t a' w'→K a' w')→o.wp P a w K Q):wpPlan P ops Q S late (.only i t) a w:=by
 show wpOp P ops Q i _ a w
 unfold wpOp
 simp only[hi,hw,if_true]
 exact .inl (h _ (Lib.hid fun a' w' hr=>⟨fun e=>absurd hl e,fun _=>hr⟩))
theorem wpPlan_two (hi:ops[i]?=some o) (hw:Region.wanted o (yielded ops a.tmps)=true) (hj:ops[j]?=some o') (hw':Region.wanted o' (yielded ops a.tmps)=true)
  (h:∀K:Act→World→Prop,Hid (∀a' w',S w'→(S w'→wpPlan P ops Q S late t a' w')→K a' w')→o.wp P a w K Q)
  (h':∀K:Act→World→Prop,Hid (∀a' w',S w'→(S w'→wpPlan P ops Q S late u a' w')→K a' w')→o'.wp P a w K Q):wpPlan P ops Q S late (.two i t j u) a w:=⟨wpPlan_op hi hw h,wpPlan_op hj hw' h'⟩
variable {v':Plan} {k:Nat} {o'':Oper}
end
end P3
end Go.Proofs.YtiondclbdgijbaaGreatDoor
