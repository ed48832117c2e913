/-
  Plain laws of matrices: the turned one, Times and Left as sums of products. By hand.
-/
import Derived.Test.YtjkgjiofmgapfaaGreatDoorYMxT
import Derived.Test.YtjkgjiofmgapfaaGreatDoorYMx2
namespace Go.Proofs.YtjkgjiofmgapfaaGreatDoor
def trnE (C:List (List (Int×Rat))):Nat→List (Int×Int×Rat)
 | 0=>[]
 | k+1=>trnE C k++(nrm (C.getD k [])).map fun x=>((k:Int),x.1,x.2)
def rowE (E:List (Int×Int×Rat)) (i:Int):List (Int×Rat):=(E.filter fun e=>decide (e.2.1=i)).map fun e=>(e.1,e.2.2)
def turnF (C:List (List (Int×Rat))) (i:Int):List (Int×Rat):=rowE (trnE C C.length) i
theorem rowE_append (E F:List (Int×Int×Rat)) (i:Int):rowE (E++F) i=rowE E i++rowE F i:=by unfold rowE;rw[List.filter_append,List.map_append]
theorem rowE_one (e:Int×Int×Rat) (i:Int):rowE [e] i=if e.2.1=i then [(e.1,e.2.2)] else []:=by
 unfold rowE
 rw[List.filter_cons,List.filter_nil];by_cases h:e.2.1=i
 ·rw[if_pos h,if_pos (by simpa using h)];rfl
 ·rw[if_neg h,if_neg (by simpa using h)];rfl
theorem rowE_col (k i:Int):∀{L:List (Int×Rat)},Nrm L→rowE (L.map fun x=>(k,x.1,x.2)) i=if pget L i=0 then [] else [(k,pget L i)]
 | [],_=>by rw[pget_nil,if_pos rfl];rfl
 | x :: L,h=>by
  have hr:=Rise.cons.1 h.rise;have e:rowE ((x :: L).map fun x=>(k,x.1,x.2)) i=rowE [(k,x.1,x.2)] i++rowE (L.map fun x=>(k,x.1,x.2)) i:=by rw[←rowE_append];rfl
  rw[e,rowE_one,rowE_col k i h.tail,zAe];by_cases hx:x.1=i
  ·have h0:pget L i=0:=pget_none fun y hy=>by have:=hr.1 y hy;omega
   have hz:=h.nz x List.mem_cons_self;simp only
   rw[if_pos hx,if_pos h0,if_pos hx,h0,Rat.add_zero,if_neg hz];rfl
  ·simp only
   rw[if_neg hx,if_neg hx];rfl
theorem trn_step (C:List (List (Int×Rat))) (k:Nat) (i:Int):rowE (trnE C (k+1)) i=rowE (trnE C k) i++(if pget (C.getD k []) i=0 then [] else [((k:Int),pget (C.getD k []) i)]):=by
 show rowE (trnE C k++_) i=_
 rw[rowE_append,rowE_col _ _ (nrm_nrm _),nrm_get]
theorem trn_low (C:List (List (Int×Rat))) (i:Int):∀k,∀x∈rowE (trnE C k) i,0≤x.1∧x.1<(k:Int)
 | 0,x,h=>by cases h
 | k+1,x,h=>by
  rw[trn_step] at h;rcases List.mem_append.1 h with h | h
  ·have:=trn_low C i k x h;omega
  ·split at h
   ·cases h
   ·obtain rfl:=List.mem_singleton.1 h;simp only
    omega
theorem trn_nrm (C:List (List (Int×Rat))) (i:Int):∀k,Nrm (rowE (trnE C k) i)
 | 0=>⟨List.Pairwise.nil,fun x hx=>by cases hx⟩
 | k+1=>by
  rw[trn_step];split
  ·rw[List.append_nil];exact trn_nrm C i k
  ·exact(trn_nrm C i k).snoc (fun o ho=>(trn_low C i k o ho).2) (by assumption)
theorem trn_get (C:List (List (Int×Rat))) (i:Int):∀(k:Nat) (a:Int),pget (rowE (trnE C k) i) a=if 0≤a∧a<(k:Int) then pget (C.getD a.toNat []) i else 0
 | 0,a=>by rw[if_neg zo];rfl
 | k+1,a=>by
  rw[trn_step,pget_append,trn_get C i k a];have e:pget (if pget (C.getD k []) i=0 then [] else [((k:Int),pget (C.getD k []) i)]) a=if(k:Int)=a then pget (C.getD k []) i else 0:=by
   by_cases h:pget (C.getD k []) i=0
   ·rw[if_pos h,pget_nil,h];split<;>rfl
   ·rw[if_neg h,pget_one]
  rw[e];by_cases h:(k:Int)=a
  ·rw[if_neg zo,if_pos h,if_pos zo,Rat.zero_add,show a.toNat=k by omega]
  ·rw[if_neg h,Rat.add_zero];by_cases h2:0≤a∧a<(k:Int)
   ·rw[if_pos h2,if_pos zo]
   ·rw[if_neg h2,if_neg zo]
theorem turn_low (C:List (List (Int×Rat))) (i:Int):∀x∈turnF C i,0≤x.1∧x.1<(C.length:Int):=trn_low C i _
theorem turn_nrm (C:List (List (Int×Rat))) (i:Int):Nrm (turnF C i):=trn_nrm C i _
theorem turn_get (C:List (List (Int×Rat))) (i a:Int):pget (turnF C i) a=if 0≤a∧a<(C.length:Int) then pget (C.getD a.toNat []) i else 0:=trn_get C i _ a
def turnT (C:List (List (Int×Rat))) (n:Nat):List (List (Int×Rat)):=(List.range n).map fun(i:Nat)=>turnF C (i:Int)
theorem turnT_len (C:List (List (Int×Rat))) (n:Nat):(turnT C n).length=n:=by unfold turnT;rw[List.length_map,List.length_range]
theorem turnT_get (C:List (List (Int×Rat))) {n i:Nat} (h:i<n):(turnT C n).getD i []=turnF C (i:Int):=by
 unfold turnT
 rw[List.getD_eq_getElem?_getD,List.getElem?_map,List.getElem?_range h];rfl
open Go.RowKit Tw
def RowsE (V:List Vc) (E:List (Int×Int×Rat)):Prop:=∀(a:Nat) (v:Vc),V[a]?=some v→prs v.L=rowE E (a:Int)
def colE (k:Nat) (L:List (Int×Rat)):List (Int×Int×Rat):=L.map fun x=>((k:Int),x.1,x.2)
theorem colE_snoc (k:Nat) {T:List Tm} {j:Nat} {x:Tm} (h:T[j]?=some x):colE k (prs (T.take (j+1)))=colE k (prs (T.take j))++[((k:Int),x.at_,x.x.q)]:=by
 rw[take_snoc h,prs_append];exact List.map_append
theorem RowsE.start (n:Nat):RowsE (List.replicate n zVc) []:=fun a v hv=>by rw[List.eq_of_mem_replicate (List.mem_of_getElem? hv)];rfl
theorem RowsE.step {V:List Vc} {E:List (Int×Int×Rat)} (h:RowsE V E) {a:Nat} {u:Vc} (hu:V[a]?=some u) (H:Option Addr) (m c:Nat) (t:Tm) (k:Int):RowsE (V.set a ⟨H,m,c,u.L++[⟨k,t.x⟩]⟩) (E++[(k,(a:Int),t.x.q)]):=fun b v hv=>by
 have ha:=(List.getElem?_eq_some_iff.1 hu).1;rw[rowE_append,rowE_one];by_cases e:b=a
 ·subst e;rw[List.getElem?_set_self ha,Option.some.injEq] at hv;subst hv;rw[if_pos rfl,prs_append,h b u hu];rfl
 ·rw[List.getElem?_set_ne (fun e2=>e e2.symm)] at hv;rw[if_neg (by simp only;omega),List.append_nil];exact h b v hv
theorem RowsE.done {V:List Vc} {C:List (List (Int×Rat))} {n:Nat} (h:RowsE V (trnE C C.length)) (hl:V.length=n):V.map (fun v=>prs v.L)=turnT C n:=by
 apply List.ext_getElem?
 intro a;unfold turnT
 rw[List.getElem?_map,List.getElem?_map];by_cases ha:a<n
 ·rw[List.getElem?_range ha,List.getElem?_eq_getElem zo];simp only[Option.map_some]
  rw[h a _ (List.getElem?_eq_getElem zo)];rfl
 ·rw[List.getElem?_eq_none zo,List.getElem?_eq_none (by rw[List.length_range];omega)];rfl
theorem trnE_col {C:List (List (Int×Rat))} {k:Nat} {c:List (Int×Rat)} (h:C[k]?=some c):trnE C (k+1)=trnE C k++colE k (nrm c):=by
 show trnE C k++_=_
 rw[List.getD_eq_getElem?_getD,h];rfl
theorem trn_len (C:List (List (Int×Rat))) (i:Int):∀k,(rowE (trnE C k) i).length≤k
 | 0=>Nat.le_refl _
 | k+1=>by
  have:=trn_len C i k;rw[trn_step,List.length_append];split
  ·simp only[List.length_nil];omega
  ·simp only[List.length_cons,List.length_nil];omega
theorem RowsE.small {V:List Vc} {C:List (List (Int×Rat))} {k a:Nat} {L:List (Int×Rat)} {u:Vc} (h:RowsE V (trnE C k++colE k L)) (hu:V[a]?=some u):u.L.length≤k+L.length:=by
 have h1:=congrArg List.length (h a u hu);have h2:=trn_len C (a:Int) k;have h3:(rowE (colE k L) (a:Int)).length≤L.length:=by
  unfold rowE colE
  rw[List.length_map];refine Nat.le_trans (List.length_filter_le _ _) ?_;rw[List.length_map];exact Nat.le_refl _
 rw[prs_len,rowE_append,List.length_append] at h1;omega
theorem OnT.one {w:World} {M:Nat} {s s':Bool} {A A':Option Addr} {c l c' l':Nat} {q:Rat} (at_:Int) (h:RN w s A c l s' A' c' l' q) (hs:sz q+1≤M):OnT w [⟨at_,⟨s,A,c,l,s',A',c',l',q,true⟩⟩] (fun _=>M):=fun t ht=>by
 obtain rfl:=List.mem_singleton.1 ht;exact⟨h,rfl,hs⟩
theorem lu_start {C:List (List (Int×Rat))} {n:Nat} (hl:C.length=n):FacInv n ⟨turnT C n,List.replicate n true,[]⟩:=FacInv.start (turnT_len C n) fun k=>by
 by_cases hk:k<n
 ·rw[turnT_get C hk];exact⟨turn_nrm C _,fun t ht=>by rw[←hl];exact turn_low C _ t ht⟩
 ·rw[List.getD_eq_getElem?_getD,List.getElem?_eq_none (by rw[turnT_len];omega)];exact⟨⟨List.Pairwise.nil,fun x hx=>(by cases hx)⟩,fun x hx=>(by cases hx)⟩
def facT (C:List (List (Int×Rat))) (n:Nat):FacSt:=⟨turnT C n,List.replicate n true,[]⟩
def facST (C:List (List (Int×Rat))) (n:Nat):List StepF:=match facUp (facT C n) n with | some t=>t.ST | none=>[]
theorem facST_eq {C:List (List (Int×Rat))} {n:Nat} {t:FacSt} (h:facUp (facT C n) n=some t):facST C n=t.ST:=by unfold facST;rw[h]
def plc (n:Nat):List Int:=(List.range n).map fun(i:Nat)=>(i:Int)
theorem plc_mem {n:Nat} {a:Int}:a∈plc n↔0≤a∧a<(n:Int):=by
 unfold plc
 rw[List.mem_map];constructor
 ·rintro⟨i,hi,rfl⟩;have:=List.mem_range.1 hi;omega
 ·intro h;exact⟨a.toNat,List.mem_range.2 zo,zo⟩
theorem plc_len (n:Nat):(plc n).length=n:=by unfold plc;rw[List.length_map,List.length_range]
theorem plc_nodup (n:Nat):(plc n).Nodup:=by
 unfold plc List.Nodup
 rw[List.pairwise_map];exact(List.nodup_range (n:=n)).imp fun h e=>h zo
def mA (C:List (List (Int×Rat))) (j a:Int):Rat:=pget (C.getD a.toNat []) j
theorem dotV_row {V:List Int} {r s x:Int→Rat} (h:∀a∈V,r a=s a):dotV V r x=dotV V s x:=by
 induction V with
 | nil=>rfl
 | cons a V ih=>rw[dotV_cons,dotV_cons,h a List.mem_cons_self,ih fun b hb=>h b (List.mem_cons_of_mem _ hb)]
theorem dotV_add (V:List Int) (r s x:Int→Rat):dotV V (fun a=>r a+s a) x=dotV V r x+dotV V s x:=by
 induction V with
 | nil=>show(0:Rat)=0+0;grind
 | cons a V ih=>rw[dotV_cons,dotV_cons,dotV_cons,ih];grind
theorem dotV_zero (V:List Int) (x:Int→Rat):dotV V (fun _=>0) x=0:=by
 induction V with
 | nil=>rfl
 | cons a V ih=>rw[dotV_cons,ih];grind
theorem dotV_one {V:List Int} (hV:V.Nodup) (b:Int) (q:Rat) (x:Int→Rat):dotV V (fun a=>if a=b then q else 0) x=if b∈V then q*x b else 0:=by
 induction V with
 | nil=>rw[if_neg (by simp)];rfl
 | cons a V ih =>
  have⟨h1,h2⟩:=List.nodup_cons.1 hV;rw[dotV_cons,ih h2];by_cases e:a=b
  ·subst e;rw[if_pos rfl,if_neg h1,if_pos List.mem_cons_self];grind
  ·rw[if_neg e];by_cases h:b∈V
   ·rw[if_pos h,if_pos (List.mem_cons_of_mem _ h)];grind
   ·rw[if_neg h,if_neg (fun h3=>by rcases List.mem_cons.1 h3 with h4 | h4;exact e h4.symm;exact h h4)];grind
theorem dotV_ev {V:List Int} (hV:V.Nodup) (x:Int→Rat):∀{P:List (Int×Rat)},(∀t∈P,t.1∈V)→dotV V (pget P) x=ev P x
 | [],_=>dotV_zero V x
 | t :: P,h=>by
  have e:dotV V (pget (t :: P)) x=dotV V (fun a=>(if a=t.1 then t.2 else 0)+pget P a) x:=dotV_row fun a _=>by
   rw[zAe];by_cases h2:t.1=a
   ·rw[if_pos h2,if_pos h2.symm]
   ·rw[if_neg h2,if_neg (fun e=>h2 e.symm),Rat.zero_add]
  rw[e,dotV_add,dotV_one hV,if_pos (h t List.mem_cons_self),dotV_ev hV x (fun u hu=>h u (List.mem_cons_of_mem _ hu)),ev_cons]
section
variable {C:List (List (Int×Rat))} {n:Nat} {t:FacSt}
theorem row_dot (hl:C.length=n) (j:Nat) (hj:j<n) (x:Int→Rat):ev ((turnT C n).getD j []) x=dotV (plc n) (mA C (j:Int)) x:=by
 rw[turnT_get C hj,←dotV_ev (plc_nodup n) x (P:=turnF C (j:Int)) (fun t ht=>plc_mem.2 (by rw[←hl];exact turn_low C _ t ht))];refine dotV_row fun a ha=>?_;have h:=plc_mem.1 ha;rw[turn_get,if_pos (by rw[hl];exact h)];rfl
theorem lu_sol (hl:C.length=n) (h:facUp (facT C n) n=some t) (f:Int→Rat) (j:Int) (hj:j∈plc n):dotV (plc n) (mA C j) (back (fwd t.ST f) t.ST)=f j:=by
 have h1:=plc_mem.1 hj;have h2:=fac_ftran (lu_start hl) rfl h f j.toNat zo;have h3:=row_dot hl j.toNat zo (back (fwd t.ST f) t.ST);rw[Int.toNat_of_nonneg h1.1] at h2 h3;rw[←h3];exact h2
theorem lu_uniq (hl:C.length=n) (h:facUp (facT C n) n=some t) {x y:Int→Rat} (hxy:∀j∈plc n,dotV (plc n) (mA C j) x=dotV (plc n) (mA C j) y) (a:Int) (ha:a∈plc n):x a=y a:=by
 have h1:=plc_mem.1 ha;refine fac_uniq (lu_start hl) rfl h (fun j hj=>?_) a h1.1 h1.2;show ev ((turnT C n).getD j []) x=ev ((turnT C n).getD j []) y
 rw[row_dot hl j hj,row_dot hl j hj];exact hxy _ (plc_mem.2 zo)
theorem lu_sz (hl:C.length=n) (hn:1≤n) (h:facUp (facT C n) n=some t) {D S:Nat} (hD:∀j∈plc n,∀a∈plc n,sz (mA C j a)≤D) {f:Int→Rat} (hf:∀j∈plc n,sz (f j)≤S) (a:Int) (ha:a∈plc n):sz (back (fwd t.ST f) t.ST a)≤solG D S (n-1):=by
 refine sol_sz (n-1) (V:=plc n) (E:=(plc n).map fun j=>(mA C j,f j)) (by rw[plc_len];omega) (plc_nodup n) (fun e he=>?_) (fun y hy b hb=>?_) (fun e he=>?_) a ha
 ·obtain⟨j,hj,rfl⟩:=List.mem_map.1 he;exact lu_sol hl h f j hj
 ·refine lu_uniq hl h (fun j hj=>?_) b hb;rw[hy (mA C j,f j) (List.mem_map.2 ⟨j,hj,rfl⟩),lu_sol hl h f j hj]
 ·obtain⟨j,hj,rfl⟩:=List.mem_map.1 he;exact⟨fun b hb=>hD j hj b hb,hf j hj⟩
end
end Go.Proofs.YtjkgjiofmgapfaaGreatDoor
