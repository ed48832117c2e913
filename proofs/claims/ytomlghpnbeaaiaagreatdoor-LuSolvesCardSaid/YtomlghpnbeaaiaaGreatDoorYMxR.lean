/-
  Plain laws of matrices: the turned one, Times and Left as sums of products. By hand.
-/
import Derived.Test.YtomlghpnbeaaiaaGreatDoorYMxT
import Derived.Test.YtomlghpnbeaaiaaGreatDoorYMx2
namespace Go.Proofs.YtomlghpnbeaaiaaGreatDoor
theorem pget_dot (L:List (Int×Rat)) (a:Int):pdot [(a,1)] L=pget L a:=by
 rw[pdot_cons,pdot_nil,Rat.add_zero,Rat.one_mul]
theorem pdot_by (Y:List (Int×Rat)) (q:Rat):∀L:List (Int×Rat),pdot Y (L.map fun c=>(c.1,c.2*q))=pdot Y L*q
 | []=>by rw[List.map_nil,pdot_nil_right,Rat.zero_mul]
 | c :: L=>by rw[List.map_cons,pdot_cons_right,pdot_cons_right,pdot_by Y q L,Rat.add_mul,Rat.mul_assoc]
theorem pdot_append_right (Y A B:List (Int×Rat)):pdot Y (A++B)=pdot Y A+pdot Y B:=by rw[pdot_comm,pdot_append,pdot_comm A,pdot_comm B]
theorem idxP_get:∀(l:List Rat) (a:Int),pget (idxP l) a=if 0≤a∧a<(l.length:Int) then l.getD a.toNat 0 else 0:=by
 have key:∀(l:List Rat) (s:Nat) (a:Int),pget (l.mapIdx fun i q=>(((s+i:Nat):Int),q)) a=if(s:Int)≤a∧a<((s+l.length:Nat):Int) then l.getD (a.toNat-s) 0 else 0:=by
  intro l;induction l with
  | nil=>intro s a;rw[List.mapIdx_nil,pget_nil,if_neg (by rw[List.length_nil];omega)]
  | cons q l ih =>
   intro s a;rw[List.mapIdx_cons,zAe];have e:(l.mapIdx fun i q=>(((s+(i+1):Nat):Int),q))=l.mapIdx fun i q=>(((s+1+i:Nat):Int),q):=by
    congr 1
    funext i q
    congr 1
    omega
   rw[e,ih,List.length_cons];simp only[Nat.add_zero]
   by_cases h:(s:Int)=a
   ·rw[if_pos h,if_neg zo,if_pos zo,Rat.add_zero,show a.toNat-s=0 by omega];rfl
   ·rw[if_neg h];by_cases h2:(s:Int)≤a∧a<((s+(l.length+1):Nat):Int)
    ·rw[if_pos zo,if_pos h2,show a.toNat-s=(a.toNat-(s+1))+1 by omega,List.getD_cons_succ]
    ·rw[if_neg zo,if_neg h2]
 intro l a;have h:=key l 0 a;simp only[Nat.zero_add,Nat.sub_zero] at h
 unfold idxP
 simpa using h
theorem idxP_map_get {α:Type} (C:List α) (f:α→Rat) (a:Int) (d:α) (_hd:f d=0):pget (idxP (C.map f)) a=if 0≤a∧a<(C.length:Int) then f (C.getD a.toNat d) else 0:=by
 rw[idxP_get,List.length_map];split
 case isTrue h =>
  have hi:a.toNat<C.length:=zo;rw[List.getD_eq_getElem?_getD,List.getElem?_map,List.getD_eq_getElem?_getD,List.getElem?_eq_getElem hi];rfl
 case isFalse=>rfl
theorem times_dot (Y:List (Int×Rat)) (C:List (List (Int×Rat))):∀X:List (Int×Rat),pdot Y (timesP C X)=pdot X (idxP (C.map fun c=>pdot Y c))
 | []=>by show pdot Y []=_;rw[pdot_nil_right,pdot_nil]
 | t :: X=>by
  rw[timesP_cons,pdot_append_right,times_dot Y C X,pdot_cons];congr 1
  rw[idxP_map_get C (fun c=>pdot Y c) t.1 [] (pdot_nil_right Y)];split
  ·rw[pdot_by,Rat.mul_comm]
  ·rw[pdot_nil_right,Rat.mul_zero]
theorem times_get (C:List (List (Int×Rat))) (X:List (Int×Rat)) (a:Int):pget (timesP C X) a=pdot X (idxP (C.map fun c=>pget c a)):=by
 rw[←pget_dot,times_dot];congr 2
 exact List.map_congr_left fun c _=>pget_dot c a
def trnE (C:List (List (Int×Rat))):Nat→List (Int×Int×Rat)
 | 0=>[]
 | k+1=>trnE C k++(nrm (C.getD k [])).map fun x=>((k:Int),x.1,x.2)
def rowE (E:List (Int×Int×Rat)) (i:Int):List (Int×Rat):=(E.filter fun e=>decide (e.2.1=i)).map fun e=>(e.1,e.2.2)
def turnF (C:List (List (Int×Rat))) (i:Int):List (Int×Rat):=rowE (trnE C C.length) i
theorem rowE_append (E F:List (Int×Int×Rat)) (i:Int):rowE (E++F) i=rowE E i++rowE F i:=by unfold rowE;rw[List.filter_append,List.map_append]
theorem rowE_one (e:Int×Int×Rat) (i:Int):rowE [e] i=if e.2.1=i then [(e.1,e.2.2)] else []:=by
 unfold rowE
 rw[List.filter_cons,List.filter_nil];by_cases h:e.2.1=i
 ·rw[if_pos h,if_pos (by simpa using h)];rfl
 ·rw[if_neg h,if_neg (by simpa using h)];rfl
theorem rowE_col (k i:Int):∀{L:List (Int×Rat)},Nrm L→rowE (L.map fun x=>(k,x.1,x.2)) i=if pget L i=0 then [] else [(k,pget L i)]
 | [],_=>by rw[pget_nil,if_pos rfl];rfl
 | x :: L,h=>by
  have hr:=Rise.cons.1 h.rise;have e:rowE ((x :: L).map fun x=>(k,x.1,x.2)) i=rowE [(k,x.1,x.2)] i++rowE (L.map fun x=>(k,x.1,x.2)) i:=by rw[←rowE_append];rfl
  rw[e,rowE_one,rowE_col k i h.tail,zAe];by_cases hx:x.1=i
  ·have h0:pget L i=0:=pget_none fun y hy=>by have:=hr.1 y hy;omega
   have hz:=h.nz x List.mem_cons_self;simp only
   rw[if_pos hx,if_pos h0,if_pos hx,h0,Rat.add_zero,if_neg hz];rfl
  ·simp only
   rw[if_neg hx,if_neg hx];rfl
theorem trn_step (C:List (List (Int×Rat))) (k:Nat) (i:Int):rowE (trnE C (k+1)) i=rowE (trnE C k) i++(if pget (C.getD k []) i=0 then [] else [((k:Int),pget (C.getD k []) i)]):=by
 show rowE (trnE C k++_) i=_
 rw[rowE_append,rowE_col _ _ (nrm_nrm _),nrm_get]
theorem trn_low (C:List (List (Int×Rat))) (i:Int):∀k,∀x∈rowE (trnE C k) i,0≤x.1∧x.1<(k:Int)
 | 0,x,h=>by cases h
 | k+1,x,h=>by
  rw[trn_step] at h;rcases List.mem_append.1 h with h | h
  ·have:=trn_low C i k x h;omega
  ·split at h
   ·cases h
   ·obtain rfl:=List.mem_singleton.1 h;simp only
    omega
theorem trn_nrm (C:List (List (Int×Rat))) (i:Int):∀k,Nrm (rowE (trnE C k) i)
 | 0=>⟨List.Pairwise.nil,fun x hx=>by cases hx⟩
 | k+1=>by
  rw[trn_step];split
  ·rw[List.append_nil];exact trn_nrm C i k
  ·exact(trn_nrm C i k).snoc (fun o ho=>(trn_low C i k o ho).2) (by assumption)
theorem trn_get (C:List (List (Int×Rat))) (i:Int):∀(k:Nat) (a:Int),pget (rowE (trnE C k) i) a=if 0≤a∧a<(k:Int) then pget (C.getD a.toNat []) i else 0
 | 0,a=>by rw[if_neg zo];rfl
 | k+1,a=>by
  rw[trn_step,pget_append,trn_get C i k a];have e:pget (if pget (C.getD k []) i=0 then [] else [((k:Int),pget (C.getD k []) i)]) a=if(k:Int)=a then pget (C.getD k []) i else 0:=by
   by_cases h:pget (C.getD k []) i=0
   ·rw[if_pos h,pget_nil,h];split<;>rfl
   ·rw[if_neg h,pget_one]
  rw[e];by_cases h:(k:Int)=a
  ·rw[if_neg zo,if_pos h,if_pos zo,Rat.zero_add,show a.toNat=k by omega]
  ·rw[if_neg h,Rat.add_zero];by_cases h2:0≤a∧a<(k:Int)
   ·rw[if_pos h2,if_pos zo]
   ·rw[if_neg h2,if_neg zo]
theorem turn_low (C:List (List (Int×Rat))) (i:Int):∀x∈turnF C i,0≤x.1∧x.1<(C.length:Int):=trn_low C i _
theorem turn_nrm (C:List (List (Int×Rat))) (i:Int):Nrm (turnF C i):=trn_nrm C i _
theorem turn_get (C:List (List (Int×Rat))) (i a:Int):pget (turnF C i) a=if 0≤a∧a<(C.length:Int) then pget (C.getD a.toNat []) i else 0:=trn_get C i _ a
def turnT (C:List (List (Int×Rat))) (n:Nat):List (List (Int×Rat)):=(List.range n).map fun(i:Nat)=>turnF C (i:Int)
theorem turnT_len (C:List (List (Int×Rat))) (n:Nat):(turnT C n).length=n:=by unfold turnT;rw[List.length_map,List.length_range]
theorem turnT_get (C:List (List (Int×Rat))) {n i:Nat} (h:i<n):(turnT C n).getD i []=turnF C (i:Int):=by
 unfold turnT
 rw[List.getD_eq_getElem?_getD,List.getElem?_map,List.getElem?_range h];rfl
theorem pdot_tot {Q:List (Int×Rat)} {K:Nat} (hQ:∀a,sz (pget Q a)≤K):∀P:List (Int×Rat),sz (pdot P Q)≤1+wtot P+P.length*K
 | []=>Nat.le_trans sz_zero zo
 | x :: P=>by
  have h1:=pdot_tot hQ P;have h2:=sz_add (sz_mul (Nat.le_refl (sz x.2)) (hQ x.1)) (Nat.le_refl (sz (pdot P Q)));rw[pdot_cons,List.length_cons,Nat.add_mul,Nat.one_mul];show _≤1+(sz x.2+1+wtot P)+_
  omega
open Go.RowKit Tw
def RowsE (V:List Vc) (E:List (Int×Int×Rat)):Prop:=∀(a:Nat) (v:Vc),V[a]?=some v→prs v.L=rowE E (a:Int)
def colE (k:Nat) (L:List (Int×Rat)):List (Int×Int×Rat):=L.map fun x=>((k:Int),x.1,x.2)
theorem colE_snoc (k:Nat) {T:List Tm} {j:Nat} {x:Tm} (h:T[j]?=some x):colE k (prs (T.take (j+1)))=colE k (prs (T.take j))++[((k:Int),x.at_,x.x.q)]:=by
 rw[zAk h,zAj];exact List.map_append
theorem RowsE.start (n:Nat):RowsE (List.replicate n zVc) []:=fun a v hv=>by rw[List.eq_of_mem_replicate (List.mem_of_getElem? hv)];rfl
theorem RowsE.step {V:List Vc} {E:List (Int×Int×Rat)} (h:RowsE V E) {a:Nat} {u:Vc} (hu:V[a]?=some u) (H:Option Addr) (m c:Nat) (t:Tm) (k:Int):RowsE (V.set a ⟨H,m,c,u.L++[⟨k,t.x⟩]⟩) (E++[(k,(a:Int),t.x.q)]):=fun b v hv=>by
 have ha:=(List.getElem?_eq_some_iff.1 hu).1;rw[rowE_append,rowE_one];by_cases e:b=a
 ·subst e;rw[List.getElem?_set_self ha,Option.some.injEq] at hv;subst hv;rw[if_pos rfl,zAj,h b u hu];rfl
 ·rw[List.getElem?_set_ne (fun e2=>e e2.symm)] at hv;rw[if_neg (by simp only;omega),List.append_nil];exact h b v hv
theorem RowsE.done {V:List Vc} {C:List (List (Int×Rat))} {n:Nat} (h:RowsE V (trnE C C.length)) (hl:V.length=n):V.map (fun v=>prs v.L)=turnT C n:=by
 apply List.ext_getElem?
 intro a;unfold turnT
 rw[List.getElem?_map,List.getElem?_map];by_cases ha:a<n
 ·rw[List.getElem?_range ha,List.getElem?_eq_getElem zo];simp only[Option.map_some]
  rw[h a _ (List.getElem?_eq_getElem zo)];rfl
 ·rw[List.getElem?_eq_none zo,List.getElem?_eq_none (by rw[List.length_range];omega)];rfl
theorem trnE_col {C:List (List (Int×Rat))} {k:Nat} {c:List (Int×Rat)} (h:C[k]?=some c):trnE C (k+1)=trnE C k++colE k (nrm c):=by
 show trnE C k++_=_
 rw[List.getD_eq_getElem?_getD,h];rfl
theorem trn_len (C:List (List (Int×Rat))) (i:Int):∀k,(rowE (trnE C k) i).length≤k
 | 0=>Nat.le_refl _
 | k+1=>by
  have:=trn_len C i k;rw[trn_step,List.length_append];split
  ·simp only[List.length_nil];omega
  ·simp only[List.length_cons,List.length_nil];omega
theorem RowsE.small {V:List Vc} {C:List (List (Int×Rat))} {k a:Nat} {L:List (Int×Rat)} {u:Vc} (h:RowsE V (trnE C k++colE k L)) (hu:V[a]?=some u):u.L.length≤k+L.length:=by
 have h1:=congrArg List.length (h a u hu);have h2:=trn_len C (a:Int) k;have h3:(rowE (colE k L) (a:Int)).length≤L.length:=by
  unfold rowE colE
  rw[List.length_map];refine Nat.le_trans (List.length_filter_le _ _) ?_;rw[List.length_map];exact Nat.le_refl _
 rw[zAi,rowE_append,List.length_append] at h1;omega
theorem OnT.one {w:World} {M:Nat} {s s':Bool} {A A':Option Addr} {c l c' l':Nat} {q:Rat} (at_:Int) (h:RN w s A c l s' A' c' l' q) (hs:sz q+1≤M):OnT w [⟨at_,⟨s,A,c,l,s',A',c',l',q,true⟩⟩] (fun _=>M):=fun t ht=>by
 obtain rfl:=List.mem_singleton.1 ht;exact⟨h,rfl,hs⟩
theorem lu_start {C:List (List (Int×Rat))} {n:Nat} (hl:C.length=n):FacInv n ⟨turnT C n,List.replicate n true,[]⟩:=FacInv.start (turnT_len C n) fun k=>by
 by_cases hk:k<n
 ·rw[turnT_get C hk];exact⟨turn_nrm C _,fun t ht=>by rw[←hl];exact turn_low C _ t ht⟩
 ·rw[List.getD_eq_getElem?_getD,List.getElem?_eq_none (by rw[turnT_len];omega)];exact⟨⟨List.Pairwise.nil,fun x hx=>(by cases hx)⟩,fun x hx=>(by cases hx)⟩
def facT (C:List (List (Int×Rat))) (n:Nat):FacSt:=⟨turnT C n,List.replicate n true,[]⟩
def facST (C:List (List (Int×Rat))) (n:Nat):List StepF:=match facUp (facT C n) n with | some t=>t.ST | none=>[]
theorem facST_eq {C:List (List (Int×Rat))} {n:Nat} {t:FacSt} (h:facUp (facT C n) n=some t):facST C n=t.ST:=by unfold facST;rw[h]
def plc (n:Nat):List Int:=(List.range n).map fun(i:Nat)=>(i:Int)
theorem plc_mem {n:Nat} {a:Int}:a∈plc n↔0≤a∧a<(n:Int):=by
 unfold plc
 rw[List.mem_map];constructor
 ·rintro⟨i,hi,rfl⟩;have:=List.mem_range.1 hi;omega
 ·intro h;exact⟨a.toNat,List.mem_range.2 zo,zo⟩
theorem plc_len (n:Nat):(plc n).length=n:=by unfold plc;rw[List.length_map,List.length_range]
theorem plc_nodup (n:Nat):(plc n).Nodup:=by
 unfold plc List.Nodup
 rw[List.pairwise_map];exact(List.nodup_range (n:=n)).imp fun h e=>h zo
def mA (C:List (List (Int×Rat))) (j a:Int):Rat:=pget (C.getD a.toNat []) j
theorem dotV_row {V:List Int} {r s x:Int→Rat} (h:∀a∈V,r a=s a):dotV V r x=dotV V s x:=by
 induction V with
 | nil=>rfl
 | cons a V ih=>rw[zAg,zAg,h a List.mem_cons_self,ih fun b hb=>h b (List.mem_cons_of_mem _ hb)]
theorem dotV_comm (V:List Int) (r x:Int→Rat):dotV V r x=dotV V x r:=by
 induction V with
 | nil=>rfl
 | cons a V ih=>rw[zAg,zAg,ih,Rat.mul_comm]
theorem dotV_add (V:List Int) (r s x:Int→Rat):dotV V (fun a=>r a+s a) x=dotV V r x+dotV V s x:=by
 induction V with
 | nil=>show(0:Rat)=0+0;grind
 | cons a V ih=>rw[zAg,zAg,zAg,ih];grind
theorem dotV_scale (V:List Int) (r x:Int→Rat) (q:Rat):dotV V (fun a=>q*r a) x=q*dotV V r x:=by
 induction V with
 | nil=>show(0:Rat)=q*0;grind
 | cons a V ih=>rw[zAg,zAg,ih];grind
theorem dotV_zero (V:List Int) (x:Int→Rat):dotV V (fun _=>0) x=0:=by
 induction V with
 | nil=>rfl
 | cons a V ih=>rw[zAg,ih];grind
theorem dotV_one {V:List Int} (hV:V.Nodup) (b:Int) (q:Rat) (x:Int→Rat):dotV V (fun a=>if a=b then q else 0) x=if b∈V then q*x b else 0:=by
 induction V with
 | nil=>rw[if_neg (by simp)];rfl
 | cons a V ih =>
  have⟨h1,h2⟩:=List.nodup_cons.1 hV;rw[zAg,ih h2];by_cases e:a=b
  ·subst e;rw[if_pos rfl,if_neg h1,if_pos List.mem_cons_self];grind
  ·rw[if_neg e];by_cases h:b∈V
   ·rw[if_pos h,if_pos (List.mem_cons_of_mem _ h)];grind
   ·rw[if_neg h,if_neg (fun h3=>by rcases List.mem_cons.1 h3 with h4 | h4;exact e h4.symm;exact h h4)];grind
theorem dotV_ev {V:List Int} (hV:V.Nodup) (x:Int→Rat):∀{P:List (Int×Rat)},(∀t∈P,t.1∈V)→dotV V (pget P) x=ev P x
 | [],_=>dotV_zero V x
 | t :: P,h=>by
  have e:dotV V (pget (t :: P)) x=dotV V (fun a=>(if a=t.1 then t.2 else 0)+pget P a) x:=dotV_row fun a _=>by
   rw[zAe];by_cases h2:t.1=a
   ·rw[if_pos h2,if_pos h2.symm]
   ·rw[if_neg h2,if_neg (fun e=>h2 e.symm),Rat.zero_add]
  rw[e,dotV_add,dotV_one hV,if_pos (h t List.mem_cons_self),dotV_ev hV x (fun u hu=>h u (List.mem_cons_of_mem _ hu)),ev_cons]
theorem dotV_swap (V W:List Int) (M:Int→Int→Rat) (x y:Int→Rat):dotV V y (fun j=>dotV W (fun a=>M j a) x)=dotV W (fun a=>dotV V (fun j=>M j a) y) x:=by
 induction V with
 | nil=>exact(dotV_zero W x).symm
 | cons j V ih =>
  rw[zAg,ih];have e:dotV W (fun a=>dotV (j :: V) (fun j=>M j a) y) x=dotV W (fun a=>y j*M j a+dotV V (fun j=>M j a) y) x:=dotV_row fun a _=>by rw[zAg,Rat.mul_comm]
  rw[e,dotV_add,dotV_scale]
section
variable {C:List (List (Int×Rat))} {n:Nat} {t:FacSt}
theorem row_dot (hl:C.length=n) (j:Nat) (hj:j<n) (x:Int→Rat):ev ((turnT C n).getD j []) x=dotV (plc n) (mA C (j:Int)) x:=by
 rw[turnT_get C hj,←dotV_ev (plc_nodup n) x (P:=turnF C (j:Int)) (fun t ht=>plc_mem.2 (by rw[←hl];exact turn_low C _ t ht))];refine dotV_row fun a ha=>?_;have h:=plc_mem.1 ha;rw[turn_get,if_pos (by rw[hl];exact h)];rfl
theorem lu_sol (hl:C.length=n) (h:facUp (facT C n) n=some t) (f:Int→Rat) (j:Int) (hj:j∈plc n):dotV (plc n) (mA C j) (back (fwd t.ST f) t.ST)=f j:=by
 have h1:=plc_mem.1 hj;have h2:=fac_ftran (lu_start hl) rfl h f j.toNat zo;have h3:=row_dot hl j.toNat zo (back (fwd t.ST f) t.ST);rw[Int.toNat_of_nonneg h1.1] at h2 h3;rw[←h3];exact h2
theorem lu_uniq (hl:C.length=n) (h:facUp (facT C n) n=some t) {x y:Int→Rat} (hxy:∀j∈plc n,dotV (plc n) (mA C j) x=dotV (plc n) (mA C j) y) (a:Int) (ha:a∈plc n):x a=y a:=by
 have h1:=plc_mem.1 ha;refine fac_uniq (lu_start hl) rfl h (fun j hj=>?_) a h1.1 h1.2;show ev ((turnT C n).getD j []) x=ev ((turnT C n).getD j []) y
 rw[row_dot hl j hj,row_dot hl j hj];exact hxy _ (plc_mem.2 zo)
theorem lu_left (hl:C.length=n) (h:facUp (facT C n) n=some t) (c:Int→Rat) (a:Int) (ha:a∈plc n):dotV (plc n) (fun j=>mA C j a) (btDn t.ST (btUp t.ST c fun _=>0))=c a:=by
 have h1:=plc_mem.1 ha;have h2:=fac_btran (lu_start hl) rfl h c a h1.1 h1.2;obtain⟨h3,h4,_⟩:=fac_sys (lu_start hl) rfl n h;rw[←h2];obtain⟨y,hy⟩:∃y,y=btDn t.ST (btUp t.ST c fun _=>0):=⟨_,rfl⟩;rw[←hy];have hr:=h3.rows;have hall:∀j,j<n→j∈rowsN t.ST:=fun j hj=>pig_all hr.1 hr.2 (by unfold rowsN;rw[List.length_map,h4]) j hj
 -- a sum over the rows of the steps is a sum over the places
 have e1:∀l:List Nat,(∀j∈l,j<n)→sumR l y (turnT C n) a=dotV (l.map fun(i:Nat)=>(i:Int)) (fun j=>mA C j a) y:=fun l hl2=>by
  induction l with
  | nil=>rfl
  | cons i l ih =>
   rw[sumR_cons,List.map_cons,zAg,ih (fun j hj=>hl2 j (List.mem_cons_of_mem _ hj)),turnT_get C (hl2 i List.mem_cons_self),turn_get,if_pos (by rw[hl];exact h1),Rat.mul_comm];rfl
 show dotV (plc n) (fun j=>mA C j a) y=sumR (rowsN t.ST) y (turnT C n) a
 rw[e1 _ hr.2]
 -- both lists hold the same places, each once
 have e2:∀(L M:List Int),L.Nodup→M.Nodup→(∀x,x∈L↔x∈M)→dotV L (fun j=>mA C j a) y=dotV M (fun j=>mA C j a) y:=fun L=>by
  induction L with
  | nil =>
   intro M _ _ h;cases M with
   | nil=>rfl
   | cons m M=>exact absurd ((h m).2 List.mem_cons_self) (by simp)
  | cons x L ih =>
   intro M hL hM h;have⟨h5,h6⟩:=List.nodup_cons.1 hL;have hx:x∈M:=(h x).1 List.mem_cons_self;have h7:=ih (M.erase x) h6 (hM.erase x) (fun z=>by
    rw[List.Nodup.mem_erase_iff hM,←h z,List.mem_cons];constructor
    ·intro hz;exact⟨fun e=>h5 (e ▸ hz),.inr hz⟩
    ·rintro⟨h8,h9 | h9⟩
     ·exact absurd h9 h8
     ·exact h9)
   rw[zAg,h7];clear h7 ih h;induction M with
   | nil=>cases hx
   | cons m M ih2 =>
    by_cases e:m=x
    ·subst e;rw[List.erase_cons_head,zAg]
    ·rcases List.mem_cons.1 hx with h8 | h8
     ·exact absurd h8.symm e
     ·rw[List.erase_cons_tail (by simpa using e),zAg,zAg,←ih2 (List.nodup_cons.1 hM).2 h8];grind
 refine e2 _ _ (plc_nodup n) ?_ fun x=>?_
 ·unfold List.Nodup
  rw[List.pairwise_map];exact List.Pairwise.imp (fun h e=>h zo) hr.1
 ·rw[plc_mem,List.mem_map];constructor
  ·intro hx;exact⟨x.toNat,hall _ zo,zo⟩
  ·rintro⟨i,hi,rfl⟩;have:=hr.2 i hi;omega
theorem lu_left_uniq (hl:C.length=n) (h:facUp (facT C n) n=some t) {x y:Int→Rat} (hxy:∀a∈plc n,dotV (plc n) (fun j=>mA C j a) x=dotV (plc n) (fun j=>mA C j a) y) (i:Int) (hi:i∈plc n):x i=y i:=by
 obtain⟨z,hz⟩:∃z,z=back (fwd t.ST (unit i)) t.ST:=⟨_,rfl⟩;have h1:∀j∈plc n,dotV (plc n) (mA C j) z=unit i j:=fun j hj=>by rw[hz];exact lu_sol hl h (unit i) j hj
 have key:∀u:Int→Rat,u i=dotV (plc n) (fun a=>dotV (plc n) (fun j=>mA C j a) u) z:=fun u=>by
  rw[←dotV_swap (plc n) (plc n) (fun j a=>mA C j a) z u,dotV_congr (y:=unit i) h1,dotV_comm];have e:dotV (plc n) (unit i) u=dotV (plc n) (fun a=>if a=i then 1 else 0) u:=rfl;rw[e,dotV_one (plc_nodup n),if_pos hi,Rat.one_mul]
 rw[key x,key y];exact dotV_row hxy
theorem lu_sz (hl:C.length=n) (hn:1≤n) (h:facUp (facT C n) n=some t) {D S:Nat} (hD:∀j∈plc n,∀a∈plc n,sz (mA C j a)≤D) {f:Int→Rat} (hf:∀j∈plc n,sz (f j)≤S) (a:Int) (ha:a∈plc n):sz (back (fwd t.ST f) t.ST a)≤solG D S (n-1):=by
 refine sol_sz (n-1) (V:=plc n) (E:=(plc n).map fun j=>(mA C j,f j)) (by rw[plc_len];omega) (plc_nodup n) (fun e he=>?_) (fun y hy b hb=>?_) (fun e he=>?_) a ha
 ·obtain⟨j,hj,rfl⟩:=List.mem_map.1 he;exact lu_sol hl h f j hj
 ·refine lu_uniq hl h (fun j hj=>?_) b hb;rw[hy (mA C j,f j) (List.mem_map.2 ⟨j,hj,rfl⟩),lu_sol hl h f j hj]
 ·obtain⟨j,hj,rfl⟩:=List.mem_map.1 he;exact⟨fun b hb=>hD j hj b hb,hf j hj⟩
theorem lu_left_sz (hl:C.length=n) (hn:1≤n) (h:facUp (facT C n) n=some t) {D S:Nat} (hD:∀j∈plc n,∀a∈plc n,sz (mA C j a)≤D) {c:Int→Rat} (hc:∀j∈plc n,sz (c j)≤S) (a:Int) (ha:a∈plc n):sz (btDn t.ST (btUp t.ST c fun _=>0) a)≤solG D S (n-1):=by
 refine sol_sz (n-1) (V:=plc n) (E:=(plc n).map fun a=>((fun j=>mA C j a),c a)) (by rw[plc_len];omega) (plc_nodup n) (fun e he=>?_) (fun y hy b hb=>?_) (fun e he=>?_) a ha
 ·obtain⟨j,hj,rfl⟩:=List.mem_map.1 he;exact lu_left hl h c j hj
 ·refine lu_left_uniq hl h (fun j hj=>?_) b hb;rw[hy ((fun i=>mA C i j),c j) (List.mem_map.2 ⟨j,hj,rfl⟩),lu_left hl h c j hj]
 ·obtain⟨j,hj,rfl⟩:=List.mem_map.1 he;exact⟨fun b hb=>hD b hb j hj,hc j hj⟩
end
theorem lay_get (n:Nat) (F:Int→Rat) (a:Int):pget (nrm (idxP ((List.range n).map fun(i:Nat)=>F (i:Int)))) a=if 0≤a∧a<(n:Int) then F a else 0:=by
 rw[nrm_get,idxP_get,List.length_map,List.length_range];split
 ·rename_i h
  rw[List.getD_eq_getElem?_getD,List.getElem?_map,List.getElem?_range zo];show F ((a.toNat:Nat):Int)=_
  rw[Int.toNat_of_nonneg h.1]
 ·rfl
theorem lay_in (n:Nat) (F:Int→Rat):∀t∈nrm (idxP ((List.range n).map fun(i:Nat)=>F (i:Int))),0≤t.1∧t.1<(n:Int) :=
 (nrm_nrm _).place (p:=fun a=>0≤a∧a<(n:Int)) fun a ha=>by
  rw[lay_get] at ha;by_cases h:0≤a∧a<(n:Int)
  ·exact h
  ·rw[if_neg h] at ha;exact absurd rfl ha
theorem times_dotV (C:List (List (Int×Rat))) (X:List (Int×Rat)) (j:Int):pget (timesP C X) j=dotV (plc C.length) (mA C j) (pget X):=by
 have h:pget (timesP C X) j=pdot (idxP (C.map fun c=>pget c j)) X:=by rw[times_get,pdot_comm]
 rw[h,pdot_ev,←dotV_ev (plc_nodup C.length) (pget X) (P:=idxP (C.map fun c=>pget c j)) (fun t ht=>?_)]
 ·refine dotV_row fun a ha=>?_;have h1:=plc_mem.1 ha;rw[idxP_map_get C (fun c=>pget c j) a [] (pget_nil j),if_pos h1];rfl
 ·unfold idxP at ht
  obtain⟨i,hi,rfl⟩:=List.mem_mapIdx.1 ht;rw[List.length_map] at hi;exact plc_mem.2 (by simp only;omega)
theorem left_dotV {C:List (List (Int×Rat))} {n:Nat} (hC:∀c∈C,∀t∈c,0≤t.1∧t.1<(n:Int)) (Y:List (Int×Rat)) (a:Int):pdot Y (C.getD a.toNat [])=dotV (plc n) (fun j=>mA C j a) (pget Y):=by
 rw[pdot_comm,pdot_ev,←dotV_ev (plc_nodup n) (pget Y) (P:=C.getD a.toNat []) (fun t ht=>?_)]
 ·rfl
 ·rw[List.getD_eq_getElem?_getD] at ht;cases h:C[a.toNat]? with
  | none=>rw[h] at ht;cases ht
  | some c =>
   rw[h] at ht;exact plc_mem.2 (hC c (List.mem_of_getElem? h) t ht)
theorem times_in {C:List (List (Int×Rat))} {k:Int} (hC:∀c∈C,∀x∈c,0≤x.1∧x.1<k) (X:List (Int×Rat)):∀y∈nrm (timesP C X),0≤y.1∧y.1<k :=
 (nrm_nrm _).place (p:=fun a=>0≤a∧a<k) fun a ha=>by
  rw[nrm_get] at ha;obtain⟨t,ht,rfl⟩:=pget_mem ha;unfold timesP at ht
  obtain⟨x,_,hx⟩:=List.mem_flatMap.1 ht;split at hx
  ·obtain⟨c,hc,rfl⟩:=List.mem_map.1 hx;rw[List.getD_eq_getElem?_getD] at hc;cases h:C[x.1.toNat]? with
   | none=>rw[h] at hc;cases hc
   | some d=>rw[h] at hc;exact hC d (List.mem_of_getElem? h) c hc
  ·cases hx
def layF (n:Nat) (F:Int→Rat):List (Int×Rat):=nrm (idxP ((List.range n).map fun(i:Nat)=>F (i:Int)))
theorem layF_dot (n:Nat) (F r:Int→Rat):dotV (plc n) r (pget (layF n F))=dotV (plc n) r F:=dotV_congr fun a ha=>by
 unfold layF
 rw[lay_get,if_pos (plc_mem.1 ha)]
theorem layF_ext {n:Nat} {F:Int→Rat} {P:List (Int×Rat)} (hf:∀x∈nrm P,0≤x.1∧x.1<(n:Int)) (h:∀a∈plc n,F a=pget P a):layF n F=nrm P:=nrm_ext fun a=>by
 have h1:=lay_get n F a;rw[nrm_get] at h1;rw[h1];by_cases ha:0≤a∧a<(n:Int)
 ·rw[if_pos ha,h a (plc_mem.2 ha)]
 ·rw[if_neg ha,←nrm_get,pget_none (a:=a) fun x hx e=>ha (e ▸ hf x hx)]
theorem mA_out {C:List (List (Int×Rat))} {n:Nat} (hC:∀c∈C,∀x∈c,0≤x.1∧x.1<(n:Int)) {j:Int} (hj:¬(0≤j∧j<(n:Int))) (a:Int):mA C j a=0:=by
 unfold mA
 rw[List.getD_eq_getElem?_getD];cases h:C[a.toNat]? with
 | none=>rfl
 | some c=>exact pget_none fun x hx e=>hj (e ▸ hC c (List.mem_of_getElem? h) x hx)
section
variable {C:List (List (Int×Rat))} {n:Nat} {t:FacSt} {P:List (Int×Rat)}
theorem dot_nrm (r:Int→Rat) (X:List (Int×Rat)):dotV (plc n) r (pget (nrm X))=dotV (plc n) r (pget X):=dotV_congr fun a _=>nrm_get X a
theorem law_ftran (hl:C.length=n) (hC:∀c∈C,∀x∈c,0≤x.1∧x.1<(n:Int)) (h:facUp (facT C n) n=some t) (hf:∀x∈nrm P,0≤x.1∧x.1<(n:Int)):nrm (timesP C (nrm (layF n (back (fwd t.ST (pget P)) t.ST))))=nrm P:=nrm_ext fun a=>by
 rw[times_dotV,hl,dot_nrm,layF_dot];by_cases ha:0≤a∧a<(n:Int)
 ·exact lu_sol hl h _ a (plc_mem.2 ha)
 ·rw[dotV_row (s:=fun _=>0) fun b _=>mA_out hC ha b,dotV_zero,←nrm_get P,pget_none (a:=a) fun x hx e=>ha (e ▸ hf x hx)]
theorem law_btran (hl:C.length=n) (hC:∀c∈C,∀x∈c,0≤x.1∧x.1<(n:Int)) (h:facUp (facT C n) n=some t) (hf:∀x∈nrm P,0≤x.1∧x.1<(n:Int)):nrm (idxP (C.map fun x=>pdot (layF n (btDn t.ST (btUp t.ST (pget P) fun _=>0))) x))=nrm P:=nrm_ext fun a=>by
 rw[idxP_map_get C _ a [] (by rw[pdot_comm];rfl),hl];by_cases ha:0≤a∧a<(n:Int)
 ·rw[if_pos ha,left_dotV hC,layF_dot];exact lu_left hl h _ a (plc_mem.2 ha)
 ·rw[if_neg ha,←nrm_get P,pget_none (a:=a) fun x hx e=>ha (e ▸ hf x hx)]
theorem law_ftran_back (hl:C.length=n) (h:facUp (facT C n) n=some t) (hf:∀x∈nrm P,0≤x.1∧x.1<(n:Int)):layF n (back (fwd t.ST (pget (nrm (timesP C (nrm P))))) t.ST)=nrm P:=layF_ext hf fun a ha=>by
 refine lu_uniq hl h (fun j hj=>?_) a ha;rw[lu_sol hl h _ j hj,nrm_get,times_dotV,hl,dot_nrm]
theorem law_btran_back (hl:C.length=n) (hC:∀c∈C,∀x∈c,0≤x.1∧x.1<(n:Int)) (h:facUp (facT C n) n=some t) (hf:∀x∈nrm P,0≤x.1∧x.1<(n:Int)):layF n (btDn t.ST (btUp t.ST (pget (nrm (idxP (C.map fun x=>pdot P x)))) fun _=>0))=nrm P:=layF_ext hf fun a ha=>by
 refine lu_left_uniq hl h (fun b hb=>?_) a ha;rw[lu_left hl h _ b hb,nrm_get,idxP_map_get C _ b [] (by rw[pdot_comm];rfl),hl,if_pos (plc_mem.1 hb),left_dotV hC]
end
theorem left_in {C:List (List (Int×Rat))} {n:Nat} (hl:C.length=n) (P:List (Int×Rat)):∀x∈nrm (idxP (C.map fun x=>pdot P x)),0≤x.1∧x.1<(n:Int) :=
 (nrm_nrm _).place (p:=fun a=>0≤a∧a<(n:Int)) fun a ha=>by
  rw[nrm_get,idxP_map_get C _ a [] (by rw[pdot_comm];rfl),hl] at ha;by_cases h:0≤a∧a<(n:Int)
  ·exact h
  ·rw[if_neg h] at ha;exact absurd rfl ha
theorem sol_small {n S:Nat} (hn:n≤14) (hS:S≤2000):solG 3 S (n-1)+2≤490000000∧solG 3 S (n-1)+2≤2 ^ n*S+2*facM 4 n:=by
 have h1:=solG_le (n-1) 3 S;have h2:∀k:Fin 15,2 ^ (k.val-1)*2000+2*elD 3 (k.val-1)≤489999998∧2*elD 3 (k.val-1)+2≤2*facM 4 k.val:=by decide +kernel
 have h3:=h2 ⟨n,zo⟩;have h4:2 ^ (n-1)*S≤2 ^ (n-1)*2000:=Nat.mul_le_mul_left _ hS;have h5:2 ^ (n-1)*S≤2 ^ n*S:=Nat.mul_le_mul_right _ (Nat.pow_le_pow_right zo zo);simp only at h3
 omega
theorem pow_small {n S:Nat} (hn:n≤14) (hS:S≤2000):2 ^ n*S≤32768000:=Nat.le_trans (Nat.mul_le_mul (Nat.pow_le_pow_right zo hn) hS) zd
theorem fac_small {n:Nat} (hn:n≤14):facM 4 n≤2684354556:=Nat.le_trans (facM_mono 4 hn) zd
end Go.Proofs.YtomlghpnbeaaiaaGreatDoor
