import Derived.Test.YtfpbmpllildbaaaGreatDoorYMxT
import Derived.Test.YtfpbmpllildbaaaGreatDoorYMx2
namespace Go.Proofs.YtfpbmpllildbaaaGreatDoor
theorem pget_dot (L:List (Int×Rat)) (a:Int):pdot [(a,1)] L=pget L a:=by
 rw[pdot_cons,pdot_nil,yC,Rat.one_mul]
theorem pdot_by (Y:List (Int×Rat)) (q:Rat):∀L:List (Int×Rat),pdot Y (L.map fun c=>(c.1,c.2*q))=pdot Y L*q
 | []=>by rw[List.map_nil,pdot_nil_right,qE]
 | c :: L=>by rw[wF,pdot_cons_right,pdot_cons_right,pdot_by Y q L,Rat.add_mul,Rat.mul_assoc]
theorem pdot_append_right (Y A B:List (Int×Rat)):pdot Y (A++B)=pdot Y A+pdot Y B:=by rw[pdot_comm,pdot_append,pdot_comm A,pdot_comm B]
theorem idxP_get:∀(l:List Rat) (a:Int),pget (idxP l) a=if 0≤a∧a<(l.length:Int) then l.getD a.toNat 0 else 0:=by
 have key:∀(l:List Rat) (s:Nat) (a:Int),pget (l.mapIdx fun i q=>(((s+i:Nat):Int),q)) a=if(s:Int)≤a∧a<((s+l.length:Nat):Int) then l.getD (a.toNat-s) 0 else 0:=by
  intro l;induction l with
  | nil=>intro s a;rw[List.mapIdx_nil,pget_nil,yA (by rw[List.length_nil];omega)]
  | cons q l ih =>
   intro s a;rw[List.mapIdx_cons,zAe];have e:(l.mapIdx fun i q=>(((s+(i+1):Nat):Int),q))=l.mapIdx fun i q=>(((s+1+i:Nat):Int),q):=by
    congr 1
    funext i q
    congr 1
    omega
   rw[e,ih,wC];simp only[sD]
   by_cases h:(s:Int)=a
   ·rw[bB h,yA zo,bB zo,yC,show a.toNat-s=0 by omega];rfl
   ·rw[yA h];by_cases h2:(s:Int)≤a∧a<((s+(l.length+1):Nat):Int)
    ·rw[bB zo,bB h2,show a.toNat-s=(a.toNat-(s+1))+1 by omega,List.getD_cons_succ]
    ·rw[yA zo,yA h2]
 intro l a;have h:=key l 0 a;simp only[rC,Nat.sub_zero] at h
 unfold idxP
 simpa using h
theorem idxP_map_get {α:Type} (C:List α) (f:α→Rat) (a:Int) (d:α) (_hd:f d=0):pget (idxP (C.map f)) a=if 0≤a∧a<(C.length:Int) then f (C.getD a.toNat d) else 0:=by
 rw[idxP_get,nB];split
 case isTrue h =>
  have hi:a.toNat<C.length:=zo;rw[dA,jB,dA,aA hi];rfl
 case isFalse=>rfl
theorem times_dot (Y:List (Int×Rat)) (C:List (List (Int×Rat))):∀X:List (Int×Rat),pdot Y (timesP C X)=pdot X (idxP (C.map fun c=>pdot Y c))
 | []=>by show pdot Y []=_;rw[pdot_nil_right,pdot_nil]
 | t :: X=>by
  rw[timesP_cons,pdot_append_right,times_dot Y C X,pdot_cons];congr 1
  rw[idxP_map_get C (fun c=>pdot Y c) t.1 [] (pdot_nil_right Y)];split
  ·rw[pdot_by,rG]
  ·rw[pdot_nil_right,pE]
theorem times_get (C:List (List (Int×Rat))) (X:List (Int×Rat)) (a:Int):pget (timesP C X) a=pdot X (idxP (C.map fun c=>pget c a)):=by
 rw[←pget_dot,times_dot];congr 2
 exact List.map_congr_left fun c _=>pget_dot c a
def trnE (C:List (List (Int×Rat))):Nat→List (Int×Int×Rat)
 | 0=>[]
 | k+1=>trnE C k++(nrm (C.getD k [])).map fun x=>((k:Int),x.1,x.2)
def rowE (E:List (Int×Int×Rat)) (i:Int):List (Int×Rat):=(E.filter fun e=>decide (e.2.1=i)).map fun e=>(e.1,e.2.2)
def turnF (C:List (List (Int×Rat))) (i:Int):List (Int×Rat):=rowE (trnE C C.length) i
theorem rowE_append (E F:List (Int×Int×Rat)) (i:Int):rowE (E++F) i=rowE E i++rowE F i:=by unfold rowE;rw[List.filter_append,fF]
theorem rowE_one (e:Int×Int×Rat) (i:Int):rowE [e] i=if e.2.1=i then [(e.1,e.2.2)] else []:=by
 unfold rowE
 rw[nG,List.filter_nil];by_cases h:e.2.1=i
 ·rw[bB h,bB (by simpa using h)];rfl
 ·rw[yA h,yA (by simpa using h)];rfl
theorem rowE_col (k i:Int):∀{L:List (Int×Rat)},Nrm L→rowE (L.map fun x=>(k,x.1,x.2)) i=if pget L i=0 then [] else [(k,pget L i)]
 | [],_=>by rw[pget_nil,bB rfl];rfl
 | x :: L,h=>by
  have hr:=Rise.cons.1 h.rise;have e:rowE ((x :: L).map fun x=>(k,x.1,x.2)) i=rowE [(k,x.1,x.2)] i++rowE (L.map fun x=>(k,x.1,x.2)) i:=by rw[←rowE_append];rfl
  rw[e,rowE_one,rowE_col k i h.tail,zAe];by_cases hx:x.1=i
  ·have h0:pget L i=0:=pget_none fun y hy=>by have:=hr.1 y hy;omega
   have hz:=h.nz x tA;simp only
   rw[bB hx,bB h0,bB hx,h0,yC,yA hz];rfl
  ·simp only
   rw[yA hx,yA hx];rfl
theorem trn_step (C:List (List (Int×Rat))) (k:Nat) (i:Int):rowE (trnE C (k+1)) i=rowE (trnE C k) i++(if pget (C.getD k []) i=0 then [] else [((k:Int),pget (C.getD k []) i)]):=by
 show rowE (trnE C k++_) i=_
 rw[rowE_append,rowE_col _ _ (nrm_nrm _),nrm_get]
theorem trn_low (C:List (List (Int×Rat))) (i:Int):∀k,∀x∈rowE (trnE C k) i,0≤x.1∧x.1<(k:Int)
 | 0,x,h=>by cases h
 | k+1,x,h=>by
  rw[trn_step] at h;rcases sC.1 h with h | h
  ·have:=trn_low C i k x h;omega
  ·split at h
   ·cases h
   ·obtain rfl:=qC.1 h;simp only
    omega
theorem trn_nrm (C:List (List (Int×Rat))) (i:Int):∀k,Nrm (rowE (trnE C k) i)
 | 0=>⟨List.Pairwise.nil,fun x hx=>by cases hx⟩
 | k+1=>by
  rw[trn_step];split
  ·rw[wE];exact trn_nrm C i k
  ·exact(trn_nrm C i k).snoc (fun o ho=>(trn_low C i k o ho).2) (by assumption)
theorem trn_get (C:List (List (Int×Rat))) (i:Int):∀(k:Nat) (a:Int),pget (rowE (trnE C k) i) a=if 0≤a∧a<(k:Int) then pget (C.getD a.toNat []) i else 0
 | 0,a=>by rw[yA zo];rfl
 | k+1,a=>by
  rw[trn_step,pget_append,trn_get C i k a];have e:pget (if pget (C.getD k []) i=0 then [] else [((k:Int),pget (C.getD k []) i)]) a=if(k:Int)=a then pget (C.getD k []) i else 0:=by
   by_cases h:pget (C.getD k []) i=0
   ·rw[bB h,pget_nil,h];split<;>rfl
   ·rw[yA h,pget_one]
  rw[e];by_cases h:(k:Int)=a
  ·rw[yA zo,bB h,bB zo,kE,show a.toNat=k by omega]
  ·rw[yA h,yC];by_cases h2:0≤a∧a<(k:Int)
   ·rw[bB h2,bB zo]
   ·rw[yA h2,yA zo]
theorem turn_low (C:List (List (Int×Rat))) (i:Int):∀x∈turnF C i,0≤x.1∧x.1<(C.length:Int):=trn_low C i _
theorem turn_nrm (C:List (List (Int×Rat))) (i:Int):Nrm (turnF C i):=trn_nrm C i _
theorem turn_get (C:List (List (Int×Rat))) (i a:Int):pget (turnF C i) a=if 0≤a∧a<(C.length:Int) then pget (C.getD a.toNat []) i else 0:=trn_get C i _ a
def turnT (C:List (List (Int×Rat))) (n:Nat):List (List (Int×Rat)):=(List.range n).map fun(i:Nat)=>turnF C (i:Int)
theorem turnT_len (C:List (List (Int×Rat))) (n:Nat):(turnT C n).length=n:=by unfold turnT;rw[nB,pF]
theorem turnT_get (C:List (List (Int×Rat))) {n i:Nat} (h:i<n):(turnT C n).getD i []=turnF C (i:Int):=by
 unfold turnT
 rw[dA,jB,cF h];rfl
theorem pdot_tot {Q:List (Int×Rat)} {K:Nat} (hQ:∀a,sz (pget Q a)≤K):∀P:List (Int×Rat),sz (pdot P Q)≤1+wtot P+P.length*K
 | []=>nA sz_zero zo
 | x :: P=>by
  have h1:=pdot_tot hQ P;have h2:=sz_add (sz_mul (cA (sz x.2)) (hQ x.1)) (cA (sz (pdot P Q)));rw[pdot_cons,wC,aC,yD];show _≤1+(sz x.2+1+wtot P)+_
  omega
open Go.RowKit Tw
def RowsE (V:List Vc) (E:List (Int×Int×Rat)):Prop:=∀(a:Nat) (v:Vc),V[a]?=some v→prs v.L=rowE E (a:Int)
def colE (k:Nat) (L:List (Int×Rat)):List (Int×Int×Rat):=L.map fun x=>((k:Int),x.1,x.2)
theorem colE_snoc (k:Nat) {T:List Tm} {j:Nat} {x:Tm} (h:T[j]?=some x):colE k (prs (T.take (j+1)))=colE k (prs (T.take j))++[((k:Int),x.at_,x.x.q)]:=by
 rw[take_snoc h,zAi];exact fF
theorem RowsE.start (n:Nat):RowsE (List.replicate n zVc) []:=fun a v hv=>by rw[uD (eA hv)];rfl
theorem RowsE.step {V:List Vc} {E:List (Int×Int×Rat)} (h:RowsE V E) {a:Nat} {u:Vc} (hu:V[a]?=some u) (H:Option Addr) (m c:Nat) (t:Tm) (k:Int):RowsE (V.set a ⟨H,m,c,u.L++[⟨k,t.x⟩]⟩) (E++[(k,(a:Int),t.x.q)]):=fun b v hv=>by
 have ha:=(qB.1 hu).1;rw[rowE_append,rowE_one];by_cases e:b=a
 ·subst e;rw[tC ha,Option.some.injEq] at hv;subst hv;rw[bB rfl,zAi,h b u hu];rfl
 ·rw[eD (fun e2=>e e2.symm)] at hv;rw[yA (by simp only;omega),wE];exact h b v hv
theorem RowsE.done {V:List Vc} {C:List (List (Int×Rat))} {n:Nat} (h:RowsE V (trnE C C.length)) (hl:V.length=n):V.map (fun v=>prs v.L)=turnT C n:=by
 apply gE
 intro a;unfold turnT
 rw[jB,jB];by_cases ha:a<n
 ·rw[cF ha,aA zo];simp only[eF]
  rw[h a _ (aA zo)];rfl
 ·rw[dB zo,dB (by rw[pF];omega)];rfl
theorem trnE_col {C:List (List (Int×Rat))} {k:Nat} {c:List (Int×Rat)} (h:C[k]?=some c):trnE C (k+1)=trnE C k++colE k (nrm c):=by
 show trnE C k++_=_
 rw[dA,h];rfl
theorem trn_len (C:List (List (Int×Rat))) (i:Int):∀k,(rowE (trnE C k) i).length≤k
 | 0=>cA _
 | k+1=>by
  have:=trn_len C i k;rw[trn_step,gC];split
  ·simp only[List.length_nil];omega
  ·simp only[wC,List.length_nil];omega
theorem RowsE.small {V:List Vc} {C:List (List (Int×Rat))} {k a:Nat} {L:List (Int×Rat)} {u:Vc} (h:RowsE V (trnE C k++colE k L)) (hu:V[a]?=some u):u.L.length≤k+L.length:=by
 have h1:=congrArg List.length (h a u hu);have h2:=trn_len C (a:Int) k;have h3:(rowE (colE k L) (a:Int)).length≤L.length:=by
  unfold rowE colE
  rw[nB];refine nA (List.length_filter_le _ _) ?_;rw[nB];exact cA _
 rw[zAh,rowE_append,gC] at h1;omega
theorem OnT.one {w:World} {M:Nat} {s s':Bool} {A A':Option Addr} {c l c' l':Nat} {q:Rat} (at_:Int) (h:RN w s A c l s' A' c' l' q) (hs:sz q+1≤M):OnT w [⟨at_,⟨s,A,c,l,s',A',c',l',q,true⟩⟩] (fun _=>M):=fun t ht=>by
 obtain rfl:=qC.1 ht;exact⟨h,rfl,hs⟩
theorem lu_start {C:List (List (Int×Rat))} {n:Nat} (hl:C.length=n):FacInv n ⟨turnT C n,List.replicate n true,[]⟩:=FacInv.start (turnT_len C n) fun k=>by
 by_cases hk:k<n
 ·rw[turnT_get C hk];exact⟨turn_nrm C _,fun t ht=>by rw[←hl];exact turn_low C _ t ht⟩
 ·rw[dA,dB (by rw[turnT_len];omega)];exact⟨⟨List.Pairwise.nil,fun x hx=>(by cases hx)⟩,fun x hx=>(by cases hx)⟩
def facT (C:List (List (Int×Rat))) (n:Nat):FacSt:=⟨turnT C n,List.replicate n true,[]⟩
def facST (C:List (List (Int×Rat))) (n:Nat):List StepF:=match facUp (facT C n) n with | some t=>t.ST | none=>[]
theorem facST_eq {C:List (List (Int×Rat))} {n:Nat} {t:FacSt} (h:facUp (facT C n) n=some t):facST C n=t.ST:=by unfold facST;rw[h]
def plc (n:Nat):List Int:=(List.range n).map fun(i:Nat)=>(i:Int)
theorem plc_mem {n:Nat} {a:Int}:a∈plc n↔0≤a∧a<(n:Int):=by
 unfold plc
 rw[yB];constructor
 ·rintro⟨i,hi,rfl⟩;have:=List.mem_range.1 hi;omega
 ·intro h;exact⟨a.toNat,List.mem_range.2 zo,zo⟩
theorem plc_len (n:Nat):(plc n).length=n:=by unfold plc;rw[nB,pF]
theorem plc_nodup (n:Nat):(plc n).Nodup:=by
 unfold plc List.Nodup
 rw[nF];exact(List.nodup_range (n:=n)).imp fun h e=>h zo
def mA (C:List (List (Int×Rat))) (j a:Int):Rat:=pget (C.getD a.toNat []) j
theorem dotV_row {V:List Int} {r s x:Int→Rat} (h:∀a∈V,r a=s a):dotV V r x=dotV V s x:=by
 induction V with
 | nil=>rfl
 | cons a V ih=>rw[zAg,zAg,h a tA,ih fun b hb=>h b (uA _ hb)]
theorem dotV_comm (V:List Int) (r x:Int→Rat):dotV V r x=dotV V x r:=by
 induction V with
 | nil=>rfl
 | cons a V ih=>rw[zAg,zAg,ih,rG]
theorem dotV_add (V:List Int) (r s x:Int→Rat):dotV V (fun a=>r a+s a) x=dotV V r x+dotV V s x:=by
 induction V with
 | nil=>show(0:Rat)=0+0;grind
 | cons a V ih=>rw[zAg,zAg,zAg,ih];grind
theorem dotV_scale (V:List Int) (r x:Int→Rat) (q:Rat):dotV V (fun a=>q*r a) x=q*dotV V r x:=by
 induction V with
 | nil=>show(0:Rat)=q*0;grind
 | cons a V ih=>rw[zAg,zAg,ih];grind
theorem dotV_zero (V:List Int) (x:Int→Rat):dotV V (fun _=>0) x=0:=by
 induction V with
 | nil=>rfl
 | cons a V ih=>rw[zAg,ih];grind
theorem dotV_one {V:List Int} (hV:V.Nodup) (b:Int) (q:Rat) (x:Int→Rat):dotV V (fun a=>if a=b then q else 0) x=if b∈V then q*x b else 0:=by
 induction V with
 | nil=>rw[yA (by simp)];rfl
 | cons a V ih =>
  have⟨h1,h2⟩:=rF.1 hV;rw[zAg,ih h2];by_cases e:a=b
  ·subst e;rw[bB rfl,yA h1,bB tA];grind
  ·rw[yA e];by_cases h:b∈V
   ·rw[bB h,bB (uA _ h)];grind
   ·rw[yA h,yA (fun h3=>by rcases xB.1 h3 with h4 | h4;exact e h4.symm;exact h h4)];grind
theorem dotV_ev {V:List Int} (hV:V.Nodup) (x:Int→Rat):∀{P:List (Int×Rat)},(∀t∈P,t.1∈V)→dotV V (pget P) x=ev P x
 | [],_=>dotV_zero V x
 | t :: P,h=>by
  have e:dotV V (pget (t :: P)) x=dotV V (fun a=>(if a=t.1 then t.2 else 0)+pget P a) x:=dotV_row fun a _=>by
   rw[zAe];by_cases h2:t.1=a
   ·rw[bB h2,bB h2.symm]
   ·rw[yA h2,yA (fun e=>h2 e.symm),kE]
  rw[e,dotV_add,dotV_one hV,bB (h t tA),dotV_ev hV x (fun u hu=>h u (uA _ hu)),ev_cons]
theorem dotV_swap (V W:List Int) (M:Int→Int→Rat) (x y:Int→Rat):dotV V y (fun j=>dotV W (fun a=>M j a) x)=dotV W (fun a=>dotV V (fun j=>M j a) y) x:=by
 induction V with
 | nil=>exact(dotV_zero W x).symm
 | cons j V ih =>
  rw[zAg,ih];have e:dotV W (fun a=>dotV (j :: V) (fun j=>M j a) y) x=dotV W (fun a=>y j*M j a+dotV V (fun j=>M j a) y) x:=dotV_row fun a _=>by rw[zAg,rG]
  rw[e,dotV_add,dotV_scale]
section
variable {C:List (List (Int×Rat))} {n:Nat} {t:FacSt}
theorem row_dot (hl:C.length=n) (j:Nat) (hj:j<n) (x:Int→Rat):ev ((turnT C n).getD j []) x=dotV (plc n) (mA C (j:Int)) x:=by
 rw[turnT_get C hj,←dotV_ev (plc_nodup n) x (P:=turnF C (j:Int)) (fun t ht=>plc_mem.2 (by rw[←hl];exact turn_low C _ t ht))];refine dotV_row fun a ha=>?_;have h:=plc_mem.1 ha;rw[turn_get,bB (by rw[hl];exact h)];rfl
theorem lu_sol (hl:C.length=n) (h:facUp (facT C n) n=some t) (f:Int→Rat) (j:Int) (hj:j∈plc n):dotV (plc n) (mA C j) (back (fwd t.ST f) t.ST)=f j:=by
 have h1:=plc_mem.1 hj;have h2:=fac_ftran (lu_start hl) rfl h f j.toNat zo;have h3:=row_dot hl j.toNat zo (back (fwd t.ST f) t.ST);rw[tF h1.1] at h2 h3;rw[←h3];exact h2
theorem lu_uniq (hl:C.length=n) (h:facUp (facT C n) n=some t) {x y:Int→Rat} (hxy:∀j∈plc n,dotV (plc n) (mA C j) x=dotV (plc n) (mA C j) y) (a:Int) (ha:a∈plc n):x a=y a:=by
 have h1:=plc_mem.1 ha;refine fac_uniq (lu_start hl) rfl h (fun j hj=>?_) a h1.1 h1.2;show ev ((turnT C n).getD j []) x=ev ((turnT C n).getD j []) y
 rw[row_dot hl j hj,row_dot hl j hj];exact hxy _ (plc_mem.2 zo)
theorem lu_left (hl:C.length=n) (h:facUp (facT C n) n=some t) (c:Int→Rat) (a:Int) (ha:a∈plc n):dotV (plc n) (fun j=>mA C j a) (btDn t.ST (btUp t.ST c fun _=>0))=c a:=by
 have h1:=plc_mem.1 ha;have h2:=fac_btran (lu_start hl) rfl h c a h1.1 h1.2;obtain⟨h3,h4,_⟩:=fac_sys (lu_start hl) rfl n h;rw[←h2];obtain⟨y,hy⟩:∃y,y=btDn t.ST (btUp t.ST c fun _=>0):=⟨_,rfl⟩;rw[←hy];have hr:=h3.rows;have hall:∀j,j<n→j∈rowsN t.ST:=fun j hj=>pig_all hr.1 hr.2 (by unfold rowsN;rw[nB,h4]) j hj
 -- a sum over the rows of the steps is a sum over the places
 have e1:∀l:List Nat,(∀j∈l,j<n)→sumR l y (turnT C n) a=dotV (l.map fun(i:Nat)=>(i:Int)) (fun j=>mA C j a) y:=fun l hl2=>by
  induction l with
  | nil=>rfl
  | cons i l ih =>
   rw[sumR_cons,wF,zAg,ih (fun j hj=>hl2 j (uA _ hj)),turnT_get C (hl2 i tA),turn_get,bB (by rw[hl];exact h1),rG];rfl
 show dotV (plc n) (fun j=>mA C j a) y=sumR (rowsN t.ST) y (turnT C n) a
 rw[e1 _ hr.2]
 -- both lists hold the same places, each once
 have e2:∀(L M:List Int),L.Nodup→M.Nodup→(∀x,x∈L↔x∈M)→dotV L (fun j=>mA C j a) y=dotV M (fun j=>mA C j a) y:=fun L=>by
  induction L with
  | nil =>
   intro M _ _ h;cases M with
   | nil=>rfl
   | cons m M=>exact absurd ((h m).2 tA) (by simp)
  | cons x L ih =>
   intro M hL hM h;have⟨h5,h6⟩:=rF.1 hL;have hx:x∈M:=(h x).1 tA;have h7:=ih (M.erase x) h6 (hM.erase x) (fun z=>by
    rw[List.Nodup.mem_erase_iff hM,←h z,xB];constructor
    ·intro hz;exact⟨fun e=>h5 (e ▸ hz),.inr hz⟩
    ·rintro⟨h8,h9 | h9⟩
     ·exact absurd h9 h8
     ·exact h9)
   rw[zAg,h7];clear h7 ih h;induction M with
   | nil=>cases hx
   | cons m M ih2 =>
    by_cases e:m=x
    ·subst e;rw[List.erase_cons_head,zAg]
    ·rcases xB.1 hx with h8 | h8
     ·exact absurd h8.symm e
     ·rw[List.erase_cons_tail (by simpa using e),zAg,zAg,←ih2 (rF.1 hM).2 h8];grind
 refine e2 _ _ (plc_nodup n) ?_ fun x=>?_
 ·unfold List.Nodup
  rw[nF];exact List.Pairwise.imp (fun h e=>h zo) hr.1
 ·rw[plc_mem,yB];constructor
  ·intro hx;exact⟨x.toNat,hall _ zo,zo⟩
  ·rintro⟨i,hi,rfl⟩;have:=hr.2 i hi;omega
theorem lu_left_uniq (hl:C.length=n) (h:facUp (facT C n) n=some t) {x y:Int→Rat} (hxy:∀a∈plc n,dotV (plc n) (fun j=>mA C j a) x=dotV (plc n) (fun j=>mA C j a) y) (i:Int) (hi:i∈plc n):x i=y i:=by
 obtain⟨z,hz⟩:∃z,z=back (fwd t.ST (unit i)) t.ST:=⟨_,rfl⟩;have h1:∀j∈plc n,dotV (plc n) (mA C j) z=unit i j:=fun j hj=>by rw[hz];exact lu_sol hl h (unit i) j hj
 have key:∀u:Int→Rat,u i=dotV (plc n) (fun a=>dotV (plc n) (fun j=>mA C j a) u) z:=fun u=>by
  rw[←dotV_swap (plc n) (plc n) (fun j a=>mA C j a) z u,dotV_congr (y:=unit i) h1,dotV_comm];have e:dotV (plc n) (unit i) u=dotV (plc n) (fun a=>if a=i then 1 else 0) u:=rfl;rw[e,dotV_one (plc_nodup n),bB hi,Rat.one_mul]
 rw[key x,key y];exact dotV_row hxy
theorem lu_sz (hl:C.length=n) (hn:1≤n) (h:facUp (facT C n) n=some t) {D S:Nat} (hD:∀j∈plc n,∀a∈plc n,sz (mA C j a)≤D) {f:Int→Rat} (hf:∀j∈plc n,sz (f j)≤S) (a:Int) (ha:a∈plc n):sz (back (fwd t.ST f) t.ST a)≤solG D S (n-1):=by
 refine sol_sz (n-1) (V:=plc n) (E:=(plc n).map fun j=>(mA C j,f j)) (by rw[plc_len];omega) (plc_nodup n) (fun e he=>?_) (fun y hy b hb=>?_) (fun e he=>?_) a ha
 ·obtain⟨j,hj,rfl⟩:=yB.1 he;exact lu_sol hl h f j hj
 ·refine lu_uniq hl h (fun j hj=>?_) b hb;rw[hy (mA C j,f j) (yB.2 ⟨j,hj,rfl⟩),lu_sol hl h f j hj]
 ·obtain⟨j,hj,rfl⟩:=yB.1 he;exact⟨fun b hb=>hD j hj b hb,hf j hj⟩
theorem lu_left_sz (hl:C.length=n) (hn:1≤n) (h:facUp (facT C n) n=some t) {D S:Nat} (hD:∀j∈plc n,∀a∈plc n,sz (mA C j a)≤D) {c:Int→Rat} (hc:∀j∈plc n,sz (c j)≤S) (a:Int) (ha:a∈plc n):sz (btDn t.ST (btUp t.ST c fun _=>0) a)≤solG D S (n-1):=by
 refine sol_sz (n-1) (V:=plc n) (E:=(plc n).map fun a=>((fun j=>mA C j a),c a)) (by rw[plc_len];omega) (plc_nodup n) (fun e he=>?_) (fun y hy b hb=>?_) (fun e he=>?_) a ha
 ·obtain⟨j,hj,rfl⟩:=yB.1 he;exact lu_left hl h c j hj
 ·refine lu_left_uniq hl h (fun j hj=>?_) b hb;rw[hy ((fun i=>mA C i j),c j) (yB.2 ⟨j,hj,rfl⟩),lu_left hl h c j hj]
 ·obtain⟨j,hj,rfl⟩:=yB.1 he;exact⟨fun b hb=>hD b hb j hj,hc j hj⟩
end
theorem lay_get (n:Nat) (F:Int→Rat) (a:Int):pget (nrm (idxP ((List.range n).map fun(i:Nat)=>F (i:Int)))) a=if 0≤a∧a<(n:Int) then F a else 0:=by
 rw[nrm_get,idxP_get,nB,pF];split
 ·rename_i h
  rw[dA,jB,cF zo];show F ((a.toNat:Nat):Int)=_
  rw[tF h.1]
 ·rfl
theorem lay_in (n:Nat) (F:Int→Rat):∀t∈nrm (idxP ((List.range n).map fun(i:Nat)=>F (i:Int))),0≤t.1∧t.1<(n:Int) :=
 (nrm_nrm _).place (p:=fun a=>0≤a∧a<(n:Int)) fun a ha=>by
  rw[lay_get] at ha;by_cases h:0≤a∧a<(n:Int)
  ·exact h
  ·rw[yA h] at ha;exact absurd rfl ha
theorem times_dotV (C:List (List (Int×Rat))) (X:List (Int×Rat)) (j:Int):pget (timesP C X) j=dotV (plc C.length) (mA C j) (pget X):=by
 have h:pget (timesP C X) j=pdot (idxP (C.map fun c=>pget c j)) X:=by rw[times_get,pdot_comm]
 rw[h,pdot_ev,←dotV_ev (plc_nodup C.length) (pget X) (P:=idxP (C.map fun c=>pget c j)) (fun t ht=>?_)]
 ·refine dotV_row fun a ha=>?_;have h1:=plc_mem.1 ha;rw[idxP_map_get C (fun c=>pget c j) a [] (pget_nil j),bB h1];rfl
 ·unfold idxP at ht
  obtain⟨i,hi,rfl⟩:=List.mem_mapIdx.1 ht;rw[nB] at hi;exact plc_mem.2 (by simp only;omega)
theorem left_dotV {C:List (List (Int×Rat))} {n:Nat} (hC:∀c∈C,∀t∈c,0≤t.1∧t.1<(n:Int)) (Y:List (Int×Rat)) (a:Int):pdot Y (C.getD a.toNat [])=dotV (plc n) (fun j=>mA C j a) (pget Y):=by
 rw[pdot_comm,pdot_ev,←dotV_ev (plc_nodup n) (pget Y) (P:=C.getD a.toNat []) (fun t ht=>?_)]
 ·rfl
 ·rw[dA] at ht;cases h:C[a.toNat]? with
  | none=>rw[h] at ht;cases ht
  | some c =>
   rw[h] at ht;exact plc_mem.2 (hC c (eA h) t ht)
structure EtaF where
 r:Int
 pv:Rat
 rest:List (Int×Rat)
def etaF (e:EtaF) (x:Int→Rat):Int→Rat:=spr (upd x e.r (x e.r / e.pv)) e.rest (x e.r / e.pv)
def etaB (e:EtaF) (x:Int→Rat):Int→Rat:=upd x e.r ((x e.r-ev e.rest x) / e.pv)
def etasF (L:List EtaF) (x:Int→Rat):Int→Rat:=L.foldl (fun x e=>etaF e x) x
def etasB (L:List EtaF) (x:Int→Rat):Int→Rat:=L.foldr etaB x
theorem etasF_snoc (L:List EtaF) (e:EtaF) (x:Int→Rat):etasF (L++[e]) x=etaF e (etasF L x):=by unfold etasF;rw[List.foldl_append];rfl
theorem etasB_snoc (L:List EtaF) (e:EtaF) (x:Int→Rat):etasB (L++[e]) x=etasB L (etaB e x):=by unfold etasB;rw[List.foldr_append];rfl
def etaOf (r:Int) (a:List (Int×Rat)):EtaF:=⟨r,pget a r,restF a r⟩
theorem etaF_zero {e:EtaF} {x:Int→Rat} (h:x e.r=0) (a:Int):etaF e x a=x a:=by
 have h0:x e.r / e.pv=0:=by rw[h,Rat.div_def,qE]
 unfold etaF spr
 rw[h0,pE];by_cases ha:a=e.r
 ·rw[ha,upd_at,h];grind
 ·rw[upd_off ha];grind
theorem etaF_at {r:Int} {a:List (Int×Rat)} {x:Int→Rat} (b:Int):etaF (etaOf r a) x b=if b=r then x r / pget a r else x b-pget a b*(x r / pget a r):=by
 unfold etaF etaOf spr
 simp only
 rw[rest_get];by_cases h:b=r
 ·rw[bB h,bB h,h,upd_at,qE];grind
 ·rw[yA h,yA h,upd_off h]
theorem etaB_at {r:Int} {a:List (Int×Rat)} {x:Int→Rat} (b:Int):etaB (etaOf r a) x b=if b=r then(x r-(ev a x-pget a r*x r)) / pget a r else x b:=by
 unfold etaB etaOf
 simp only
 rw[rest_ev];by_cases h:b=r
 ·rw[bB h,h,upd_at]
 ·rw[yA h,upd_off h]
theorem dotV_split {V:List Int} (hV:V.Nodup) {r:Int} (hr:r∈V) (c x:Int→Rat) (q:Rat):dotV V (upd c r q) x=dotV V c x+(q-c r)*x r:=by
 induction V with
 | nil=>cases hr
 | cons a V ih =>
  have h1:=rF.1 hV;rw[zAg,zAg];by_cases e:a=r
  ·have h2:dotV V (upd c r q) x=dotV V c x:=dotV_row fun b hb=>upd_off fun e2=>h1.1 (by rw[e,←e2];exact hb);rw[h2,e,upd_at];grind
  ·have h3:r∈V:=by
    rcases xB.1 hr with h | h
    ·exact absurd h.symm e
    ·exact h
   rw[ih h1.2 h3,upd_off e];grind
theorem ftran_on {V:List Int} (hV:V.Nodup) {r:Int} (hr:r∈V) {c:Int→Rat} {a:List (Int×Rat)} {z f:Rat} {x:Int→Rat} (hz:dotV V c (pget a)=z) (h0:pget a r≠0) (hx:dotV V c x=f) :
  dotV V (upd c r z) (etaF (etaOf r a) x)=f:=by
 have e1:x r / pget a r*pget a r=x r:=rE h0;have h1:dotV V c (etaF (etaOf r a) x)=f-(x r / pget a r)*z+c r*(x r / pget a r):=by
  have h2:dotV V c (etaF (etaOf r a) x)=dotV V c (upd (fun b=>x b-pget a b*(x r / pget a r)) r (x r / pget a r)):=dotV_congr fun b _=>by
   rw[etaF_at];by_cases hb:b=r
   ·rw[bB hb,hb,upd_at]
   ·rw[yA hb,upd_off hb]
  rw[h2,dotV_comm,dotV_split hV hr,dotV_comm,dotV_comm V c];have h3:dotV V (fun b=>x b-pget a b*(x r / pget a r)) c=dotV V x c-x r / pget a r*dotV V (pget a) c:=by
   rw[←dotV_sub];exact dotV_row fun b _=>by grind
  rw[h3,dotV_comm V (pget a),hz,dotV_comm V x,hx];grind
 rw[dotV_split hV hr,h1,etaF_at,bB rfl];grind
theorem btran_on {V:List Int} {n:Nat} (hV:V=plc n) {C:List (List (Int×Rat))} (hl:C.length=n) {r:Nat} (hr:r<n) {a Z:List (Int×Rat)} (hz:∀j∈V,dotV V (mA C j) (pget a)=pget Z j) (ha:∀t∈a,0≤t.1∧t.1<(n:Int)) (h0:pget a (r:Int)≠0) {y v:Int→Rat}
  (hv:∀b∈V,dotV V (fun j=>mA C j b) v=etaB (etaOf (r:Int) a) y b):∀b∈V,dotV V (fun j=>mA (C.set r Z) j b) v=y b:=by
 intro b hb;subst hV;have hb2:=plc_mem.1 hb;by_cases e:b=(r:Int)
 ·have h1:dotV (plc n) (fun j=>mA (C.set r Z) j b) v=dotV (plc n) (pget Z) v:=dotV_row fun j _=>by
   rw[e];unfold mA
   rw[zD,dA,tC zo];rfl
  have h2:dotV (plc n) (pget Z) v=dotV (plc n) (pget a) (fun b=>dotV (plc n) (fun j=>mA C j b) v):=by
   have h3:dotV (plc n) (pget Z) v=dotV (plc n) (fun j=>dotV (plc n) (mA C j) (pget a)) v:=dotV_row fun j hj=>(hz j hj).symm;rw[h3];rw[dotV_comm (plc n) _ v,dotV_swap,dotV_comm]
  have h4:dotV (plc n) (pget a) (fun b=>dotV (plc n) (fun j=>mA C j b) v)=dotV (plc n) (pget a) (etaB (etaOf (r:Int) a) y):=dotV_congr fun b hb=>hv b hb;rw[h1,h2,h4,dotV_ev (plc_nodup n) _ (fun t ht=>plc_mem.2 (ha t ht)),e];have h5:ev a (etaB (etaOf (r:Int) a) y)=ev a y+pget a (r:Int)*(etaB (etaOf (r:Int) a) y (r:Int)-y (r:Int)):=by
   have h6:ev a (etaB (etaOf (r:Int) a) y)=ev a (fun b=>y b+(etaB (etaOf (r:Int) a) y (r:Int)-y (r:Int))*unit (r:Int) b):=ev_congr fun t _=>by
    unfold unit
    by_cases h7:t.1=(r:Int)
    ·rw[bB h7,h7];grind
    ·rw[yA h7,etaB_at,yA h7];grind
   rw[h6,ev_lin,ev_unit];grind
  rw[h5,etaB_at,bB rfl];have h8:(y (r:Int)-(ev a y-pget a (r:Int)*y (r:Int))) / pget a (r:Int)*pget a (r:Int)=y (r:Int)-(ev a y-pget a (r:Int)*y (r:Int)):=rE h0;grind
 ·have h1:dotV (plc n) (fun j=>mA (C.set r Z) j b) v=dotV (plc n) (fun j=>mA C j b) v:=dotV_row fun j _=>by
   unfold mA
   rw[dA,eD zo,←dA]
  rw[h1,hv b hb,etaB_at,yA e]
theorem fac_stuck {s:FacSt}:∀{n:Nat},facUp s n=none→∃k t,k<n∧facUp s k=some t∧nextF t.R t.OB=none
 | 0,h=>by cases h
 | n+1,h=>by
  cases e:facUp s n with
  | none=>obtain⟨k,t,h1,h2⟩:=fac_stuck e;exact⟨k,t,zo,h2⟩
  | some t =>
   rw[fac_more e] at h;refine⟨n,t,Nat.lt_succ_self n,e,?_⟩;cases hn:nextF t.R t.OB with
   | none=>rfl
   | some p=>unfold facStep at h;rw[hn] at h;cases h
theorem fwd_id {f:Int→Rat}:∀{L:List StepF},(∀st∈L,f st.row=0)→fwd L f=f
 | [],_=>rfl
 | st :: L,h=>by
  have h1:spr f st.taken (f st.row)=f:=by
   funext a
   unfold spr
   rw[h st tA,pE];grind
  show fwd L (spr f st.taken (f st.row))=f
  rw[h1];exact fwd_id fun u hu=>h u (uA _ hu)
theorem rows_len:∀(n:Nat) (L:List Int),(∀i:Nat,i<n→(i:Int)∈L)→n≤L.length
 | 0,_,_=>zA _
 | n+1,L,h=>by
  have h1:=rows_len n (L.erase (n:Int)) fun i hi=>(List.mem_erase_of_ne zo).2 (h i zo);have h2:=List.length_erase_of_mem (h n (Nat.lt_succ_self n));have h3:=List.length_pos_of_mem (h n (Nat.lt_succ_self n));omega
theorem all_fac {C:List (List (Int×Rat))} {n:Nat} (hl:C.length=n) (h:∀f:Int→Rat,∃x,∀j∈plc n,dotV (plc n) (mA C j) x=f j):(facUp (facT C n) n).isSome=true:=by
 cases e:facUp (facT C n) n with
 | some t=>rfl
 | none =>
  exfalso
  obtain⟨k,t,h1,h2,h3⟩:=fac_stuck e;obtain⟨h4,h5,h6⟩:=fac_sys (lu_start hl) rfl k h2;have hop:∃i:Nat,i<n∧t.OB.getD i false=true:=by
   by_cases hc:∃i:Nat,i<n∧t.OB.getD i false=true
   ·exact hc
   ·exfalso
    have h7:=rows_len n (t.ST.map fun st=>st.row) fun i hi=>by
     have h8:t.OB.getD i false=false:=by
      cases h9:t.OB.getD i false with
      | false=>rfl
      | true=>exact absurd ⟨i,hi,h9⟩ hc
     obtain⟨st,h9,h10⟩:=h4.shut2 i hi h8;exact yB.2 ⟨st,h9,h10⟩
    rw[nB] at h7;omega
  obtain⟨i,hi,ho⟩:=hop;obtain⟨x,hx⟩:=h (unit (i:Int));have h7:=(h6 x (unit (i:Int))).1 (fun j hj=>by
   show ev ((turnT C n).getD j []) x=_
   rw[row_dot hl j hj];exact hx (j:Int) (plc_mem.2 zo)) i hi
  rw[best_none (R:=t.R) (OB:=t.OB) (C:=cntUp t.R t.OB t.R.length) h3 i (by rw[h4.hR];exact hi) ho,fwd_id fun st hst=>by
   unfold unit
   rw[yA];intro e2;have h8:=h4.shut st hst;rw[e2,zD,ho] at h8;cases h8] at h7
  unfold unit at h7
  rw[bB rfl] at h7;exact absurd h7 (by show ¬((0:Rat)=1);decide)
inductive Chain (n:Nat) (C0:List (List (Int×Rat))):List EtaF→List (List (Int×Rat))→Prop
 | nil:Chain n C0 [] C0
 | snoc {L:List EtaF} {C:List (List (Int×Rat))} {r:Nat} {a Z:List (Int×Rat)} (h:Chain n C0 L C) (hr:r<n) (hz:∀j∈plc n,dotV (plc n) (mA C j) (pget a)=pget Z j) (ha:∀t∈a,0≤t.1∧t.1<(n:Int)) (h0:pget a (r:Int)≠0) (hs:∀j,sz (pget Z j)≤3):Chain n C0 (L++[etaOf (r:Int) a]) (C.set r Z)
theorem mA_put {C:List (List (Int×Rat))} {r:Nat} (hr:r<C.length) (Z:List (Int×Rat)) (j b:Int) (hb:0≤b):mA (C.set r Z) j b=upd (mA C j) (r:Int) (pget Z j) b:=by
 unfold mA
 by_cases h:b=(r:Int)
 ·rw[h,upd_at,zD,dA,tC hr];rfl
 ·rw[upd_off h,dA,eD zo,←dA]
section
variable {n:Nat} {C0 C:List (List (Int×Rat))} {L:List EtaF}
theorem Chain.len (h:Chain n C0 L C) (hl:C0.length=n):C.length=n:=by
 induction h with
 | nil=>exact hl
 | snoc _ _ _ _ _ _ ih=>rw[cC];exact ih
theorem Chain.ftran (h:Chain n C0 L C) (hl:C0.length=n) {x f:Int→Rat} (hx:∀j∈plc n,dotV (plc n) (mA C0 j) x=f j):∀j∈plc n,dotV (plc n) (mA C j) (etasF L x)=f j:=by
 induction h with
 | nil=>exact hx
 | snoc h hr hz ha h0 _hs ih =>
  rename_i L C r a Z
  intro j hj;rw[etasF_snoc];have h1:=ftran_on (plc_nodup n) (plc_mem.2 (show 0≤(r:Int)∧(r:Int)<(n:Int) by omega)) (hz j hj) h0 (ih j hj);rw[←h1];exact dotV_row fun b hb=>mA_put (by rw[h.len hl];exact hr) Z j b (plc_mem.1 hb).1
theorem Chain.btran (h:Chain n C0 L C) (hl:C0.length=n):∀{y v:Int→Rat},(∀b∈plc n,dotV (plc n) (fun j=>mA C0 j b) v=etasB L y b)→∀b∈plc n,dotV (plc n) (fun j=>mA C j b) v=y b:=by
 induction h with
 | nil=>intro y v hv;exact hv
 | snoc h hr hz ha h0 _hs ih =>
  intro y v hv;refine btran_on rfl (h.len hl) hr hz ha h0 (ih fun b hb=>?_);rw[hv b hb,etasB_snoc]
theorem Chain.fac (h:Chain n C0 L C) (hl:C0.length=n) (h0:(facUp (facT C0 n) n).isSome=true):(facUp (facT C n) n).isSome=true:=by
 obtain⟨t,ht⟩:=xC.1 h0;exact all_fac (h.len hl) fun f=>⟨_,h.ftran hl fun j hj=>lu_sol hl ht f j hj⟩
theorem Chain.ftran_same (h:Chain n C0 L C) (hl:C0.length=n) {t u:FacSt} (ht:facUp (facT C0 n) n=some t) (hu:facUp (facT C n) n=some u) (f:Int→Rat) (a:Int) (ha:a∈plc n):etasF L (back (fwd t.ST f) t.ST) a=back (fwd u.ST f) u.ST a :=
 lu_uniq (h.len hl) hu (fun j hj=>by rw[h.ftran hl (fun j hj=>lu_sol hl ht f j hj) j hj,lu_sol (h.len hl) hu f j hj]) a ha
theorem Chain.btran_same (h:Chain n C0 L C) (hl:C0.length=n) {t u:FacSt} (ht:facUp (facT C0 n) n=some t) (hu:facUp (facT C n) n=some u) (y:Int→Rat) (i:Int) (hi:i∈plc n):btDn t.ST (btUp t.ST (etasB L y) fun _=>0) i=btDn u.ST (btUp u.ST y fun _=>0) i :=
 lu_left_uniq (h.len hl) hu (fun a ha=>by rw[h.btran hl (fun b hb=>lu_left hl ht (etasB L y) b hb) a ha,lu_left (h.len hl) hu y a ha]) i hi
theorem Chain.side (h:Chain n C0 L C) (hl:C0.length=n) {t u:FacSt} (ht:facUp (facT C0 n) n=some t) (hu:facUp (facT C n) n=some u) (y:Int→Rat) (b:Int) (hb:b∈plc n):etasB L y b=dotV (plc n) (fun j=>mA C0 j b) (btDn u.ST (btUp u.ST y fun _=>0)):=by
 rw[←lu_left hl ht (etasB L y) b hb];exact dotV_congr fun i hi=>h.btran_same hl ht hu y i hi
end
section
variable {n:Nat} {C0 C:List (List (Int×Rat))} {L:List EtaF}
theorem Chain.one {r:Nat} {a Z:List (Int×Rat)} (hr:r<n) (hz:∀j∈plc n,dotV (plc n) (mA C j) (pget a)=pget Z j) (ha:∀t∈a,0≤t.1∧t.1<(n:Int)) (h0:pget a (r:Int)≠0) (hs:∀j,sz (pget Z j)≤3):Chain n C [etaOf (r:Int) a] (C.set r Z):=Chain.snoc .nil hr hz ha h0 hs
theorem Chain.split (h:Chain n C0 L C):∀i,i≤L.length→∃Ci,Chain n C0 (L.take i) Ci∧Chain n Ci (L.drop i) C:=by
 induction h with
 | nil =>
  intro i hi;obtain rfl:i=0:=by simpa using hi
  exact⟨_,.nil,.nil⟩
 | snoc h hr hz ha h0 hs ih =>
  rename_i L C r a Z
  intro i hi;rw[gC,List.length_singleton] at hi;by_cases e:i=L.length+1
  ·refine⟨C.set r Z,?_,?_⟩
   ·rw[qA (by rw[gC,List.length_singleton];omega)];exact .snoc h hr hz ha h0 hs
   ·rw[List.drop_of_length_le (by rw[gC,List.length_singleton];omega)];exact .nil
  ·obtain⟨Ci,h1,h2⟩:=ih i zo;refine⟨Ci,?_,?_⟩
   ·rw[List.take_append_of_le_length zo];exact h1
   ·rw[List.drop_append_of_le_length zo];exact .snoc h2 hr hz ha h0 hs
theorem mA_set_small {r:Nat} {Z:List (Int×Rat)} {D:Nat} (h:∀j a,sz (mA C j a)≤D) (hs:∀j,sz (pget Z j)≤D) (j a:Int):sz (mA (C.set r Z) j a)≤D:=by
 by_cases hl:r<C.length
 ·unfold mA
  rw[dA,List.getElem?_set];by_cases e:r=a.toNat
  ·rw[bB e,bB zo];exact hs j
  ·rw[yA e,←dA];exact h j a
 ·rw[List.set_eq_of_length_le zo];exact h j a
theorem Chain.small (h:Chain n C0 L C) (h0:∀j a,sz (mA C0 j a)≤3):∀j a,sz (mA C j a)≤3:=by
 induction h with
 | nil=>exact h0
 | snoc _ _ _ _ _ hs ih=>exact mA_set_small ih hs
theorem dotV_sz {D S:Nat} {r x:Int→Rat}:∀{V:List Int},(∀a∈V,sz (r a)≤D)→(∀a∈V,sz (x a)≤S)→sz (dotV V r x)≤V.length*(D+S+1)+1
 | [],_,_=>nA sz_zero zo
 | a :: V,h1,h2=>by
  have ih:=dotV_sz (V:=V) (fun b hb=>h1 b (uA _ hb)) (fun b hb=>h2 b (uA _ hb));rw[zAg];refine nA (sz_add (sz_mul (h1 a tA) (h2 a tA)) ih) ?_;rw[wC,Nat.succ_mul];omega
theorem Chain.ftranF (h:Chain n C0 L C) (hl:C0.length=n) (hi:(facUp (facT C0 n) n).isSome=true) (f:Int→Rat) (a:Int) (ha:a∈plc n):etasF L (back (fwd (facST C0 n) f) (facST C0 n)) a=back (fwd (facST C n) f) (facST C n) a:=by
 obtain⟨t,ht⟩:=xC.1 hi;obtain⟨u,hu⟩:=xC.1 (h.fac hl hi);rw[facST_eq ht,facST_eq hu];exact h.ftran_same hl ht hu f a ha
theorem Chain.btranF (h:Chain n C0 L C) (hl:C0.length=n) (hi:(facUp (facT C0 n) n).isSome=true) (y:Int→Rat) (a:Int) (ha:a∈plc n):btDn (facST C0 n) (btUp (facST C0 n) (etasB L y) fun _=>0) a=btDn (facST C n) (btUp (facST C n) y fun _=>0) a:=by
 obtain⟨t,ht⟩:=xC.1 hi;obtain⟨u,hu⟩:=xC.1 (h.fac hl hi);rw[facST_eq ht,facST_eq hu];exact h.btran_same hl ht hu y a ha
theorem Chain.fsz (h:Chain n C0 L C) (hl:C0.length=n) (hn:1≤n) (hi:(facUp (facT C0 n) n).isSome=true) (h0:∀j a,sz (mA C0 j a)≤3) {S:Nat} {f:Int→Rat} (hf:∀j∈plc n,sz (f j)≤S) (i:Nat) (hil:i≤L.length) (a:Int) (ha:a∈plc n):sz (etasF (L.take i) (back (fwd (facST C0 n) f) (facST C0 n)) a)≤solG 3 S (n-1):=by
 obtain⟨Ci,h1,h2⟩:=h.split i hil;rw[h1.ftranF hl hi f a ha];obtain⟨u,hu⟩:=xC.1 (h1.fac hl hi);rw[facST_eq hu];exact lu_sz (h1.len hl) hn hu (fun j _ b _=>h1.small h0 j b) hf a ha
theorem Chain.bsz (h:Chain n C0 L C) (hl:C0.length=n) (hn:1≤n) (hi:(facUp (facT C0 n) n).isSome=true) (h0:∀j a,sz (mA C0 j a)≤3) {S:Nat} {y:Int→Rat} (hf:∀j∈plc n,sz (y j)≤S) (i:Nat) (hil:i≤L.length) (a:Int) (ha:a∈plc n):sz (etasB (L.drop i) y a)≤n*(3+solG 3 S (n-1)+1)+1:=by
 obtain⟨Ci,h1,h2⟩:=h.split i hil;obtain⟨u,hu⟩:=xC.1 (h.fac hl hi);obtain⟨v,hv⟩:=xC.1 (h1.fac hl hi);rw[h2.side (h1.len hl) hv hu y a ha];have h3:=dotV_sz (V:=plc n) (r:=fun j=>mA Ci j a) (x:=btDn u.ST (btUp u.ST y fun _=>0)) (D:=3) (S:=solG 3 S (n-1)) (fun j _=>h1.small h0 j a) (fun b hb=>lu_left_sz (h.len hl) hn hu (fun j _ b _=>h.small h0 j b) hf b hb);rw[plc_len] at h3;exact h3
end
def layF (n:Nat) (F:Int→Rat):List (Int×Rat):=nrm (idxP ((List.range n).map fun(i:Nat)=>F (i:Int)))
theorem layF_dot (n:Nat) (F r:Int→Rat):dotV (plc n) r (pget (layF n F))=dotV (plc n) r F:=dotV_congr fun a ha=>by
 unfold layF
 rw[lay_get,bB (plc_mem.1 ha)]
theorem layF_ext {n:Nat} {F:Int→Rat} {P:List (Int×Rat)} (hf:∀x∈nrm P,0≤x.1∧x.1<(n:Int)) (h:∀a∈plc n,F a=pget P a):layF n F=nrm P:=nrm_ext fun a=>by
 have h1:=lay_get n F a;rw[nrm_get] at h1;rw[h1];by_cases ha:0≤a∧a<(n:Int)
 ·rw[bB ha,h a (plc_mem.2 ha)]
 ·rw[yA ha,←nrm_get,pget_none (a:=a) fun x hx e=>ha (e ▸ hf x hx)]
theorem mA_out {C:List (List (Int×Rat))} {n:Nat} (hC:∀c∈C,∀x∈c,0≤x.1∧x.1<(n:Int)) {j:Int} (hj:¬(0≤j∧j<(n:Int))) (a:Int):mA C j a=0:=by
 unfold mA
 rw[dA];cases h:C[a.toNat]? with
 | none=>rfl
 | some c=>exact pget_none fun x hx e=>hj (e ▸ hC c (eA h) x hx)
section
variable {C:List (List (Int×Rat))} {n:Nat} {t:FacSt} {P:List (Int×Rat)}
theorem dot_nrm (r:Int→Rat) (X:List (Int×Rat)):dotV (plc n) r (pget (nrm X))=dotV (plc n) r (pget X):=dotV_congr fun a _=>nrm_get X a
theorem law_ftran (hl:C.length=n) (hC:∀c∈C,∀x∈c,0≤x.1∧x.1<(n:Int)) (h:facUp (facT C n) n=some t) (hf:∀x∈nrm P,0≤x.1∧x.1<(n:Int)):nrm (timesP C (nrm (layF n (back (fwd t.ST (pget P)) t.ST))))=nrm P:=nrm_ext fun a=>by
 rw[times_dotV,hl,dot_nrm,layF_dot];by_cases ha:0≤a∧a<(n:Int)
 ·exact lu_sol hl h _ a (plc_mem.2 ha)
 ·rw[dotV_row (s:=fun _=>0) fun b _=>mA_out hC ha b,dotV_zero,←nrm_get P,pget_none (a:=a) fun x hx e=>ha (e ▸ hf x hx)]
theorem law_btran (hl:C.length=n) (hC:∀c∈C,∀x∈c,0≤x.1∧x.1<(n:Int)) (h:facUp (facT C n) n=some t) (hf:∀x∈nrm P,0≤x.1∧x.1<(n:Int)):nrm (idxP (C.map fun x=>pdot (layF n (btDn t.ST (btUp t.ST (pget P) fun _=>0))) x))=nrm P:=nrm_ext fun a=>by
 rw[idxP_map_get C _ a [] (by rw[pdot_comm];rfl),hl];by_cases ha:0≤a∧a<(n:Int)
 ·rw[bB ha,left_dotV hC,layF_dot];exact lu_left hl h _ a (plc_mem.2 ha)
 ·rw[yA ha,←nrm_get P,pget_none (a:=a) fun x hx e=>ha (e ▸ hf x hx)]
end
theorem sol_small {n S:Nat} (hn:n≤14) (hS:S≤2000):solG 3 S (n-1)+2≤490000000∧solG 3 S (n-1)+2≤2 ^ n*S+2*facM 4 n:=by
 have h1:=solG_le (n-1) 3 S;have h2:∀k:Fin 15,2 ^ (k.val-1)*2000+2*elD 3 (k.val-1)≤489999998∧2*elD 3 (k.val-1)+2≤2*facM 4 k.val:=by decide +kernel
 have h3:=h2 ⟨n,zo⟩;have h4:2 ^ (n-1)*S≤2 ^ (n-1)*2000:=eC _ hS;have h5:2 ^ (n-1)*S≤2 ^ n*S:=cB _ (fD zo zo);simp only at h3
 omega
theorem pow_small {n S:Nat} (hn:n≤14) (hS:S≤2000):2 ^ n*S≤32768000:=nA (vE (fD zo hn) hS) zd
theorem fac_small {n:Nat} (hn:n≤14):facM 4 n≤2684354556:=nA (facM_mono 4 hn) zd
end Go.Proofs.YtfpbmpllildbaaaGreatDoor
