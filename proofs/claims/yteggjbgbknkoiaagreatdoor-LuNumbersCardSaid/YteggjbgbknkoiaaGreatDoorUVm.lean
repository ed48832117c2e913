import Derived.Test.YteggjbgbknkoiaaGreatDoorURow
import Derived.Test.YteggjbgbknkoiaaGreatDoorUVn
namespace Go.Proofs.YteggjbgbknkoiaaGreatDoor
open Go.RowKit Tw
variable {L:List Tm} {t:Tm} {M:Nat} {w':World} {A:Option Addr} {P:List (Int×Rat)}
def prs (L:List Tm):List (Int×Rat):=L.map fun t=>(t.at_,t.x.q)
theorem prs_len (L:List Tm):(prs L).length=L.length:=cB _
theorem prs_get {i:Nat} (h:L[i]?=some t):(prs L)[i]?=some (t.at_,t.x.q):=by unfold prs;rw[rA,h];rfl
theorem prs_append (L M:List Tm):prs (L++M)=prs L++prs M:=jF
theorem prs_take (L:List Tm) (i:Nat):(prs L).take i=prs (L.take i):=List.map_take.symm
theorem prs_set (L:List Tm) (i:Nat) (t:Tm):prs (L.set i t)=(prs L).set i (t.at_,t.x.q):=List.map_set
theorem prs_mem {x:Int×Rat} (h:x∈prs L):∃t∈L,x=(t.at_,t.x.q):=by
 obtain⟨t,ht,rfl⟩:=tC.1 h;exact⟨t,ht,rfl⟩
def dgT (t:Tm):Nat:=max t.x.l t.x.l'
theorem FrOk.rep {w:World} {m:Nat} {x:Fr} (h:FrOk w m x):FrOk w (max x.l x.l') x:=by
 obtain⟨⟨n,d,h1,h2,h3,_,_⟩,h6⟩:=h;exact⟨⟨n,d,h1,h2,h3,zo,zo⟩,h6⟩
theorem FrOk.szd {w:World} {m:Nat} {x:Fr} (h:FrOk w m x):sz x.q≤max x.l x.l'+1:=by
 have:=h.rep.r.sz;omega
def wsum:List Tm→Int→Nat
 | [],_=>0
 | t :: L,a=>(if t.at_=a then dgT t+2 else 0)+wsum L a
theorem wsum_append (L M:List Tm) (a:Int):wsum (L++M) a=wsum L a+wsum M a:=by
 induction L with
 | nil=>simp[wsum]
 | cons t L ih=>simp only[yE,wsum];rw[ih];omega
theorem wsum_perm {M:List Tm} (h:L.Perm M) (a:Int):wsum L a=wsum M a:=by
 induction h with
 | nil=>rfl
 | cons x _ ih=>simp only[wsum];rw[ih]
 | swap x y L=>simp only[wsum];omega
 | trans _ _ h1 h2=>rw[h1,h2]
theorem wsum_snoc {i:Nat} (h:L[i]?=some t) (a:Int):wsum (L.take (i+1)) a=wsum (L.take i) a+(if t.at_=a then dgT t+2 else 0):=by
 rw[take_snoc h,wsum_append];simp[wsum]
theorem wsum_mem (h:t∈L):dgT t+2≤wsum L t.at_:=by
 induction L with
 | nil=>cases h
 | cons x L ih =>
  unfold wsum
  rcases sB.1 h with rfl | h
  ·rw[gA rfl];omega
  ·have:=ih h;omega
theorem wsum_none {a:Int} (h:∀t∈L,t.at_≠a):wsum L a=0:=by
 induction L with
 | nil=>rfl
 | cons x L ih=>unfold wsum;rw[fA (h x pA),ih fun t ht=>h t (qA _ ht)]
theorem wsum_rise (hr:Rise (prs L)) (h:∀t∈L,dgT t+2≤M) (a:Int):wsum L a≤M:=by
 induction L with
 | nil=>exact nA _
 | cons x L ih =>
  have hc:=Rise.cons.1 hr;unfold wsum
  by_cases e:x.at_=a
  ·subst e;rw[gA rfl,wsum_none (fun t ht e=>by have:=hc.1 (t.at_,t.x.q) (qF ht);simp only at this;omega)];exact h x pA
  ·rw[fA e,xB];exact ih hc.2 fun t ht=>h t (qA _ ht)
def OkT (w:World) (L:List Tm):Prop:=∀t∈L,FrOk w (dgT t) t.x
theorem OkT.below {w:World} (h:OkT w L) (hb:Below w.heap.size w w':=by go_grown):OkT w' L:=fun t ht=>(h t ht).below hb
theorem OkT.k {w:World} (h:OkT w L) (hk:K64 w w'):OkT w' L:=fun t ht=>(h t ht).k hk
def OnT (w:World) (L:List Tm) (b:Int→Nat):Prop:=∀t∈L,RN w t.x.s t.x.A t.x.c t.x.l t.x.s' t.x.A' t.x.c' t.x.l' t.x.q∧t.x.ex=true∧sz t.x.q+1≤b t.at_
theorem OnT.below {w:World} {b:Int→Nat} (h:OnT w L b) (hb:Below w.heap.size w w':=by go_grown):OnT w' L b:=fun t ht=>⟨(h t ht).1.below hb,(h t ht).2⟩
theorem OnT.k {w:World} {b:Int→Nat} (h:OnT w L b) (hk:K64 w w'):OnT w' L b:=fun t ht=>⟨(h t ht).1.k hk,(h t ht).2⟩
theorem OnT.nil (w:World) (b:Int→Nat):OnT w [] b:=fun t ht=>by cases ht
theorem OnT.mono {w:World} {b b':Int→Nat} (h:OnT w L b) (hb:∀t∈L,b t.at_≤b' t.at_):OnT w L b':=fun t ht=>⟨(h t ht).1,(h t ht).2.1,kA (h t ht).2.2 (hb t ht)⟩
theorem OnT.snoc {w:World} {b:Int→Nat} (h:OnT w L b) (hn:RN w t.x.s t.x.A t.x.c t.x.l t.x.s' t.x.A' t.x.c' t.x.l' t.x.q) (he:t.x.ex=true) (hs:sz t.x.q+1≤b t.at_):OnT w (L++[t]) b:=fun u hu=>by
 rcases bC.1 hu with hu | hu
 ·exact h u hu
 ·obtain rfl:=cC.1 hu;exact⟨hn,he,hs⟩
theorem OnT.set {w:World} {b:Int→Nat} (h:OnT w L b) (i:Nat) (hn:RN w t.x.s t.x.A t.x.c t.x.l t.x.s' t.x.A' t.x.c' t.x.l' t.x.q) (he:t.x.ex=true) (hs:sz t.x.q+1≤b t.at_):OnT w (L.set i t) b:=fun u hu=>by
 rcases sC hu with hu | rfl
 ·exact h u hu
 ·exact⟨hn,he,hs⟩
theorem OnT.dg {w:World} {b:Int→Nat} (h:OnT w L b):∀t∈L,dgT t≤sz t.x.q:=fun t ht=>by have:=(h t ht).1.len;unfold dgT;omega
theorem OnT.fr {w:World} {b:Int→Nat} (h:OnT w L b) (hb:∀a,b a≤M):∀t∈L,FrOk w M t.x:=fun t ht=>by
 have h1:=h t ht;have h2:=h1.1.fr (m:=M) (zi (hb t.at_));have e:t.x=⟨t.x.s,t.x.A,t.x.c,t.x.l,t.x.s',t.x.A',t.x.c',t.x.l',t.x.q,true⟩:=by rw[←h1.2.1]
 rw[e];exact h2
def GV (w:World) (A:Option Addr) (n c:Nat) (P:List (Int×Rat)) (M:Nat):Prop :=
 ∃L:List Tm,Sl Tm.cs 5 w A n c L∧OkT w L∧prs L=P∧(∀a,wsum L a≤M)∧(A=none→c=0)
theorem GV.below {w:World} {n c:Nat} (h:GV w A n c P M) (hb:Below w.heap.size w w':=by go_grown):GV w' A n c P M:=by
 obtain⟨L,h1,h2,h3⟩:=h;exact⟨L,h1.below hb,h2.below hb,h3⟩
theorem GV.mono {w:World} {n c M':Nat} (h:GV w A n c P M) (hm:M≤M'):GV w A n c P M':=by
 obtain⟨L,h1,h2,h3,h4,h5⟩:=h;exact⟨L,h1,h2,h3,fun a=>kA (h4 a) hm,h5⟩
theorem GV.len {w:World} {n c:Nat} (h:GV w A n c P M):P.length=n:=by
 obtain⟨L,h1,_,rfl,_⟩:=h;rw[prs_len,h1.1]
def NV (w:World) (A:Option Addr) (n c:Nat) (P:List (Int×Rat)) (M:Nat):Prop :=
 ∃L:List Tm,Sl Tm.cs 5 w A n c L∧OnT w L (fun _=>M)∧prs L=P∧(A=none→c=0)
theorem NV.below {w:World} {n c:Nat} (h:NV w A n c P M) (hb:Below w.heap.size w w':=by go_grown):NV w' A n c P M:=by
 obtain⟨L,h1,h2,h3⟩:=h;exact⟨L,h1.below hb,h2.below hb,h3⟩
theorem NV.mono {w:World} {n c M':Nat} (h:NV w A n c P M) (hm:M≤M'):NV w A n c P M':=by
 obtain⟨L,h1,h2,h3⟩:=h;exact⟨L,h1,h2.mono fun _ _=>hm,h3⟩
theorem NV.len {w:World} {n c:Nat} (h:NV w A n c P M):P.length=n:=by
 obtain⟨L,h1,_,rfl,_⟩:=h;rw[prs_len,h1.1]
theorem OnT.ok {w:World} {b:Int→Nat} (h:OnT w L b):OkT w L:=fun t ht=>by
 have h1:=h t ht;have h2:=h1.1.fr (m:=sz t.x.q) (cA _);have e:t.x=⟨t.x.s,t.x.A,t.x.c,t.x.l,t.x.s',t.x.A',t.x.c',t.x.l',t.x.q,true⟩:=by rw[←h1.2.1]
 exact(by rw[e];exact h2:FrOk w (sz t.x.q) t.x).rep
theorem NV.gv {w:World} {n c:Nat} (h:NV w A n c P M) (hr:Rise P):GV w A n c P (M+1):=by
 obtain⟨L,h1,h2,rfl,h4⟩:=h;exact⟨L,h1,h2.ok,rfl,wsum_rise hr fun t ht=>by have:=h2.dg t ht;have:=(h2 t ht).2.2;simp only at this;omega,h4⟩
def TellsV (w:World) (P:List (Int×Rat)) (M:Nat) (e:Ending) (w':World):Prop:=∃A n c,e=.returned (.slice A n c)∧NV w' A n c P M∧Below w.heap.size w w'
theorem filter_prs (L:List Tm) (p:Int×Rat→Bool):prs (L.filter fun t=>p (t.at_,t.x.q))=(prs L).filter p:=by
 induction L with
 | nil=>rfl
 | cons x L ih =>
  unfold prs at ih ⊢
  rw[List.map_cons,kG,kG];split
  ·rw[List.map_cons,ih]
  ·exact ih
def dotV (V:List Int) (r x:Int→Rat):Rat:=V.foldr (fun a s=>r a*x a+s) 0
theorem dotV_cons (a:Int) (V:List Int) (r x:Int→Rat):dotV (a :: V) r x=r a*x a+dotV V r x:=rfl
theorem dotV_congr {V:List Int} {r x y:Int→Rat} (h:∀a∈V,x a=y a):dotV V r x=dotV V r y:=by
 induction V with
 | nil=>rfl
 | cons a V ih=>rw[dotV_cons,dotV_cons,h a pA,ih fun b hb=>h b (qA _ hb)]
theorem dotV_sub (V:List Int) (r s x:Int→Rat) (t:Rat):dotV V (fun a=>r a-t*s a) x=dotV V r x-t*dotV V s x:=by
 induction V with
 | nil=>show(0:Rat)=0-t*0;grind
 | cons a V ih=>rw[dotV_cons,dotV_cons,dotV_cons,ih];grind
theorem dotV_upd {V:List Int} {b:Int} (h:b∉V) (r x:Int→Rat) (v:Rat):dotV V r (upd x b v)=dotV V r x:=dotV_congr fun _ ha=>upd_off fun e=>h (e ▸ ha)
def elD (D:Nat):Nat→Nat
 | 0=>D
 | k+1=>4*elD D k+1
def solG (D S:Nat):Nat→Nat
 | 0=>S+D
 | k+1=>solG (4*D+1) (2*S+2*D+1) k
theorem sol_sz:∀(k:Nat) {V:List Int} {E:List ((Int→Rat)×Rat)} {x:Int→Rat} {D S:Nat},V.length=k+1→V.Nodup→(∀e∈E,dotV V e.1 x=e.2)→(∀y,(∀e∈E,dotV V e.1 y=e.2)→∀a∈V,y a=x a)→
  (∀e∈E,(∀a∈V,sz (e.1 a)≤D)∧sz e.2≤S)→∀a∈V,sz (x a)≤solG D S k
 | k,V,E,x,D,S,hl,hn,hx,hu,hb=>fun a ha=>by
  -- an equation in which an unknown stands
  have hp:∀b∈V,∃e∈E,e.1 b≠0:=fun b hb2=>by
   rcases Classical.em (∃e∈E,e.1 b≠0) with h | h
   ·exact h
   ·exfalso
    have h0:∀e∈E,e.1 b=0:=fun e he=>by
     rcases Classical.em (e.1 b=0) with h1 | h1
     ·exact h1
     ·exact absurd ⟨e,he,h1⟩ h
    have h2:∀e∈E,dotV V e.1 (upd x b (x b+1))=e.2:=fun e he=>by
     rw[←hx e he];have h3:∀W:List Int,dotV W e.1 (upd x b (x b+1))=dotV W e.1 x:=fun W=>by
      induction W with
      | nil=>rfl
      | cons c W ih =>
       rw[dotV_cons,dotV_cons,ih];by_cases e9:c=b
       ·subst e9;rw[h0 e he,nE,nE]
       ·rw[upd_off e9]
     exact h3 V
    have h4:=hu _ h2 b hb2;rw[upd_at] at h4;grind
  cases k with
  | zero =>
   obtain⟨c,rfl⟩:∃c,V=[c]:=by
    match V,hl with
    | [c],_=>exact⟨c,rfl⟩
   obtain rfl:=cC.1 ha;obtain⟨e,he,hne⟩:=hp a ha;have h1:=hx e he;rw[dotV_cons] at h1;have h2:e.1 a*x a=e.2:=by
    rw[←h1];show _=e.1 a*x a+0
    grind
   have h3:x a=e.2 / e.1 a:=by
    rw[←h2,Rat.mul_comm,Rat.mul_div_cancel hne]
   rw[h3];exact sz_quo (hb e he).2 ((hb e he).1 a ha)
  | succ k =>
   obtain⟨b,hbV,hba⟩:∃b∈V,b≠a:=by
    match V,hl with
    | c :: d :: V,_ =>
     by_cases h:c=a
     ·refine⟨d,by simp,fun e=>?_⟩;subst h e;exact(List.nodup_cons.1 hn).1 pA
     ·exact⟨c,pA,h⟩
   obtain⟨e0,he0,hne⟩:=hp b hbV;obtain⟨W,hW⟩:∃W,W=V.erase b:=⟨_,rfl⟩;have hWn:W.Nodup:=by rw[hW];exact hn.erase b
   have hbW:b∉W:=by rw[hW];exact List.Nodup.not_mem_erase hn
   have hWV:∀c∈W,c∈V:=fun c hc=>by rw[hW] at hc;exact List.mem_of_mem_erase hc
   have hWl:W.length=k+1:=by rw[hW,List.length_erase_of_mem hbV];omega
   have hsplit:∀r y:Int→Rat,dotV V r y=r b*y b+dotV W r y:=by
    rw[hW];clear hW hWn hbW hWV hWl hx hu hb hp ha hl;intro r y;induction V with
    | nil=>cases hbV
    | cons c V ih =>
     by_cases e:c=b
     ·subst e;rw[List.erase_cons_head,dotV_cons]
     ·rcases sB.1 hbV with h | h
      ·exact absurd h.symm e
      ·rw[List.erase_cons_tail (by simpa using e),dotV_cons,dotV_cons,ih (List.nodup_cons.1 hn).2 h];grind
   have haW:a∈W:=by rw[hW];exact(List.mem_erase_of_ne (Ne.symm hba)).2 ha
   obtain⟨F,hF⟩:∃F,F=E.map fun e=>((fun c=>e.1 c-e.1 b / e0.1 b*e0.1 c,e.2-e.1 b / e0.1 b*e0.2):(Int→Rat)×Rat):=⟨_,rfl⟩;refine sol_sz k (V:=W) (E:=F) (x:=x) (D:=4*D+1) (S:=2*S+2*D+1) hWl hWn (fun f hf=>?_) (fun y hy=>?_) (fun f hf=>?_) a haW
   ·rw[hF] at hf;obtain⟨e,he,rfl⟩:=tC.1 hf;have h1:=hx e he;have h2:=hx e0 he0;rw[hsplit] at h1 h2;have h3:e.1 b / e0.1 b*e0.1 b=e.1 b:=sD hne;show dotV W (fun c=>e.1 c-e.1 b / e0.1 b*e0.1 c) x=e.2-e.1 b / e0.1 b*e0.2
    rw[dotV_sub];grind
   ·intro c hc;obtain⟨v,hv⟩:∃v,v=(e0.2-dotV W e0.1 y) / e0.1 b:=⟨_,rfl⟩;have hvb:e0.1 b*v=e0.2-dotV W e0.1 y:=by rw[hv,Rat.mul_comm,sD hne]
    have h1:∀e∈E,dotV V e.1 (upd y b v)=e.2:=fun e he=>by
     rw[hsplit,upd_at,dotV_upd hbW];have h2:=hy _ (by rw[hF];exact tC.2 ⟨e,he,rfl⟩);simp only at h2
     rw[dotV_sub] at h2;have h3:e.1 b / e0.1 b*e0.1 b=e.1 b:=sD hne;have h4:e.1 b*v=e.1 b / e0.1 b*(e0.2-dotV W e0.1 y):=by rw[←hvb,←Rat.mul_assoc,h3]
     grind
    have h2:=hu _ h1 c (hWV c hc);rw[upd_off (show c≠b from fun e=>hbW (by rw[←e];exact hc))] at h2;exact h2
   ·rw[hF] at hf;obtain⟨e,he,rfl⟩:=tC.1 hf;have h1:=hb e he;have h2:=hb e0 he0;have ht:sz (e.1 b / e0.1 b)≤D+D:=sz_quo (h1.1 b hbV) (h2.1 b hbV);refine⟨fun c hc=>?_,?_⟩
    ·have h3:=sz_sub (h1.1 c (hWV c hc)) (sz_mul ht (h2.1 c (hWV c hc)));show sz (e.1 c-e.1 b / e0.1 b*e0.1 c)≤4*D+1
     omega
    ·have h3:=sz_sub h1.2 (sz_mul ht h2.2);show sz (e.2-e.1 b / e0.1 b*e0.2)≤2*S+2*D+1
     omega
theorem rightB_get {n:Int} (h:rightB L n=true) {i:Nat} (ht:L[i]?=some t):0≤t.at_∧t.at_<n∧t.x.q≠0∧t.x.ex=true∧∀j p,i=j+1→L[j]?=some p→p.at_<t.at_:=by
 unfold rightB at h
 have h1:=wD.1 h i (xF.2 (yA.1 ht).1);unfold rightAt at h1
 rw[ht] at h1;simp only[kC,xD] at h1
 obtain⟨⟨⟨⟨h2,h3⟩,h4⟩,h5⟩,h6⟩:=h1;refine⟨h2,h3,h5,h6,fun j p hj hp=>?_⟩;subst hj;simp only[hp,xD] at h4
 exact h4
theorem rightB_lt {n:Int} (h:rightB L n=true):∀(d i:Nat) (p t:Tm),L[i]?=some p→L[i+d+1]?=some t→p.at_<t.at_
 | 0,i,p,t,hp,ht=>(rightB_get h ht).2.2.2.2 i p zo hp
 | d+1,i,p,t,hp,ht=>by
  have hi:=(yA.1 ht).1;obtain⟨u,hu⟩:∃u,L[i+d+1]?=some u:=⟨L[i+d+1]'zo,aA _⟩;have h1:=rightB_lt h d i p u hp hu;have h2:=(rightB_get h ht).2.2.2.2 (i+d+1) u zo hu;omega
theorem rightB_nrm {n:Int} (h:rightB L n=true):Nrm (prs L)∧∀t∈L,0≤t.at_∧t.at_<n∧t.x.ex=true:=by
 refine⟨⟨?_,fun x hx=>?_⟩,fun t ht=>?_⟩
 ·unfold Rise prs
  rw[gG,bG];intro i j hi hj hij;simp only
  exact rightB_lt h (j-i-1) i _ _ (aA hi) (by rw[show i+(j-i-1)+1=j by omega];exact aA hj)
 ·obtain⟨t,ht,rfl⟩:=prs_mem hx;obtain⟨i,hi⟩:=bD ht;exact(rightB_get h hi).2.2.1
 ·obtain⟨i,hi⟩:=bD ht;have:=rightB_get h hi;exact⟨this.1,this.2.1,this.2.2.2.1⟩
theorem rightB_of {n:Int} (hr:Nrm (prs L)) (h:∀t∈L,0≤t.at_∧t.at_<n∧t.x.ex=true):rightB L n=true:=by
 unfold rightB
 refine wD.2 fun i hi=>?_;have hi:=xF.1 hi;have ht:L[i]?=some L[i]:=aA hi;have hm:=h _ (List.getElem_mem hi);have hz:L[i].x.q≠0:=hr.nz (L[i].at_,L[i].x.q) (qF (f:=fun t=>(t.at_,t.x.q)) (List.getElem_mem hi));unfold rightAt
 rw[ht];simp only[kC,xD]
 refine⟨⟨⟨⟨hm.1,hm.2.1⟩,?_⟩,hz⟩,hm.2.2⟩;cases i with
 | zero=>rfl
 | succ j =>
  have hj:j<L.length:=zo;have hp:L[j]?=some L[j]:=aA hj;simp only[hp,xD]
  have h2:=hr.rise;unfold Rise prs at h2
  rw[gG,bG] at h2;exact h2 j (j+1) hj hi zo
def nrmB (L:List (Int×Rat)):Bool:=decide (L.Pairwise fun x y=>x.1<y.1)&&L.all fun x=>decide (x.2≠0)
theorem nrmB_iff {L:List (Int×Rat)}:nrmB L=true↔Nrm L:=by
 unfold nrmB
 rw[kC,xD,wD];exact⟨fun h=>⟨h.1,fun x hx=>of_decide_eq_true (h.2 x hx)⟩,fun h=>⟨h.rise,fun x hx=>fC (h.nz x hx)⟩⟩
def rightC (k:Int) (C:List (List (Int×Rat))):Bool:=C.all fun c=>nrmB c&&c.all fun x=>decide (0≤x.1)&&decide (x.1<k)
theorem rightC_iff {k:Int} {C:List (List (Int×Rat))}:rightC k C=true↔∀c∈C,Nrm c∧∀x∈c,0≤x.1∧x.1<k:=by
 unfold rightC
 rw[wD];refine⟨fun h c hc=>?_,fun h c hc=>?_⟩
 ·have h1:=h c hc;rw[kC,nrmB_iff,wD] at h1;refine⟨h1.1,fun x hx=>?_⟩;have h2:=h1.2 x hx;rwa [kC,xD,xD] at h2
 ·have h1:=h c hc;rw[kC,nrmB_iff,wD];refine⟨h1.1,fun x hx=>?_⟩;rw[kC,xD,xD];exact h1.2 x hx
end Go.Proofs.YteggjbgbknkoiaaGreatDoor
