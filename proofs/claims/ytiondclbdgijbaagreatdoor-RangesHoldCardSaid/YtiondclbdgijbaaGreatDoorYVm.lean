import Derived.Test.YtiondclbdgijbaaGreatDoorYRow
import Derived.Test.YtiondclbdgijbaaGreatDoorYVn
namespace Go.Proofs.YtiondclbdgijbaaGreatDoor
open Go.RowKit Tw
variable {L:List Tm} {t:Tm} {M:Nat} {w':World} {A:Option Addr} {P:List (Int×Rat)}
theorem pUt (a:Act) (d:Tmp) (v:Value):a.put (some d) v={ a with tmps:=a.tmps.setIfInBounds d v }:=rfl
theorem pLt (l:List Value) (i:Nat) (v:Value):l.toArray.setIfInBounds i v=(l.set i v).toArray:=jC l i v
theorem pZt (x:Value) (l:List Value) (v:Value):(x :: l).set 0 v=v :: l:=rfl
theorem pSt (x:Value) (l:List Value) (n:Nat) (v:Value):(x :: l).set (n+1) v=x :: l.set n v:=rfl
def prs (L:List Tm):List (Int×Rat):=L.map fun t=>(t.at_,t.x.q)
theorem prs_len (L:List Tm):(prs L).length=L.length:=nA _
theorem prs_get {i:Nat} (h:L[i]?=some t):(prs L)[i]?=some (t.at_,t.x.q):=by unfold prs;rw[mA,h];rfl
theorem prs_append (L M:List Tm):prs (L++M)=prs L++prs M:=cF
theorem prs_take (L:List Tm) (i:Nat):(prs L).take i=prs (L.take i):=List.map_take.symm
theorem prs_set (L:List Tm) (i:Nat) (t:Tm):prs (L.set i t)=(prs L).set i (t.at_,t.x.q):=List.map_set
theorem prs_mem {x:Int×Rat} (h:x∈prs L):∃t∈L,x=(t.at_,t.x.q):=by
 obtain⟨t,ht,rfl⟩:=xC.1 h;exact⟨t,ht,rfl⟩
def dgT (t:Tm):Nat:=max t.x.l t.x.l'
theorem FrOk.rep {w:World} {m:Nat} {x:Fr} (h:FrOk w m x):FrOk w (max x.l x.l') x:=by
 obtain⟨⟨n,d,h1,h2,h3,_,_⟩,h6⟩:=h;exact⟨⟨n,d,h1,h2,h3,zo,zo⟩,h6⟩
theorem FrOk.szd {w:World} {m:Nat} {x:Fr} (h:FrOk w m x):sz x.q≤max x.l x.l'+1:=by
 have:=h.rep.r.sz;omega
def wsum:List Tm→Int→Nat
 | [],_=>0
 | t :: L,a=>(if t.at_=a then dgT t+2 else 0)+wsum L a
theorem wsum_append (L M:List Tm) (a:Int):wsum (L++M) a=wsum L a+wsum M a:=by
 induction L with
 | nil=>simp[wsum]
 | cons t L ih=>simp only[bE,wsum];rw[ih];omega
theorem wsum_perm {M:List Tm} (h:L.Perm M) (a:Int):wsum L a=wsum M a:=by
 induction h with
 | nil=>rfl
 | cons x _ ih=>simp only[wsum];rw[ih]
 | swap x y L=>simp only[wsum];omega
 | trans _ _ h1 h2=>rw[h1,h2]
theorem wsum_snoc {i:Nat} (h:L[i]?=some t) (a:Int):wsum (L.take (i+1)) a=wsum (L.take i) a+(if t.at_=a then dgT t+2 else 0):=by
 rw[zAi h,wsum_append];simp[wsum]
theorem wsum_mem (h:t∈L):dgT t+2≤wsum L t.at_:=by
 induction L with
 | nil=>cases h
 | cons x L ih =>
  unfold wsum
  rcases rB.1 h with rfl | h
  ·rw[bB rfl];omega
  ·have:=ih h;omega
theorem wsum_none {a:Int} (h:∀t∈L,t.at_≠a):wsum L a=0:=by
 induction L with
 | nil=>rfl
 | cons x L ih=>unfold wsum;rw[dA (h x kB),ih fun t ht=>h t (jB _ ht)]
theorem wsum_rise (hr:Rise (prs L)) (h:∀t∈L,dgT t+2≤M) (a:Int):wsum L a≤M:=by
 induction L with
 | nil=>exact uA _
 | cons x L ih =>
  have hc:=Rise.cons.1 hr;unfold wsum
  by_cases e:x.at_=a
  ·subst e;rw[bB rfl,wsum_none (fun t ht e=>by have:=hc.1 (t.at_,t.x.q) (cE ht);simp only at this;omega)];exact h x kB
  ·rw[dA e,mC];exact ih hc.2 fun t ht=>h t (jB _ ht)
def OkT (w:World) (L:List Tm):Prop:=∀t∈L,FrOk w (dgT t) t.x
theorem OkT.below {w:World} (h:OkT w L) (hb:Below w.heap.size w w':=by go_grown):OkT w' L:=fun t ht=>(h t ht).below hb
theorem OkT.k {w:World} (h:OkT w L) (hk:K64 w w'):OkT w' L:=fun t ht=>(h t ht).k hk
def OnT (w:World) (L:List Tm) (b:Int→Nat):Prop:=∀t∈L,RN w t.x.s t.x.A t.x.c t.x.l t.x.s' t.x.A' t.x.c' t.x.l' t.x.q∧t.x.ex=true∧sz t.x.q+1≤b t.at_
theorem OnT.below {w:World} {b:Int→Nat} (h:OnT w L b) (hb:Below w.heap.size w w':=by go_grown):OnT w' L b:=fun t ht=>⟨(h t ht).1.below hb,(h t ht).2⟩
theorem OnT.k {w:World} {b:Int→Nat} (h:OnT w L b) (hk:K64 w w'):OnT w' L b:=fun t ht=>⟨(h t ht).1.k hk,(h t ht).2⟩
theorem OnT.nil (w:World) (b:Int→Nat):OnT w [] b:=fun t ht=>by cases ht
theorem OnT.mono {w:World} {b b':Int→Nat} (h:OnT w L b) (hb:∀t∈L,b t.at_≤b' t.at_):OnT w L b':=fun t ht=>⟨(h t ht).1,(h t ht).2.1,wA (h t ht).2.2 (hb t ht)⟩
theorem OnT.snoc {w:World} {b:Int→Nat} (h:OnT w L b) (hn:RN w t.x.s t.x.A t.x.c t.x.l t.x.s' t.x.A' t.x.c' t.x.l' t.x.q) (he:t.x.ex=true) (hs:sz t.x.q+1≤b t.at_):OnT w (L++[t]) b:=fun u hu=>by
 rcases uD.1 hu with hu | hu
 ·exact h u hu
 ·obtain rfl:=uC.1 hu;exact⟨hn,he,hs⟩
theorem OnT.set {w:World} {b:Int→Nat} (h:OnT w L b) (i:Nat) (hn:RN w t.x.s t.x.A t.x.c t.x.l t.x.s' t.x.A' t.x.c' t.x.l' t.x.q) (he:t.x.ex=true) (hs:sz t.x.q+1≤b t.at_):OnT w (L.set i t) b:=fun u hu=>by
 rcases tF hu with hu | rfl
 ·exact h u hu
 ·exact⟨hn,he,hs⟩
theorem OnT.dg {w:World} {b:Int→Nat} (h:OnT w L b):∀t∈L,dgT t≤sz t.x.q:=fun t ht=>by have:=(h t ht).1.len;unfold dgT;omega
theorem OnT.fr {w:World} {b:Int→Nat} (h:OnT w L b) (hb:∀a,b a≤M):∀t∈L,FrOk w M t.x:=fun t ht=>by
 have h1:=h t ht;have h2:=h1.1.fr (m:=M) (zi (hb t.at_));have e:t.x=⟨t.x.s,t.x.A,t.x.c,t.x.l,t.x.s',t.x.A',t.x.c',t.x.l',t.x.q,true⟩:=by rw[←h1.2.1]
 rw[e];exact h2
def GV (w:World) (A:Option Addr) (n c:Nat) (P:List (Int×Rat)) (M:Nat):Prop :=
 ∃L:List Tm,Sl Tm.cs 5 w A n c L∧OkT w L∧prs L=P∧(∀a,wsum L a≤M)∧(A=none→c=0)
theorem GV.below {w:World} {n c:Nat} (h:GV w A n c P M) (hb:Below w.heap.size w w':=by go_grown):GV w' A n c P M:=by
 obtain⟨L,h1,h2,h3⟩:=h;exact⟨L,h1.below hb,h2.below hb,h3⟩
theorem GV.mono {w:World} {n c M':Nat} (h:GV w A n c P M) (hm:M≤M'):GV w A n c P M':=by
 obtain⟨L,h1,h2,h3,h4,h5⟩:=h;exact⟨L,h1,h2,h3,fun a=>wA (h4 a) hm,h5⟩
theorem GV.len {w:World} {n c:Nat} (h:GV w A n c P M):P.length=n:=by
 obtain⟨L,h1,_,rfl,_⟩:=h;rw[prs_len,h1.1]
def NV (w:World) (A:Option Addr) (n c:Nat) (P:List (Int×Rat)) (M:Nat):Prop :=
 ∃L:List Tm,Sl Tm.cs 5 w A n c L∧OnT w L (fun _=>M)∧prs L=P∧(A=none→c=0)
theorem NV.below {w:World} {n c:Nat} (h:NV w A n c P M) (hb:Below w.heap.size w w':=by go_grown):NV w' A n c P M:=by
 obtain⟨L,h1,h2,h3⟩:=h;exact⟨L,h1.below hb,h2.below hb,h3⟩
theorem NV.mono {w:World} {n c M':Nat} (h:NV w A n c P M) (hm:M≤M'):NV w A n c P M':=by
 obtain⟨L,h1,h2,h3⟩:=h;exact⟨L,h1,h2.mono fun _ _=>hm,h3⟩
theorem NV.len {w:World} {n c:Nat} (h:NV w A n c P M):P.length=n:=by
 obtain⟨L,h1,_,rfl,_⟩:=h;rw[prs_len,h1.1]
theorem OnT.ok {w:World} {b:Int→Nat} (h:OnT w L b):OkT w L:=fun t ht=>by
 have h1:=h t ht;have h2:=h1.1.fr (m:=sz t.x.q) (aA _);have e:t.x=⟨t.x.s,t.x.A,t.x.c,t.x.l,t.x.s',t.x.A',t.x.c',t.x.l',t.x.q,true⟩:=by rw[←h1.2.1]
 exact(by rw[e];exact h2:FrOk w (sz t.x.q) t.x).rep
theorem NV.gv {w:World} {n c:Nat} (h:NV w A n c P M) (hr:Rise P):GV w A n c P (M+1):=by
 obtain⟨L,h1,h2,rfl,h4⟩:=h;exact⟨L,h1,h2.ok,rfl,wsum_rise hr fun t ht=>by have:=h2.dg t ht;have:=(h2 t ht).2.2;simp only at this;omega,h4⟩
def TellsV (w:World) (P:List (Int×Rat)) (M:Nat) (e:Ending) (w':World):Prop:=∃A n c,e=.returned (.slice A n c)∧NV w' A n c P M∧Below w.heap.size w w'
theorem filter_prs (L:List Tm) (p:Int×Rat→Bool):prs (L.filter fun t=>p (t.at_,t.x.q))=(prs L).filter p:=by
 induction L with
 | nil=>rfl
 | cons x L ih =>
  unfold prs at ih ⊢
  rw[fG,List.filter_cons,List.filter_cons];split
  ·rw[fG,ih]
  ·exact ih
theorem rightB_get {n:Int} (h:rightB L n=true) {i:Nat} (ht:L[i]?=some t):0≤t.at_∧t.at_<n∧t.x.q≠0∧t.x.ex=true∧∀j p,i=j+1→L[j]?=some p→p.at_<t.at_:=by
 unfold rightB at h
 have h1:=sB.1 h i (zD.2 (dC.1 ht).1);unfold rightAt at h1
 rw[ht] at h1;simp only[dB,wB] at h1
 obtain⟨⟨⟨⟨h2,h3⟩,h4⟩,h5⟩,h6⟩:=h1;refine⟨h2,h3,h5,h6,fun j p hj hp=>?_⟩;subst hj;simp only[hp,wB] at h4
 exact h4
theorem rightB_lt {n:Int} (h:rightB L n=true):∀(d i:Nat) (p t:Tm),L[i]?=some p→L[i+d+1]?=some t→p.at_<t.at_
 | 0,i,p,t,hp,ht=>(rightB_get h ht).2.2.2.2 i p zo hp
 | d+1,i,p,t,hp,ht=>by
  have hi:=(dC.1 ht).1;obtain⟨u,hu⟩:∃u,L[i+d+1]?=some u:=⟨L[i+d+1]'zo,cA _⟩;have h1:=rightB_lt h d i p u hp hu;have h2:=(rightB_get h ht).2.2.2.2 (i+d+1) u zo hu;omega
theorem rightB_nrm {n:Int} (h:rightB L n=true):Nrm (prs L)∧∀t∈L,0≤t.at_∧t.at_<n∧t.x.ex=true:=by
 refine⟨⟨?_,fun x hx=>?_⟩,fun t ht=>?_⟩
 ·unfold Rise prs
  rw[List.pairwise_map,List.pairwise_iff_getElem];intro i j hi hj hij;simp only
  exact rightB_lt h (j-i-1) i _ _ (cA hi) (by rw[show i+(j-i-1)+1=j by omega];exact cA hj)
 ·obtain⟨t,ht,rfl⟩:=prs_mem hx;obtain⟨i,hi⟩:=nE ht;exact(rightB_get h hi).2.2.1
 ·obtain⟨i,hi⟩:=nE ht;have:=rightB_get h hi;exact⟨this.1,this.2.1,this.2.2.2.1⟩
theorem rightB_of {n:Int} (hr:Nrm (prs L)) (h:∀t∈L,0≤t.at_∧t.at_<n∧t.x.ex=true):rightB L n=true:=by
 unfold rightB
 refine sB.2 fun i hi=>?_;have hi:=zD.1 hi;have ht:L[i]?=some L[i]:=cA hi;have hm:=h _ (cG hi);have hz:L[i].x.q≠0:=hr.nz (L[i].at_,L[i].x.q) (cE (f:=fun t=>(t.at_,t.x.q)) (cG hi));unfold rightAt
 rw[ht];simp only[dB,wB]
 refine⟨⟨⟨⟨hm.1,hm.2.1⟩,?_⟩,hz⟩,hm.2.2⟩;cases i with
 | zero=>rfl
 | succ j =>
  have hj:j<L.length:=zo;have hp:L[j]?=some L[j]:=cA hj;simp only[hp,wB]
  have h2:=hr.rise;unfold Rise prs at h2
  rw[List.pairwise_map,List.pairwise_iff_getElem] at h2;exact h2 j (j+1) hj hi zo
end Go.Proofs.YtiondclbdgijbaaGreatDoor
