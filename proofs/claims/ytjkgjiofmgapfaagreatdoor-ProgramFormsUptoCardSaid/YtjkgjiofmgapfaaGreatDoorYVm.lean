/-
  Vectors in memory: terms that read as places with numbers; how many digits stand at a place.
-/
import Derived.Test.YtjkgjiofmgapfaaGreatDoorYRow
import Derived.Test.YtjkgjiofmgapfaaGreatDoorYVn
set_option maxHeartbeats 8000000
set_option maxRecDepth 100000
namespace Go.Proofs.YtjkgjiofmgapfaaGreatDoor
open Go.RowKit Tw
def prs (L:List Tm):List (Int×Rat):=L.map fun t=>(t.at_,t.x.q)
theorem prs_len (L:List Tm):(prs L).length=L.length:=List.length_map _
theorem prs_get {L:List Tm} {i:Nat} {t:Tm} (h:L[i]?=some t):(prs L)[i]?=some (t.at_,t.x.q):=by unfold prs;rw[List.getElem?_map,h];rfl
theorem prs_append (L M:List Tm):prs (L++M)=prs L++prs M:=List.map_append
theorem prs_take (L:List Tm) (i:Nat):(prs L).take i=prs (L.take i):=List.map_take.symm
theorem prs_set (L:List Tm) (i:Nat) (t:Tm):prs (L.set i t)=(prs L).set i (t.at_,t.x.q):=List.map_set
theorem prs_mem {L:List Tm} {x:Int×Rat} (h:x∈prs L):∃t∈L,x=(t.at_,t.x.q):=by
 obtain⟨t,ht,rfl⟩:=List.mem_map.1 h;exact⟨t,ht,rfl⟩
def dgT (t:Tm):Nat:=max t.x.l t.x.l'
theorem FrOk.rep {w:World} {m:Nat} {x:Fr} (h:FrOk w m x):FrOk w (max x.l x.l') x:=by
 obtain⟨⟨n,d,h1,h2,h3,_,_⟩,h6⟩:=h;exact⟨⟨n,d,h1,h2,h3,zo,zo⟩,h6⟩
theorem FrOk.szd {w:World} {m:Nat} {x:Fr} (h:FrOk w m x):sz x.q≤max x.l x.l'+1:=by
 have:=h.rep.r.sz;omega
def wsum:List Tm→Int→Nat
 | [],_=>0
 | t :: L,a=>(if t.at_=a then dgT t+2 else 0)+wsum L a
theorem wsum_append (L M:List Tm) (a:Int):wsum (L++M) a=wsum L a+wsum M a:=by
 induction L with
 | nil=>simp[wsum]
 | cons t L ih=>simp only[List.cons_append,wsum];rw[ih];omega
theorem wsum_perm {L M:List Tm} (h:L.Perm M) (a:Int):wsum L a=wsum M a:=by
 induction h with
 | nil=>rfl
 | cons x _ ih=>simp only[wsum];rw[ih]
 | swap x y L=>simp only[wsum];omega
 | trans _ _ h1 h2=>rw[h1,h2]
theorem wsum_snoc {L:List Tm} {i:Nat} {t:Tm} (h:L[i]?=some t) (a:Int):wsum (L.take (i+1)) a=wsum (L.take i) a+(if t.at_=a then dgT t+2 else 0):=by
 rw[take_snoc h,wsum_append];simp[wsum]
theorem wsum_mem {L:List Tm} {t:Tm} (h:t∈L):dgT t+2≤wsum L t.at_:=by
 induction L with
 | nil=>cases h
 | cons x L ih =>
  unfold wsum
  rcases List.mem_cons.1 h with rfl | h
  ·rw[if_pos rfl];omega
  ·have:=ih h;omega
theorem wsum_none {L:List Tm} {a:Int} (h:∀t∈L,t.at_≠a):wsum L a=0:=by
 induction L with
 | nil=>rfl
 | cons x L ih=>unfold wsum;rw[if_neg (h x List.mem_cons_self),ih fun t ht=>h t (List.mem_cons_of_mem _ ht)]
theorem wsum_rise {L:List Tm} {M:Nat} (hr:Rise (prs L)) (h:∀t∈L,dgT t+2≤M) (a:Int):wsum L a≤M:=by
 induction L with
 | nil=>exact Nat.zero_le _
 | cons x L ih =>
  have hc:=Rise.cons.1 hr;unfold wsum
  by_cases e:x.at_=a
  ·subst e;rw[if_pos rfl,wsum_none (fun t ht e=>by have:=hc.1 (t.at_,t.x.q) (List.mem_map_of_mem ht);simp only at this;omega)];exact h x List.mem_cons_self
  ·rw[if_neg e,Nat.zero_add];exact ih hc.2 fun t ht=>h t (List.mem_cons_of_mem _ ht)
def OkT (w:World) (L:List Tm):Prop:=∀t∈L,FrOk w (dgT t) t.x
theorem OkT.below {w w':World} {L:List Tm} (h:OkT w L) (hb:Below w.heap.size w w':=by go_grown):OkT w' L:=fun t ht=>(h t ht).below hb
theorem OkT.k {w w':World} {L:List Tm} (h:OkT w L) (hk:K64 w w'):OkT w' L:=fun t ht=>(h t ht).k hk
def OnT (w:World) (L:List Tm) (b:Int→Nat):Prop:=∀t∈L,RN w t.x.s t.x.A t.x.c t.x.l t.x.s' t.x.A' t.x.c' t.x.l' t.x.q∧t.x.ex=true∧sz t.x.q+1≤b t.at_
theorem OnT.below {w w':World} {L:List Tm} {b:Int→Nat} (h:OnT w L b) (hb:Below w.heap.size w w':=by go_grown):OnT w' L b:=fun t ht=>⟨(h t ht).1.below hb,(h t ht).2⟩
theorem OnT.k {w w':World} {L:List Tm} {b:Int→Nat} (h:OnT w L b) (hk:K64 w w'):OnT w' L b:=fun t ht=>⟨(h t ht).1.k hk,(h t ht).2⟩
theorem OnT.nil (w:World) (b:Int→Nat):OnT w [] b:=fun t ht=>by cases ht
theorem OnT.mono {w:World} {L:List Tm} {b b':Int→Nat} (h:OnT w L b) (hb:∀t∈L,b t.at_≤b' t.at_):OnT w L b':=fun t ht=>⟨(h t ht).1,(h t ht).2.1,Nat.le_trans (h t ht).2.2 (hb t ht)⟩
theorem OnT.snoc {w:World} {L:List Tm} {b:Int→Nat} {t:Tm} (h:OnT w L b) (hn:RN w t.x.s t.x.A t.x.c t.x.l t.x.s' t.x.A' t.x.c' t.x.l' t.x.q) (he:t.x.ex=true) (hs:sz t.x.q+1≤b t.at_):OnT w (L++[t]) b:=fun u hu=>by
 rcases List.mem_append.1 hu with hu | hu
 ·exact h u hu
 ·obtain rfl:=List.mem_singleton.1 hu;exact⟨hn,he,hs⟩
theorem OnT.set {w:World} {L:List Tm} {b:Int→Nat} {t:Tm} (h:OnT w L b) (i:Nat) (hn:RN w t.x.s t.x.A t.x.c t.x.l t.x.s' t.x.A' t.x.c' t.x.l' t.x.q) (he:t.x.ex=true) (hs:sz t.x.q+1≤b t.at_):OnT w (L.set i t) b:=fun u hu=>by
 rcases List.mem_or_eq_of_mem_set hu with hu | rfl
 ·exact h u hu
 ·exact⟨hn,he,hs⟩
theorem OnT.dg {w:World} {L:List Tm} {b:Int→Nat} (h:OnT w L b):∀t∈L,dgT t≤sz t.x.q:=fun t ht=>by have:=(h t ht).1.len;unfold dgT;omega
theorem OnT.fr {w:World} {L:List Tm} {b:Int→Nat} (h:OnT w L b) {M:Nat} (hb:∀a,b a≤M):∀t∈L,FrOk w M t.x:=fun t ht=>by
 have h1:=h t ht;have h2:=h1.1.fr (m:=M) (zi (hb t.at_));have e:t.x=⟨t.x.s,t.x.A,t.x.c,t.x.l,t.x.s',t.x.A',t.x.c',t.x.l',t.x.q,true⟩:=by rw[←h1.2.1]
 rw[e];exact h2
def GV (w:World) (A:Option Addr) (n c:Nat) (P:List (Int×Rat)) (M:Nat):Prop :=
 ∃L:List Tm,Sl Tm.cs 5 w A n c L∧OkT w L∧prs L=P∧(∀a,wsum L a≤M)∧(A=none→c=0)
theorem GV.below {w w':World} {A:Option Addr} {n c M:Nat} {P:List (Int×Rat)} (h:GV w A n c P M) (hb:Below w.heap.size w w':=by go_grown):GV w' A n c P M:=by
 obtain⟨L,h1,h2,h3⟩:=h;exact⟨L,h1.below hb,h2.below hb,h3⟩
theorem GV.mono {w:World} {A:Option Addr} {n c M M':Nat} {P:List (Int×Rat)} (h:GV w A n c P M) (hm:M≤M'):GV w A n c P M':=by
 obtain⟨L,h1,h2,h3,h4,h5⟩:=h;exact⟨L,h1,h2,h3,fun a=>Nat.le_trans (h4 a) hm,h5⟩
theorem GV.len {w:World} {A:Option Addr} {n c M:Nat} {P:List (Int×Rat)} (h:GV w A n c P M):P.length=n:=by
 obtain⟨L,h1,_,rfl,_⟩:=h;rw[prs_len,h1.1]
def NV (w:World) (A:Option Addr) (n c:Nat) (P:List (Int×Rat)) (M:Nat):Prop :=
 ∃L:List Tm,Sl Tm.cs 5 w A n c L∧OnT w L (fun _=>M)∧prs L=P∧(A=none→c=0)
theorem NV.below {w w':World} {A:Option Addr} {n c M:Nat} {P:List (Int×Rat)} (h:NV w A n c P M) (hb:Below w.heap.size w w':=by go_grown):NV w' A n c P M:=by
 obtain⟨L,h1,h2,h3⟩:=h;exact⟨L,h1.below hb,h2.below hb,h3⟩
theorem NV.mono {w:World} {A:Option Addr} {n c M M':Nat} {P:List (Int×Rat)} (h:NV w A n c P M) (hm:M≤M'):NV w A n c P M':=by
 obtain⟨L,h1,h2,h3⟩:=h;exact⟨L,h1,h2.mono fun _ _=>hm,h3⟩
theorem NV.len {w:World} {A:Option Addr} {n c M:Nat} {P:List (Int×Rat)} (h:NV w A n c P M):P.length=n:=by
 obtain⟨L,h1,_,rfl,_⟩:=h;rw[prs_len,h1.1]
theorem OnT.ok {w:World} {L:List Tm} {b:Int→Nat} (h:OnT w L b):OkT w L:=fun t ht=>by
 have h1:=h t ht;have h2:=h1.1.fr (m:=sz t.x.q) (Nat.le_refl _);have e:t.x=⟨t.x.s,t.x.A,t.x.c,t.x.l,t.x.s',t.x.A',t.x.c',t.x.l',t.x.q,true⟩:=by rw[←h1.2.1]
 exact(by rw[e];exact h2:FrOk w (sz t.x.q) t.x).rep
theorem NV.gv {w:World} {A:Option Addr} {n c M:Nat} {P:List (Int×Rat)} (h:NV w A n c P M) (hr:Rise P):GV w A n c P (M+1):=by
 obtain⟨L,h1,h2,rfl,h4⟩:=h;exact⟨L,h1,h2.ok,rfl,wsum_rise hr fun t ht=>by have:=h2.dg t ht;have:=(h2 t ht).2.2;simp only at this;omega,h4⟩
def TellsV (w:World) (P:List (Int×Rat)) (M:Nat) (e:Ending) (w':World):Prop:=∃A n c,e=.returned (.slice A n c)∧NV w' A n c P M∧Below w.heap.size w w'
theorem filter_prs (L:List Tm) (p:Int×Rat→Bool):prs (L.filter fun t=>p (t.at_,t.x.q))=(prs L).filter p:=by
 induction L with
 | nil=>rfl
 | cons x L ih =>
  unfold prs at ih ⊢
  rw[List.map_cons,List.filter_cons,List.filter_cons];split
  ·rw[List.map_cons,ih]
  ·exact ih
open Go.RowKit Tw
structure Vr where
 lo:Fr
 hi:Fr
 int:Bool
def Vr.cs (x:Vr):List Value:=[.bool x.lo.s,.slice x.lo.A x.lo.l x.lo.c,.bool x.lo.s',.slice x.lo.A' x.lo.l' x.lo.c',.bool x.hi.s,.slice x.hi.A x.hi.l x.hi.c,.bool x.hi.s',.slice x.hi.A' x.hi.l' x.hi.c',.bool x.int]
theorem Vr.cs_len (x:Vr):x.cs.length=9:=rfl
def VrOk (w:World) (m:Nat) (x:Vr):Prop:=FrOk w m x.lo∧FrOk w m x.hi
theorem VrOk.below {w w':World} {m:Nat} {x:Vr} (h:VrOk w m x) (hb:Below w.heap.size w w':=by go_grown):VrOk w' m x:=⟨h.1.below hb,h.2.below hb⟩
theorem VrOk.lof {w:World} {m:Nat} {x:Vr} (h:VrOk w m x):FrOk w m x.lo:=h.1
theorem VrOk.hif {w:World} {m:Nat} {x:Vr} (h:VrOk w m x):FrOk w m x.hi:=h.2
structure Rw where
 A:Option Addr
 n:Nat
 c:Nat
 L:List Tm
 kind:Int
 b:Fr
def Rw.cs (x:Rw):List Value:=[.slice x.A x.n x.c,.int .u8 x.kind,.bool x.b.s,.slice x.b.A x.b.l x.b.c,.bool x.b.s',.slice x.b.A' x.b.l' x.b.c']
theorem Rw.cs_len (x:Rw):x.cs.length=6:=rfl
structure RwOk (w:World) (m:Nat) (x:Rw):Prop where
 sl:Sl Tm.cs 5 w x.A x.n x.c x.L
 fr:∀t∈x.L,FrOk w m t.x
 len:x.n≤2000000
 nil:x.A=none→x.c=0
 b:FrOk w m x.b
theorem RwOk.below {w w':World} {m:Nat} {x:Rw} (h:RwOk w m x) (hb:Below w.heap.size w w':=by go_grown):RwOk w' m x:=⟨h.sl.below hb,fun t ht=>(h.fr t ht).below hb,h.len,h.nil,h.b.below hb⟩
structure Pg where
 vA:Option Addr
 vn:Nat
 vc:Nat
 V:List Vr
 rA:Option Addr
 rn:Nat
 rc:Nat
 R:List Rw
 cA:Option Addr
 cn:Nat
 cc:Nat
 C:List Tm
def Pg.cs (p:Pg):List Value:=[.slice p.vA p.vn p.vc,.slice p.rA p.rn p.rc,.slice p.cA p.cn p.cc]
structure PgOk (w:World) (m:Nat) (p:Pg):Prop where
 vsl:Sl Vr.cs 9 w p.vA p.vn p.vc p.V
 v:∀x∈p.V,VrOk w m x
 rsl:Sl Rw.cs 6 w p.rA p.rn p.rc p.R
 r:∀x∈p.R,RwOk w m x
 csl:Sl Tm.cs 5 w p.cA p.cn p.cc p.C
 cf:∀t∈p.C,FrOk w m t.x
 lens:p.vn≤2000000∧p.rn≤2000000∧p.cn≤2000000
 nil:p.cA=none→p.cc=0
theorem PgOk.below {w w':World} {m:Nat} {p:Pg} (h:PgOk w m p) (hb:Below w.heap.size w w':=by go_grown):PgOk w' m p :=
 ⟨h.vsl.below hb,fun x hx=>(h.v x hx).below hb,h.rsl.below hb,fun x hx=>(h.r x hx).below hb,h.csl.below hb,fun t ht=>(h.cf t ht).below hb,h.lens,h.nil⟩
def bndB (x:Vr):Bool:=decide (cmpQ x.lo.q x.hi.q≤0)
def stdB (n:Int) (x:Rw):Bool:=(decide (x.kind=1) || decide (x.kind=2) || decide (x.kind=3))&&rightB x.L n
def rightP (p:Pg):Bool:=decide (p.vn≤600)&&decide (p.rn≤600)&&(p.V.all bndB&&(p.R.all (stdB (p.vn:Int))&&rightB p.C (p.vn:Int)))
theorem bnd_q {w:World} {m:Nat} {x:Vr} (h:VrOk w m x) (hm:m≤20000000000) (t:Bool) (ht:Hid (bndB x=t)) :
  Calls Tryz.prog 57 #[.agg #[.bool x.lo.s,.slice x.lo.A x.lo.l x.lo.c,.bool x.lo.s',.slice x.lo.A' x.lo.l' x.lo.c',.bool x.hi.s,.slice x.hi.A x.hi.l x.hi.c,.bool x.hi.s',.slice x.hi.A' x.hi.l' x.hi.c',.bool x.int]] w fun e w'=>e=.returned (.bool t)∧Below w.heap.size w w':=by
 obtain⟨z,HZ⟩:∃z,Hid (cmpQ x.lo.q x.hi.q=z):=⟨_,zh rfl⟩;obtain⟨W,hW,x0,hB⟩:=zAa w #[.bool x.lo.s,.slice x.lo.A x.lo.l x.lo.c,.bool x.lo.s',.slice x.lo.A' x.lo.l' x.lo.c',.bool x.hi.s,.slice x.hi.A x.hi.l x.hi.c,.bool x.hi.s',.slice x.hi.A' x.hi.l' x.hi.c',.bool x.int] 44;have HX0:=zh x0;clear x0;have Bz:=zr W;obtain⟨pa0,pa1,pa2,pa3,pa4,pa5,pa6,pa7,-⟩:=(zx HX0 Bz).cz;go_enter Tryz.func57,Tryz.ntmps57
 go_wp2_with fail
 rw[←hW];clear hW;go_wp2_with fail
 with_reducible refine(cmp_q (FrOk.below (VrOk.lof h) (bT hB (bT (b:=W) Bz))).r (FrOk.below (VrOk.hif h) (bT hB (bT (b:=W) Bz))).r zo z HZ).mono ?_
 rintro e w1 ⟨rfl,b1⟩;replace b1:=zq (a:=W) b1;replace Bz:=bT Bz b1;clear b1;clear pa0 pa1 pa2 pa3 pa4 pa5 pa6 pa7;go_wp2_with fail
 go_ret
 have hF:=bT (c:=w1) hB Bz;exact⟨by rw[←ht.out];unfold bndB;rw[HZ.out];rfl,bT hF⟩
theorem std_q {w:World} {m bn:Nat} {n:Int} {x:Rw} (h:RwOk w m x) (hm:m≤20000000000) (xb:Bx w bn #[.int .i64 n] 3) (t:Bool) (ht:Hid (stdB n x=t)) (hT:Hid (Tab w)) :
  Calls Tryz.prog 58 #[.agg #[.slice x.A x.n x.c,.int .u8 x.kind,.bool x.b.s,.slice x.b.A x.b.l x.b.c,.bool x.b.s',.slice x.b.A' x.b.l' x.b.c'],.pointer (some ⟨bn,0,none⟩)] w fun e w'=>e=.returned (.bool t)∧Below w.heap.size w w':=by
 have HX9:=zh xb;clear xb;obtain⟨r,HR⟩:∃r,Hid (rightB x.L n=r):=⟨_,zh rfl⟩;by_cases k1:x.kind=1
 ·have g1:(x.kind==1)=true:=by simp[k1]
  obtain rfl:t=r:=by rw[←ht.out];unfold stdB;rw[HR.out];simp[k1]
  clear k1;obtain⟨W,hW,x0,hB⟩:=zAa w #[.slice x.A x.n x.c,.int .u8 x.kind,.bool x.b.s,.slice x.b.A x.b.l x.b.c,.bool x.b.s',.slice x.b.A' x.b.l' x.b.c'] 35;have HX0:=zh x0;clear x0;have Bz:=zr W;replace HX9:=zh (zx HX9 hB);have pj0:=(zx HX9 Bz).cell 0 (.int .i64 n) rfl;obtain⟨pa0,pa1,-⟩:=(zx HX0 Bz).cz;go_enter Tryz.func58,Tryz.ntmps58
  go_upto_region 1 with(fail)
  rw[←hW];clear hW;go_wp2_with fail
  with_reducible refine(right_q (h.sl.below (bT hB (bT (b:=W) Bz))) (fun t ht=>(h.fr t ht).below (bT hB (bT (b:=W) Bz))) hm (zi h.len) t HR (zt hT hB Bz)).mono ?_
  rintro e w1 ⟨rfl,b1⟩;replace b1:=zq (a:=W) b1;replace Bz:=bT Bz b1;clear b1;clear pj0 pa0 pa1;go_wp2_with fail
  go_ret
  have hF:=bT (c:=w1) hB Bz;exact⟨rfl,bT hF⟩
 by_cases k2:x.kind=2
 ·have g1:(x.kind==1)=false:=by simp[k2]
  have g2:(x.kind==2)=true:=by simp[k2]
  obtain rfl:t=r:=by rw[←ht.out];unfold stdB;rw[HR.out];simp[k2]
  clear k1 k2;obtain⟨W,hW,x0,hB⟩:=zAa w #[.slice x.A x.n x.c,.int .u8 x.kind,.bool x.b.s,.slice x.b.A x.b.l x.b.c,.bool x.b.s',.slice x.b.A' x.b.l' x.b.c'] 35;have HX0:=zh x0;clear x0;have Bz:=zr W;replace HX9:=zh (zx HX9 hB);have pj0:=(zx HX9 Bz).cell 0 (.int .i64 n) rfl;obtain⟨pa0,pa1,-⟩:=(zx HX0 Bz).cz;go_enter Tryz.func58,Tryz.ntmps58
  go_upto_region 1 with(fail)
  rw[←hW];clear hW;go_wp2_with fail
  with_reducible refine(right_q (h.sl.below (bT hB (bT (b:=W) Bz))) (fun t ht=>(h.fr t ht).below (bT hB (bT (b:=W) Bz))) hm (zi h.len) t HR (zt hT hB Bz)).mono ?_
  rintro e w1 ⟨rfl,b1⟩;replace b1:=zq (a:=W) b1;replace Bz:=bT Bz b1;clear b1;clear pj0 pa0 pa1;go_wp2_with fail
  go_ret
  have hF:=bT (c:=w1) hB Bz;exact⟨rfl,bT hF⟩
 by_cases k3:x.kind=3
 ·have g1:(x.kind==1)=false:=by simp[k3]
  have g2:(x.kind==2)=false:=by simp[k3]
  have g3:(x.kind==3)=true:=by simp[k3]
  obtain rfl:t=r:=by rw[←ht.out];unfold stdB;rw[HR.out];simp[k3]
  clear k1 k2 k3;obtain⟨W,hW,x0,hB⟩:=zAa w #[.slice x.A x.n x.c,.int .u8 x.kind,.bool x.b.s,.slice x.b.A x.b.l x.b.c,.bool x.b.s',.slice x.b.A' x.b.l' x.b.c'] 35;have HX0:=zh x0;clear x0;have Bz:=zr W;replace HX9:=zh (zx HX9 hB);have pj0:=(zx HX9 Bz).cell 0 (.int .i64 n) rfl;obtain⟨pa0,pa1,-⟩:=(zx HX0 Bz).cz;go_enter Tryz.func58,Tryz.ntmps58
  go_upto_region 1 with(fail)
  rw[←hW];clear hW;go_wp2_with fail
  with_reducible refine(right_q (h.sl.below (bT hB (bT (b:=W) Bz))) (fun t ht=>(h.fr t ht).below (bT hB (bT (b:=W) Bz))) hm (zi h.len) t HR (zt hT hB Bz)).mono ?_
  rintro e w1 ⟨rfl,b1⟩;replace b1:=zq (a:=W) b1;replace Bz:=bT Bz b1;clear b1;clear pj0 pa0 pa1;go_wp2_with fail
  go_ret
  have hF:=bT (c:=w1) hB Bz;exact⟨rfl,bT hF⟩
 ·have g1:(x.kind==1)=false:=by simp[k1]
  have g2:(x.kind==2)=false:=by simp[k2]
  have g3:(x.kind==3)=false:=by simp[k3]
  obtain rfl:t=false:=by rw[←ht.out];unfold stdB;rw[HR.out];simp[k1,k2,k3]
  clear k1 k2 k3;obtain⟨W,hW,x0,hB⟩:=zAa w #[.slice x.A x.n x.c,.int .u8 x.kind,.bool x.b.s,.slice x.b.A x.b.l x.b.c,.bool x.b.s',.slice x.b.A' x.b.l' x.b.c'] 35;have HX0:=zh x0;clear x0;have Bz:=zr W;replace HX9:=zh (zx HX9 hB);have pa1:=(zx HX0 Bz).cell 1 (.int .u8 x.kind) rfl;go_enter Tryz.func58,Tryz.ntmps58
  go_upto_region 1 with(fail)
  rw[←hW];clear hW;go_wp2_with fail
  go_ret
  have hF:=bT (c:=W) hB Bz;exact⟨rfl,bT hF⟩
theorem all_bnd {w:World} {A:Option Addr} {n c m:Nat} {L:List Vr} (h:Sl Vr.cs 9 w A n c L) (hok:Hid (∀x∈L,VrOk w m x)) (hm:m≤20000000000) (hn:n≤1000000000) (r:Bool) (hr:Hid (L.all bndB=r)) (_hT:Hid (Tab w)) :
  Calls Tryz.prog 59 #[.slice A n c,.func (.func 57) #[] #[]] w fun e w'=>e=.returned (.bool r)∧Below w.heap.size w w':=by
 have H:=zh h;have HLN:=zh h.1;have hst:AL1 w L bndB n n (.int .i64 ((0:Nat):Int)) w:=⟨0,Nat.zero_le _,rfl,rfl,Below.refl _ _,by simp⟩;have HST:=zh hst;clear h hst;go_enter Tryz.func59,Tryz.ntmps59
 go_wp2_with fail
 go_loopg [9] n (fun gk s wr=>AL1 w L bndB n gk s wr)
 case atStart=>exact HST.out
 case round =>
  clear HST;obtain⟨i,hi,hgk,rfl,hB,hd⟩:=hrel;have HGK:=zh hgk;have HD:=zh hd;clear hgk hd;by_cases hlt:i<n
  ·obtain⟨b,off,rfl,hel⟩:=H.out.at Vr.cs_len zo zo;obtain⟨x,hx⟩:∃x,L[i]?=some x:=⟨L[i]'(by rw[HLN.out];exact hlt),List.getElem?_eq_getElem _⟩;have hnd:=hel i x hx;have HTI:=zh hx;have HV:=zh (hok.out x (List.mem_of_getElem? hx));have i1:(i:Int)<(n:Int):=zo;have i2:(0:Int)≤(i:Int):=zo;clear hx hel;cases hp:bndB x
   ·have HP:=zh hp;clear hp;have Bz:=zr wr;obtain⟨pA0,pA1,pA2,pA3,pA4,pA5,pA6,pA7,pA8,-⟩:=(hnd.below (bT hB Bz)).ez;go_upto_region 4 with(fail)
    obtain⟨V1,hW,x0,hN⟩:=zAa wr #[.bool x.lo.s,.slice x.lo.A x.lo.l x.lo.c,.bool x.lo.s',.slice x.lo.A' x.lo.l' x.lo.c',.bool x.hi.s,.slice x.hi.A x.hi.l x.hi.c,.bool x.hi.s',.slice x.hi.A' x.hi.l' x.hi.c',.bool x.int] 44;rw[←hW];clear hW;obtain⟨v0,hb0⟩:=ze wr.heap.size;rw[←hb0] at x0 ⊢;have ow_0:w.heap.size≤v0:=zi (zw hB Bz);replace hB:=bT (bT hB Bz) hN;have HX0:=zh x0;clear x0 hN Bz hb0;have Bz:=zr V1;clear pA0 pA1 pA2 pA3 pA4 pA5 pA6 pA7 pA8;obtain⟨pa0,pa1,pa2,pa3,pa4,pa5,pa6,pa7,pa8,-⟩:=(zx HX0 Bz).cz;go_wp2_with fail
    with_reducible refine(bnd_q (HV.out.below (bT hB (bT (b:=V1) Bz))) hm false HP).mono ?_
    rintro e w1 ⟨rfl,b1⟩;replace b1:=zq (a:=V1) b1;replace Bz:=bT Bz b1;clear b1;clear pa0 pa1 pa2 pa3 pa4 pa5 pa6 pa7 pa8;go_wp2_with fail
    go_ret
    have hF:=bT (c:=w1) hB Bz;obtain rfl:r=false:=by rw[←hr.out];exact all_no HTI.out HP.out
    exact⟨rfl,bT (bT hB Bz)⟩
   ·have HP:=zh hp;clear hp;have Bz:=zr wr;obtain⟨pA0,pA1,pA2,pA3,pA4,pA5,pA6,pA7,pA8,-⟩:=(hnd.below (bT hB Bz)).ez;go_upto_region 4 with(fail)
    obtain⟨V1,hW,x0,hN⟩:=zAa wr #[.bool x.lo.s,.slice x.lo.A x.lo.l x.lo.c,.bool x.lo.s',.slice x.lo.A' x.lo.l' x.lo.c',.bool x.hi.s,.slice x.hi.A x.hi.l x.hi.c,.bool x.hi.s',.slice x.hi.A' x.hi.l' x.hi.c',.bool x.int] 44;rw[←hW];clear hW;obtain⟨v0,hb0⟩:=ze wr.heap.size;rw[←hb0] at x0 ⊢;have ow_0:w.heap.size≤v0:=zi (zw hB Bz);replace hB:=bT (bT hB Bz) hN;have HX0:=zh x0;clear x0 hN Bz hb0;have Bz:=zr V1;clear pA0 pA1 pA2 pA3 pA4 pA5 pA6 pA7 pA8;obtain⟨pa0,pa1,pa2,pa3,pa4,pa5,pa6,pa7,pa8,-⟩:=(zx HX0 Bz).cz;go_wp2_with fail
    with_reducible refine(bnd_q (HV.out.below (bT hB (bT (b:=V1) Bz))) hm true HP).mono ?_
    rintro e w1 ⟨rfl,b1⟩;replace b1:=zq (a:=V1) b1;replace Bz:=bT Bz b1;clear b1;clear pa0 pa1 pa2 pa3 pa4 pa5 pa6 pa7 pa8;go_wp2_with fail
    go_roundg (n-(i+1))
    case measure=>have:=HGK.out;omega
    case rel=>exact⟨i+1,zo,rfl,by go_num,bT (bT hB Bz),take_all HD.out HTI.out HP.out⟩
  ·obtain rfl:i=n:=zo;have i1:¬(i:Int)<(i:Int):=zo;obtain rfl:r=true:=by rw[←hr.out];exact all_yes HLN.out HD.out
   go_wp2_with fail
   go_ret
   exact⟨rfl,hB⟩
theorem all_std {w:World} {A:Option Addr} {n c m:Nat} {L:List Rw} {bn:Nat} {z:Int} (h:Sl Rw.cs 6 w A n c L) (hok:Hid (∀x∈L,RwOk w m x)) (hm:m≤20000000000) (hn:n≤1000000000) (xb:Bx w bn #[.int .i64 z] 3) (r:Bool) (hr:Hid (L.all (stdB z)=r)) (hT:Hid (Tab w)) :
  Calls Tryz.prog 60 #[.slice A n c,.func (.func 58) #[] #[.pointer (some ⟨bn,0,none⟩)]] w fun e w'=>e=.returned (.bool r)∧Below w.heap.size w w':=by
 have H:=zh h;have HLN:=zh h.1;have HXB:=zh xb;clear xb;have hst:AL1 w L (stdB z) n n (.int .i64 ((0:Nat):Int)) w:=⟨0,Nat.zero_le _,rfl,rfl,Below.refl _ _,by simp⟩;have HST:=zh hst;clear h hst;go_enter Tryz.func60,Tryz.ntmps60
 go_wp2_with fail
 go_loopg [9] n (fun gk s wr=>AL1 w L (stdB z) n gk s wr)
 case atStart=>exact HST.out
 case round =>
  clear HST;obtain⟨i,hi,hgk,rfl,hB,hd⟩:=hrel;have HGK:=zh hgk;have HD:=zh hd;clear hgk hd;by_cases hlt:i<n
  ·obtain⟨b,off,rfl,hel⟩:=H.out.at Rw.cs_len zo zo;obtain⟨x,hx⟩:∃x,L[i]?=some x:=⟨L[i]'(by rw[HLN.out];exact hlt),List.getElem?_eq_getElem _⟩;have hnd:=hel i x hx;have HTI:=zh hx;have HV:=zh (hok.out x (List.mem_of_getElem? hx));have i1:(i:Int)<(n:Int):=zo;have i2:(0:Int)≤(i:Int):=zo;clear hx hel;cases hp:(stdB z) x
   ·have HP:=zh hp;clear hp;have Bz:=zr wr;obtain⟨pA0,pA1,pA2,pA3,pA4,pA5,-⟩:=(hnd.below (bT hB Bz)).ez;go_upto_region 4 with(fail)
    obtain⟨V1,hW,x0,hN⟩:=zAa wr #[.slice x.A x.n x.c,.int .u8 x.kind,.bool x.b.s,.slice x.b.A x.b.l x.b.c,.bool x.b.s',.slice x.b.A' x.b.l' x.b.c'] 35;rw[←hW];clear hW;obtain⟨v0,hb0⟩:=ze wr.heap.size;rw[←hb0] at x0 ⊢;have ow_0:w.heap.size≤v0:=zi (zw hB Bz);replace hB:=bT (bT hB Bz) hN;have HX0:=zh x0;clear x0 hN Bz hb0;have Bz:=zr V1;clear pA0 pA1 pA2 pA3 pA4 pA5;obtain⟨pa0,pa1,pa2,pa3,pa4,pa5,-⟩:=(zx HX0 Bz).cz;go_wp2_with fail
    with_reducible refine(std_q (HV.out.below (bT hB (bT (b:=V1) Bz))) hm (HXB.out.below (bT hB (bT (b:=V1) Bz))) false HP (zt hT hB Bz)).mono ?_
    rintro e w1 ⟨rfl,b1⟩;replace b1:=zq (a:=V1) b1;replace Bz:=bT Bz b1;clear b1;clear pa0 pa1 pa2 pa3 pa4 pa5;go_wp2_with fail
    go_ret
    have hF:=bT (c:=w1) hB Bz;obtain rfl:r=false:=by rw[←hr.out];exact all_no HTI.out HP.out
    exact⟨rfl,bT (bT hB Bz)⟩
   ·have HP:=zh hp;clear hp;have Bz:=zr wr;obtain⟨pA0,pA1,pA2,pA3,pA4,pA5,-⟩:=(hnd.below (bT hB Bz)).ez;go_upto_region 4 with(fail)
    obtain⟨V1,hW,x0,hN⟩:=zAa wr #[.slice x.A x.n x.c,.int .u8 x.kind,.bool x.b.s,.slice x.b.A x.b.l x.b.c,.bool x.b.s',.slice x.b.A' x.b.l' x.b.c'] 35;rw[←hW];clear hW;obtain⟨v0,hb0⟩:=ze wr.heap.size;rw[←hb0] at x0 ⊢;have ow_0:w.heap.size≤v0:=zi (zw hB Bz);replace hB:=bT (bT hB Bz) hN;have HX0:=zh x0;clear x0 hN Bz hb0;have Bz:=zr V1;clear pA0 pA1 pA2 pA3 pA4 pA5;obtain⟨pa0,pa1,pa2,pa3,pa4,pa5,-⟩:=(zx HX0 Bz).cz;go_wp2_with fail
    with_reducible refine(std_q (HV.out.below (bT hB (bT (b:=V1) Bz))) hm (HXB.out.below (bT hB (bT (b:=V1) Bz))) true HP (zt hT hB Bz)).mono ?_
    rintro e w1 ⟨rfl,b1⟩;replace b1:=zq (a:=V1) b1;replace Bz:=bT Bz b1;clear b1;clear pa0 pa1 pa2 pa3 pa4 pa5;go_wp2_with fail
    go_roundg (n-(i+1))
    case measure=>have:=HGK.out;omega
    case rel=>exact⟨i+1,zo,rfl,by go_num,bT (bT hB Bz),take_all HD.out HTI.out HP.out⟩
  ·obtain rfl:i=n:=zo;have i1:¬(i:Int)<(i:Int):=zo;obtain rfl:r=true:=by rw[←hr.out];exact all_yes HLN.out HD.out
   go_wp2_with fail
   go_ret
   exact⟨rfl,hB⟩
theorem pright_q {w:World} {m:Nat} {p:Pg} (h:PgOk w m p) (hm:m≤20000000000) (z:Int) (hz:Hid ((if rightP p then(0:Int) else 100)=z)) (hT:Hid (Tab w)) :
  Calls Tryz.prog 12 #[.agg #[.slice p.vA p.vn p.vc,.slice p.rA p.rn p.rc,.slice p.cA p.cn p.cc]] w fun e w'=>e=.returned (.int .i64 z)∧Below w.heap.size w w':=by
 by_cases n1:600<p.vn
 ·have g1:(600:Int)<(p.vn:Int):=zo;obtain rfl:z=100:=by rw[←hz.out];unfold rightP;rw[decide_eq_false (by omega:¬p.vn≤600)];rfl
  clear hz;obtain⟨W,hW,x0,hB⟩:=zAa w #[.slice p.vA p.vn p.vc,.slice p.rA p.rn p.rc,.slice p.cA p.cn p.cc] 27;have HX0:=zh x0;clear x0;have Bz:=zr W;have pa0:=(zx HX0 Bz).cell 0 (.slice p.vA p.vn p.vc) rfl;go_enter Tryz.func12,Tryz.ntmps12
  go_upto_region 1 with(fail)
  rw[←hW];clear hW;go_upto_region 2 with(fail)
  obtain⟨V1,hW,x1,hN⟩:=zAa W #[.int .i64 (p.vn:Int)] 3;rw[←hW];clear hW;obtain⟨v1,hb1⟩:=ze W.heap.size;rw[←hb1] at x1 ⊢;have o0_1:w.heap.size<v1:=zi (zx HX0 Bz).lt;have ow_1:w.heap.size≤v1:=zi (zw hB Bz);replace hB:=bT (bT hB Bz) hN;replace HX0:=zba HX0 Bz hN;have HX1:=zh x1;clear x1 hN Bz hb1;have Bz:=zr V1;clear pa0;have pb0:=(zx HX1 Bz).cell 0 (.int .i64 (p.vn:Int)) rfl;go_wp2_with fail
  go_ret
  have hF:=bT (c:=V1) hB Bz;exact⟨rfl,bT hF⟩
 by_cases n2:600<p.rn
 ·have g1:¬(600:Int)<(p.vn:Int):=zo;have g2:(600:Int)<(p.rn:Int):=zo;obtain rfl:z=100:=by rw[←hz.out];unfold rightP;rw[decide_eq_false (by omega:¬p.rn≤600),Bool.and_false];rfl
  clear hz;obtain⟨W,hW,x0,hB⟩:=zAa w #[.slice p.vA p.vn p.vc,.slice p.rA p.rn p.rc,.slice p.cA p.cn p.cc] 27;have HX0:=zh x0;clear x0;have Bz:=zr W;have pa0:=(zx HX0 Bz).cell 0 (.slice p.vA p.vn p.vc) rfl;go_enter Tryz.func12,Tryz.ntmps12
  go_upto_region 1 with(fail)
  rw[←hW];clear hW;go_upto_region 2 with(fail)
  obtain⟨V1,hW,x1,hN⟩:=zAa W #[.int .i64 (p.vn:Int)] 3;rw[←hW];clear hW;obtain⟨v1,hb1⟩:=ze W.heap.size;rw[←hb1] at x1 ⊢;have o0_1:w.heap.size<v1:=zi (zx HX0 Bz).lt;have ow_1:w.heap.size≤v1:=zi (zw hB Bz);replace hB:=bT (bT hB Bz) hN;replace HX0:=zba HX0 Bz hN;have HX1:=zh x1;clear x1 hN Bz hb1;have Bz:=zr V1;clear pa0;have pa1:=(zx HX0 Bz).cell 1 (.slice p.rA p.rn p.rc) rfl;have pb0:=(zx HX1 Bz).cell 0 (.int .i64 (p.vn:Int)) rfl;go_wp2_with fail
  go_ret
  have hF:=bT (c:=V1) hB Bz;exact⟨rfl,bT hF⟩
 have g1:¬(600:Int)<(p.vn:Int):=zo;have g2:¬(600:Int)<(p.rn:Int):=zo;have e0:(decide (p.vn≤600)&&decide (p.rn≤600))=true:=by simp;omega
 cases hv:p.V.all bndB
 ·have HV:=zh hv;obtain rfl:z=100:=by rw[←hz.out];unfold rightP;rw[e0,Bool.true_and,hv];rfl
  clear hz;clear e0 hv;obtain⟨W,hW,x0,hB⟩:=zAa w #[.slice p.vA p.vn p.vc,.slice p.rA p.rn p.rc,.slice p.cA p.cn p.cc] 27;have HX0:=zh x0;clear x0;have Bz:=zr W;have pa0:=(zx HX0 Bz).cell 0 (.slice p.vA p.vn p.vc) rfl;go_enter Tryz.func12,Tryz.ntmps12
  go_upto_region 1 with(fail)
  rw[←hW];clear hW;go_upto_region 2 with(fail)
  obtain⟨V1,hW,x1,hN⟩:=zAa W #[.int .i64 (p.vn:Int)] 3;rw[←hW];clear hW;obtain⟨v1,hb1⟩:=ze W.heap.size;rw[←hb1] at x1 ⊢;have o0_1:w.heap.size<v1:=zi (zx HX0 Bz).lt;have ow_1:w.heap.size≤v1:=zi (zw hB Bz);replace hB:=bT (bT hB Bz) hN;replace HX0:=zba HX0 Bz hN;have HX1:=zh x1;clear x1 hN Bz hb1;have Bz:=zr V1;clear pa0;obtain⟨pa0,pa1,-⟩:=(zx HX0 Bz).cz;have pb0:=(zx HX1 Bz).cell 0 (.int .i64 (p.vn:Int)) rfl;go_wp2_with fail
  with_reducible refine(all_bnd (Sl.below h.vsl (bT hB (bT (b:=V1) Bz))) (zh fun x hx=>(h.v x hx).below (bT hB (bT (b:=V1) Bz))) hm (zi h.lens) false HV (zt hT hB Bz)).mono ?_
  rintro e w1 ⟨rfl,b1⟩;replace b1:=zq (a:=V1) b1;replace Bz:=bT Bz b1;clear b1;clear pa0 pa1 pb0;go_wp2_with fail
  go_ret
  have hF:=bT (c:=w1) hB Bz;exact⟨rfl,bT hF⟩
 have HV:=zh hv;cases hr:p.R.all (stdB (p.vn:Int))
 ·have HR:=zh hr;obtain rfl:z=100:=by rw[←hz.out];unfold rightP;rw[e0,Bool.true_and,hv,hr];rfl
  clear hz;clear e0 hv hr;obtain⟨W,hW,x0,hB⟩:=zAa w #[.slice p.vA p.vn p.vc,.slice p.rA p.rn p.rc,.slice p.cA p.cn p.cc] 27;have HX0:=zh x0;clear x0;have Bz:=zr W;have pa0:=(zx HX0 Bz).cell 0 (.slice p.vA p.vn p.vc) rfl;go_enter Tryz.func12,Tryz.ntmps12
  go_upto_region 1 with(fail)
  rw[←hW];clear hW;go_upto_region 2 with(fail)
  obtain⟨V1,hW,x1,hN⟩:=zAa W #[.int .i64 (p.vn:Int)] 3;rw[←hW];clear hW;obtain⟨v1,hb1⟩:=ze W.heap.size;rw[←hb1] at x1 ⊢;have o0_1:w.heap.size<v1:=zi (zx HX0 Bz).lt;have ow_1:w.heap.size≤v1:=zi (zw hB Bz);replace hB:=bT (bT hB Bz) hN;replace HX0:=zba HX0 Bz hN;have HX1:=zh x1;clear x1 hN Bz hb1;have Bz:=zr V1;clear pa0;obtain⟨pa0,pa1,-⟩:=(zx HX0 Bz).cz;have pb0:=(zx HX1 Bz).cell 0 (.int .i64 (p.vn:Int)) rfl;go_wp2_with fail
  with_reducible refine(all_bnd (Sl.below h.vsl (bT hB (bT (b:=V1) Bz))) (zh fun x hx=>(h.v x hx).below (bT hB (bT (b:=V1) Bz))) hm (zi h.lens) true HV (zt hT hB Bz)).mono ?_
  rintro e w1 ⟨rfl,b1⟩;replace b1:=zq (a:=V1) b1;replace Bz:=bT Bz b1;clear b1;clear pa0 pa1 pb0;have pa1:=(zx HX0 Bz).cell 1 (.slice p.rA p.rn p.rc) rfl;go_wp2_with fail
  with_reducible refine(all_std (Sl.below h.rsl (bT hB (bT (b:=w1) Bz))) (zh fun x hx=>(h.r x hx).below (bT hB (bT (b:=w1) Bz))) hm (zi h.lens) (HX1.out.below (bT Bz)) false HR (zt hT hB Bz)).mono ?_
  rintro e w2 ⟨rfl,b2⟩;replace b2:=zq (a:=w1) b2;replace Bz:=bT Bz b2;clear b2;clear pa1;go_wp2_with fail
  go_ret
  have hF:=bT (c:=w2) hB Bz;exact⟨rfl,bT hF⟩
 have HR:=zh hr;cases hc:rightB p.C (p.vn:Int)
 ·have HC:=zh hc;obtain rfl:z=100:=by rw[←hz.out];unfold rightP;rw[e0,Bool.true_and,hv,hr,hc];rfl
  clear hz;clear e0 hv hr hc;obtain⟨W,hW,x0,hB⟩:=zAa w #[.slice p.vA p.vn p.vc,.slice p.rA p.rn p.rc,.slice p.cA p.cn p.cc] 27;have HX0:=zh x0;clear x0;have Bz:=zr W;have pa0:=(zx HX0 Bz).cell 0 (.slice p.vA p.vn p.vc) rfl;go_enter Tryz.func12,Tryz.ntmps12
  go_upto_region 1 with(fail)
  rw[←hW];clear hW;go_upto_region 2 with(fail)
  obtain⟨V1,hW,x1,hN⟩:=zAa W #[.int .i64 (p.vn:Int)] 3;rw[←hW];clear hW;obtain⟨v1,hb1⟩:=ze W.heap.size;rw[←hb1] at x1 ⊢;have o0_1:w.heap.size<v1:=zi (zx HX0 Bz).lt;have ow_1:w.heap.size≤v1:=zi (zw hB Bz);replace hB:=bT (bT hB Bz) hN;replace HX0:=zba HX0 Bz hN;have HX1:=zh x1;clear x1 hN Bz hb1;have Bz:=zr V1;clear pa0;obtain⟨pa0,pa1,-⟩:=(zx HX0 Bz).cz;have pb0:=(zx HX1 Bz).cell 0 (.int .i64 (p.vn:Int)) rfl;go_wp2_with fail
  with_reducible refine(all_bnd (Sl.below h.vsl (bT hB (bT (b:=V1) Bz))) (zh fun x hx=>(h.v x hx).below (bT hB (bT (b:=V1) Bz))) hm (zi h.lens) true HV (zt hT hB Bz)).mono ?_
  rintro e w1 ⟨rfl,b1⟩;replace b1:=zq (a:=V1) b1;replace Bz:=bT Bz b1;clear b1;clear pa0 pa1 pb0;have pa1:=(zx HX0 Bz).cell 1 (.slice p.rA p.rn p.rc) rfl;go_wp2_with fail
  with_reducible refine(all_std (Sl.below h.rsl (bT hB (bT (b:=w1) Bz))) (zh fun x hx=>(h.r x hx).below (bT hB (bT (b:=w1) Bz))) hm (zi h.lens) (HX1.out.below (bT Bz)) true HR (zt hT hB Bz)).mono ?_
  rintro e w2 ⟨rfl,b2⟩;replace b2:=zq (a:=w1) b2;replace Bz:=bT Bz b2;clear b2;clear pa1;have pa2:=(zx HX0 Bz).cell 2 (.slice p.cA p.cn p.cc) rfl;have pb0:=(zx HX1 Bz).cell 0 (.int .i64 (p.vn:Int)) rfl;go_wp2_with fail
  with_reducible refine(right_q (Sl.below h.csl (bT hB (bT (b:=w2) Bz))) (fun t ht=>(h.cf t ht).below (bT hB (bT (b:=w2) Bz))) hm (zi h.lens) false HC (zt hT hB Bz)).mono ?_
  rintro e w3 ⟨rfl,b3⟩;replace b3:=zq (a:=w2) b3;replace Bz:=bT Bz b3;clear b3;clear pa2 pb0;go_wp2_with fail
  go_ret
  have hF:=bT (c:=w3) hB Bz;exact⟨rfl,bT hF⟩
 ·have HC:=zh hc;obtain rfl:z=0:=by rw[←hz.out];unfold rightP;rw[e0,Bool.true_and,hv,hr,hc];rfl
  clear hz;clear e0 hv hr hc;obtain⟨W,hW,x0,hB⟩:=zAa w #[.slice p.vA p.vn p.vc,.slice p.rA p.rn p.rc,.slice p.cA p.cn p.cc] 27;have HX0:=zh x0;clear x0;have Bz:=zr W;have pa0:=(zx HX0 Bz).cell 0 (.slice p.vA p.vn p.vc) rfl;go_enter Tryz.func12,Tryz.ntmps12
  go_upto_region 1 with(fail)
  rw[←hW];clear hW;go_upto_region 2 with(fail)
  obtain⟨V1,hW,x1,hN⟩:=zAa W #[.int .i64 (p.vn:Int)] 3;rw[←hW];clear hW;obtain⟨v1,hb1⟩:=ze W.heap.size;rw[←hb1] at x1 ⊢;have o0_1:w.heap.size<v1:=zi (zx HX0 Bz).lt;have ow_1:w.heap.size≤v1:=zi (zw hB Bz);replace hB:=bT (bT hB Bz) hN;replace HX0:=zba HX0 Bz hN;have HX1:=zh x1;clear x1 hN Bz hb1;have Bz:=zr V1;clear pa0;obtain⟨pa0,pa1,-⟩:=(zx HX0 Bz).cz;have pb0:=(zx HX1 Bz).cell 0 (.int .i64 (p.vn:Int)) rfl;go_wp2_with fail
  with_reducible refine(all_bnd (Sl.below h.vsl (bT hB (bT (b:=V1) Bz))) (zh fun x hx=>(h.v x hx).below (bT hB (bT (b:=V1) Bz))) hm (zi h.lens) true HV (zt hT hB Bz)).mono ?_
  rintro e w1 ⟨rfl,b1⟩;replace b1:=zq (a:=V1) b1;replace Bz:=bT Bz b1;clear b1;clear pa0 pa1 pb0;have pa1:=(zx HX0 Bz).cell 1 (.slice p.rA p.rn p.rc) rfl;go_wp2_with fail
  with_reducible refine(all_std (Sl.below h.rsl (bT hB (bT (b:=w1) Bz))) (zh fun x hx=>(h.r x hx).below (bT hB (bT (b:=w1) Bz))) hm (zi h.lens) (HX1.out.below (bT Bz)) true HR (zt hT hB Bz)).mono ?_
  rintro e w2 ⟨rfl,b2⟩;replace b2:=zq (a:=w1) b2;replace Bz:=bT Bz b2;clear b2;clear pa1;have pa2:=(zx HX0 Bz).cell 2 (.slice p.cA p.cn p.cc) rfl;have pb0:=(zx HX1 Bz).cell 0 (.int .i64 (p.vn:Int)) rfl;go_wp2_with fail
  with_reducible refine(right_q (Sl.below h.csl (bT hB (bT (b:=w2) Bz))) (fun t ht=>(h.cf t ht).below (bT hB (bT (b:=w2) Bz))) hm (zi h.lens) true HC (zt hT hB Bz)).mono ?_
  rintro e w3 ⟨rfl,b3⟩;replace b3:=zq (a:=w2) b3;replace Bz:=bT Bz b3;clear b3;clear pa2 pb0;go_wp2_with fail
  go_ret
  have hF:=bT (c:=w3) hB Bz;exact⟨rfl,bT hF⟩
open Go.RowKit Tw
def longF (k:Nat) (x:Fr):Bool:=decide (k<x.l) || decide (k<x.l')
def longT (k:Nat) (t:Tm):Bool:=longF k t.x
def longV (k:Nat) (x:Vr):Bool:=longF k x.lo || longF k x.hi
def longW (k:Nat) (x:Rw):Bool:=x.L.any (longT k) || longF k x.b
def longP (k:Nat) (p:Pg):Bool:=(p.C.any (longT k) || p.V.any (longV k)) || p.R.any (longW k)
def greatP (p:Pg):Bool:=decide (12<p.vn) || (decide (12<p.rn) || longP 8 p)
theorem any_next {α:Type} {L:List α} {f:α→Bool} {i:Nat} {x:α} {b:Bool} (h:L[i]?=some x) (hb:(L.take i).any f=b):(L.take (i+1)).any f=(b || f x):=by
 rw[take_snoc h,List.any_append,hb];simp
theorem any_all {α:Type} {L:List α} {f:α→Bool} {n:Nat} {b:Bool} (hl:L.length=n) (h:(L.take n).any f=b):L.any f=b:=by
 rwa [List.take_of_length_le zo] at h
def AN1 {α:Type} (w:World) (L:List α) (f:α→Bool) (b0:Bool) (n gk:Nat) (s t:Value) (wr:World):Prop :=
 ∃(i:Nat) (b:Bool),i≤n∧n-i=gk∧s=.bool (b0 || b)∧t=.int .i64 (i:Int)∧(L.take i).any f=b∧Below w.heap.size w wr
theorem longRat_q {w:World} (x:Fr) (k:Nat) (_hl:x.l≤9223372036854775807∧x.l'≤9223372036854775807) (r:Bool) (hr:Hid (longF k x=r)) :
  Calls Tryz.prog 111 #[.agg #[.bool x.s,.slice x.A x.l x.c,.bool x.s',.slice x.A' x.l' x.c'],.int .i64 (k:Int)] w fun e w'=>e=.returned (.bool r)∧Below w.heap.size w w':=by
 obtain rfl:=hr.out;unfold longF
 by_cases h1:k<x.l
 ·have g1:(k:Int)<(x.l:Int):=zo;rw[decide_eq_true h1,Bool.true_or];obtain⟨W,hW,x0,hB⟩:=zAa w #[.bool x.s,.slice x.A x.l x.c,.bool x.s',.slice x.A' x.l' x.c'] 33;have HX0:=zh x0;clear x0;have Bz:=zr W;have pa1:=(zx HX0 Bz).cell 1 (.slice x.A x.l x.c) rfl;go_enter Tryz.func111,Tryz.ntmps111
  go_wp2_with fail
  rw[←hW];clear hW;go_wp2_with fail
  go_ret
  have hF:=bT (c:=W) hB Bz;exact⟨rfl,bT hF⟩
 ·have g1:¬(k:Int)<(x.l:Int):=zo;rw[decide_eq_false h1,Bool.false_or];by_cases h2:k<x.l'
  ·have g2:(k:Int)<(x.l':Int):=zo;rw[decide_eq_true h2];obtain⟨W,hW,x0,hB⟩:=zAa w #[.bool x.s,.slice x.A x.l x.c,.bool x.s',.slice x.A' x.l' x.c'] 33;have HX0:=zh x0;clear x0;have Bz:=zr W;obtain⟨-,pa1,-,pa3,-⟩:=(zx HX0 Bz).cz;go_enter Tryz.func111,Tryz.ntmps111
   go_wp2_with fail
   rw[←hW];clear hW;go_wp2_with fail
   go_ret
   have hF:=bT (c:=W) hB Bz;exact⟨rfl,bT hF⟩
  ·have g2:¬(k:Int)<(x.l':Int):=zo;rw[decide_eq_false h2];obtain⟨W,hW,x0,hB⟩:=zAa w #[.bool x.s,.slice x.A x.l x.c,.bool x.s',.slice x.A' x.l' x.c'] 33;have HX0:=zh x0;clear x0;have Bz:=zr W;obtain⟨-,pa1,-,pa3,-⟩:=(zx HX0 Bz).cz;go_enter Tryz.func111,Tryz.ntmps111
   go_wp2_with fail
   rw[←hW];clear hW;go_wp2_with fail
   go_ret
   have hF:=bT (c:=W) hB Bz;exact⟨rfl,bT hF⟩
theorem longVec_q {w:World} {A:Option Addr} {n c:Nat} {L:List Tm} (k:Nat) (h:Sl Tm.cs 5 w A n c L) (hl:Hid (∀t∈L,t.x.l≤9223372036854775807∧t.x.l'≤9223372036854775807)) (hn:n≤9223372036854775807) (q:Bool) (hq:Hid (L.any (longT k)=q)) :
  Calls Tryz.prog 110 #[.slice A n c,.int .i64 (k:Int)] w fun e w'=>e=.returned (.bool q)∧Below w.heap.size w w':=by
 have H:=zh h;have HLN:=zh h.1;have HST:Hid (AN1 w L (longT k) false n n (.bool false) (.int .i64 ((0:Nat):Int)) w):=zh ⟨0,false,Nat.zero_le _,rfl,rfl,rfl,rfl,Below.refl _ _⟩;clear h;go_enter Tryz.func110,Tryz.ntmps110
 go_wp2_with fail
 go_loopg [5,6] n (fun gk s t wr=>AN1 w L (longT k) false n gk s t wr)
 case atStart=>exact HST.out
 case round =>
  clear HST;obtain⟨i,bad,hi,hgk,rfl,rfl,hd,hB⟩:=hrel;have HGK:=zh hgk;have HD:=zh hd;clear hgk hd;rw[Bool.false_or];by_cases hlt:i<n
  ·obtain⟨b,off,rfl,hel⟩:=H.out.at Tm.cs_len zo zo;obtain⟨x,hx⟩:∃x,L[i]?=some x:=⟨L[i]'(by rw[HLN.out];exact hlt),List.getElem?_eq_getElem _⟩;have hnd:=hel i x hx;have HTI:=zh hx;have HLX:=zh (hl.out x (List.mem_of_getElem? hx));have i1:(i:Int)<(n:Int):=zo;have i2:(0:Int)≤(i:Int):=zo;clear hel hx;cases bad
   ·obtain⟨r,HR⟩:∃r,Hid ((false || longT k x)=r):=⟨_,zh rfl⟩;have HR2:Hid (longF k x.x=r):=zh ((Bool.false_or _).symm.trans HR.out);have Bz:=zr wr;obtain⟨-,pA1,pA2,pA3,pA4,-⟩:=(hnd.below (bT hB Bz)).ez;go_wp2_with fail
    with_reducible refine(longRat_q x.x k HLX.out r HR2).mono ?_
    rintro e w11 ⟨rfl,b11⟩;replace b11:=zq (a:=wr) b11;replace Bz:=bT Bz b11;clear b11;clear pA1 pA2 pA3 pA4;go_wp2_with fail
    go_roundg (n-(i+1))
    case measure=>have:=HGK.out;omega
    case rel=>exact⟨i+1,r,zo,rfl,by simp,by go_num,(any_next HTI.out HD.out).trans HR.out,bT (bT hB Bz)⟩
   ·skip
    have Bz:=zr wr;go_wp2_with fail
    go_roundg (n-(i+1))
    case measure=>have:=HGK.out;omega
    case rel=>exact⟨i+1,true,zo,rfl,by simp,by go_num,(any_next HTI.out HD.out).trans (Bool.true_or _),bT (bT hB Bz)⟩
  ·obtain rfl:i=n:=zo;have i1:¬(i:Int)<(i:Int):=zo;obtain rfl:q=bad:=by rw[←hq.out];exact any_all HLN.out HD.out
   go_wp2_with fail
   go_ret
   exact⟨rfl,hB⟩
theorem or_t {a b y:Bool} (h:(a || b)=true):Value.bool true=Value.bool (a || (b || y)):=by rw[←Bool.or_assoc,h,Bool.true_or]
theorem or_f {a b y r:Bool} (h:(a || b)=false) (hy:y=r):Value.bool r=Value.bool (a || (b || y)):=by rw[←Bool.or_assoc,h,Bool.false_or,hy]
def AN2 {α:Type} (w:World) (P:Array Value) (L:List α) (f:α→Bool) (b0:Bool) (n gk:Nat) (s t:Value) (wr:World):Prop :=
 ∃(i:Nat) (b:Bool),i≤n∧n-i=gk∧s=.bool (b0 || b)∧t=.int .i64 (i:Int)∧(L.take i).any f=b∧Bx wr w.heap.size P 27∧Below w.heap.size w wr
theorem long_r {w:World} {vA rA cA:Option Addr} {vn vc rn rc cn cc:Nat} {V:List Vr} {RR:List Rw} {C:List Tm} (k:Nat) (hvs:Hid (Sl Vr.cs 9 w vA vn vc V)) (hrs:Hid (Sl Rw.cs 6 w rA rn rc RR)) (hcs:Hid (Sl Tm.cs 5 w cA cn cc C))
  (HCL:Hid (∀t∈C,t.x.l≤9223372036854775807∧t.x.l'≤9223372036854775807)) (hvsF:Hid (∀x∈V,(x.lo.l≤9223372036854775807∧x.lo.l'≤9223372036854775807)∧(x.hi.l≤9223372036854775807∧x.hi.l'≤9223372036854775807)))
  (hrsF:Hid (∀x∈RR,(x.b.l≤9223372036854775807∧x.b.l'≤9223372036854775807)∧Sl Tm.cs 5 w x.A x.n x.c x.L∧Hid (∀t∈x.L,t.x.l≤9223372036854775807∧t.x.l'≤9223372036854775807)∧x.n≤9223372036854775807))
  (hvn:vn≤9223372036854775807) (hrn:rn≤9223372036854775807) (hcn:cn≤9223372036854775807) (q:Bool) (hq:Hid (((C.any (longT k) || V.any (longV k)) || RR.any (longW k))=q)) :
  Calls Tryz.prog 64 #[.agg #[.slice vA vn vc,.slice rA rn rc,.slice cA cn cc],.int .i64 (k:Int)] w fun e w'=>e=.returned (.bool q)∧Below w.heap.size w w':=by
 obtain⟨c0,HC0⟩:∃c0,Hid (C.any (longT k)=c0):=⟨_,zh rfl⟩;have hvsL:=zh hvs.out.1;have hrsL:=zh hrs.out.1;obtain⟨W,hW,x0,hB⟩:=zAa w #[.slice vA vn vc,.slice rA rn rc,.slice cA cn cc] 27;have HX0:=zh x0;clear x0;have Bz:=zr W;have pa2:=(zx HX0 Bz).cell 2 (.slice cA cn cc) rfl;go_enter Tryz.func64,Tryz.ntmps64
 go_wp2_with fail
 rw[←hW];clear hW;go_wp2_with fail
 with_reducible refine(longVec_q k (hcs.out.below (bT hB (bT (b:=W) Bz))) HCL hcn c0 HC0).mono ?_
 rintro e w1 ⟨rfl,b1⟩;replace b1:=zq (a:=W) b1;replace Bz:=bT Bz b1;clear b1;clear pa2;go_wp2_with fail
 have HST:Hid (AN2 w #[.slice vA vn vc,.slice rA rn rc,.slice cA cn cc] V (longV k) (c0) vn vn (.bool (c0)) (.int .i64 ((0:Nat):Int)) w1):=zh ⟨0,false,Nat.zero_le _,rfl,by rw[Bool.or_false],rfl,rfl,HX0.out.below Bz,bT hB Bz⟩;clear hB Bz HX0;go_loopg [5,6] vn (fun gk s t wr=>AN2 w #[.slice vA vn vc,.slice rA rn rc,.slice cA cn cc] V (longV k) (c0) vn gk s t wr)
 case atStart=>exact HST.out
 case round =>
  clear HST;obtain⟨i,bb,hi,hgk,hs,rfl,hd,x0,hB⟩:=hrel;have HX0:=zh x0;have HGK:=zh hgk;have HD:=zh hd;clear hgk hd x0;by_cases hlt:i<vn
  ·obtain⟨b,off,rfl,hel⟩:=hvs.out.at Vr.cs_len zo zo;obtain⟨x,hx⟩:∃x,V[i]?=some x:=⟨V[i]'(by rw[hvsL.out];exact hlt),List.getElem?_eq_getElem _⟩;have hnd:=hel i x hx;have HTI:=zh hx;have HLX:=zh (hvsF.out x (List.mem_of_getElem? hx));have i1:(i:Int)<(vn:Int):=zo;have i2:(0:Int)≤(i:Int):=zo;clear hel hx;cases hc:(c0 || bb)
   ·rw[hc] at hs;subst hs;have HC:Hid ((c0 || bb)=false):=zh hc;clear hc;cases h1:longF k x.lo
    ·have H1:=zh h1;clear h1;obtain⟨r,H2⟩:∃r,Hid (longF k x.hi=r):=⟨_,zh rfl⟩;have Bz:=zr wr;have pa0:=(zx HX0 Bz).cell 0 (.slice (some ⟨b,off,none⟩) vn vc) rfl;obtain⟨pA0,pA1,pA2,pA3,-⟩:=(hnd.below (bT hB Bz)).ez;go_wp2_with fail
     with_reducible refine(longRat_q x.lo k HLX.out.1 false H1).mono ?_
     rintro e w11 ⟨rfl,b11⟩;replace b11:=zq (a:=wr) b11;replace Bz:=bT Bz b11;clear b11;clear pa0 pA0 pA1 pA2 pA3;have pa0:=(zx HX0 Bz).cell 0 (.slice (some ⟨b,off,none⟩) vn vc) rfl;obtain⟨-,-,-,-,pA4,pA5,pA6,pA7,-⟩:=(hnd.below (bT hB Bz)).ez;go_wp2_with fail
     with_reducible refine(longRat_q x.hi k HLX.out.2 r H2).mono ?_
     rintro e w12 ⟨rfl,b12⟩;replace b12:=zq (a:=w11) b12;replace Bz:=bT Bz b12;clear b12;clear pa0 pA4 pA5 pA6 pA7;go_wp2_with fail
     go_roundg (vn-(i+1))
     case measure=>have:=HGK.out;omega
     case rel=>exact⟨i+1,bb || longV k x,zo,rfl,or_f HC.out (by show(_ || _)=r;rw[H1.out,Bool.false_or];exact H2.out),by go_num,any_next HTI.out HD.out,HX0.out.below (bT Bz),bT (bT hB Bz)⟩
    ·have H1:=zh h1;clear h1;have Bz:=zr wr;have pa0:=(zx HX0 Bz).cell 0 (.slice (some ⟨b,off,none⟩) vn vc) rfl;obtain⟨pA0,pA1,pA2,pA3,-⟩:=(hnd.below (bT hB Bz)).ez;go_wp2_with fail
     with_reducible refine(longRat_q x.lo k HLX.out.1 true H1).mono ?_
     rintro e w11 ⟨rfl,b11⟩;replace b11:=zq (a:=wr) b11;replace Bz:=bT Bz b11;clear b11;clear pa0 pA0 pA1 pA2 pA3;go_wp2_with fail
     go_roundg (vn-(i+1))
     case measure=>have:=HGK.out;omega
     case rel=>exact⟨i+1,bb || longV k x,zo,rfl,or_f HC.out (by show(_ || _)=true;rw[H1.out,Bool.true_or]),by go_num,any_next HTI.out HD.out,HX0.out.below (bT Bz),bT (bT hB Bz)⟩
   ·rw[hc] at hs;subst hs;have HC:Hid ((c0 || bb)=true):=zh hc;clear hc;have Bz:=zr wr;have pa0:=(zx HX0 Bz).cell 0 (.slice (some ⟨b,off,none⟩) vn vc) rfl;go_wp2_with fail
    go_roundg (vn-(i+1))
    case measure=>have:=HGK.out;omega
    case rel=>exact⟨i+1,bb || longV k x,zo,rfl,or_t HC.out,by go_num,any_next HTI.out HD.out,HX0.out.below (bT Bz),bT (bT hB Bz)⟩
  ·obtain rfl:i=vn:=zo;obtain⟨vn,hvn0⟩:∃vn,vn=i:=⟨_,rfl⟩;subst hvn0;have i1:¬(vn:Int)<(vn:Int):=zo;have HV0:=zh (any_all hvsL.out HD.out);obtain⟨v0,hv0⟩:∃v0,v0=(c0 || bb):=⟨_,rfl⟩;have HV1:=zh hv0;rw[←hv0] at hs;clear hv0;subst hs;have Bz:=zr wr;have pa0:=(zx HX0 Bz).cell 0 (.slice vA vn vc) rfl;go_wp2_with fail
   obtain⟨wo,hwo⟩:∃x:World,x=wr:=⟨_,rfl⟩;subst hwo;obtain⟨bo,hbo⟩:∃x,x=bb:=⟨_,rfl⟩;subst hbo;have HST:Hid (AN2 w #[.slice vA vn vc,.slice rA rn rc,.slice cA cn cc] RR (longW k) (v0) rn rn (.bool (v0)) (.int .i64 ((0:Nat):Int)) wo):=zh ⟨0,false,Nat.zero_le _,rfl,by rw[Bool.or_false],rfl,rfl,HX0.out.below Bz,bT hB Bz⟩;clear hB Bz HX0;go_loopg [5,7] rn (fun gk s t wr=>AN2 w #[.slice vA vn vc,.slice rA rn rc,.slice cA cn cc] RR (longW k) (v0) rn gk s t wr)
   case atStart=>exact HST.out
   case round =>
    clear HST;obtain⟨i,bb,hi,hgk,hs,rfl,hd,x0,hB⟩:=hrel;have HX0:=zh x0;have HGK:=zh hgk;have HD:=zh hd;clear hgk hd x0;by_cases hlt:i<rn
    ·obtain⟨b,off,rfl,hel⟩:=hrs.out.at Rw.cs_len zo zo;obtain⟨x,hx⟩:∃x,RR[i]?=some x:=⟨RR[i]'(by rw[hrsL.out];exact hlt),List.getElem?_eq_getElem _⟩;have hnd:=hel i x hx;have HTI:=zh hx;have HLX:=zh (hrsF.out x (List.mem_of_getElem? hx));have i1:(i:Int)<(rn:Int):=zo;have i2:(0:Int)≤(i:Int):=zo;clear hel hx;cases hc:(v0 || bb)
     ·rw[hc] at hs;subst hs;have HC:Hid ((v0 || bb)=false):=zh hc;clear hc;cases h1:x.L.any (longT k)
      ·have H1:=zh h1;clear h1;obtain⟨r,H2⟩:∃r,Hid (longF k x.b=r):=⟨_,zh rfl⟩;have Bz:=zr wr;have pa1:=(zx HX0 Bz).cell 1 (.slice (some ⟨b,off,none⟩) rn rc) rfl;have pA0:=(hnd.below (bT hB Bz)).c0 (u:=.slice x.A x.n x.c) rfl;go_wp2_with fail
       with_reducible refine(longVec_q k (HLX.out.2.1.below (bT hB (bT (b:=wr) Bz))) HLX.out.2.2.1 HLX.out.2.2.2 false H1).mono ?_
       rintro e w21 ⟨rfl,b21⟩;replace b21:=zq (a:=wr) b21;replace Bz:=bT Bz b21;clear b21;clear pa1 pA0;have pa1:=(zx HX0 Bz).cell 1 (.slice (some ⟨b,off,none⟩) rn rc) rfl;obtain⟨-,-,pA2,pA3,pA4,pA5,-⟩:=(hnd.below (bT hB Bz)).ez;go_wp2_with fail
       with_reducible refine(longRat_q x.b k HLX.out.1 r H2).mono ?_
       rintro e w22 ⟨rfl,b22⟩;replace b22:=zq (a:=w21) b22;replace Bz:=bT Bz b22;clear b22;clear pa1 pA2 pA3 pA4 pA5;go_wp2_with fail
       go_roundg (rn-(i+1))
       case measure=>have:=HGK.out;omega
       case rel=>exact⟨i+1,bb || longW k x,zo,rfl,or_f HC.out (by show(_ || _)=r;rw[H1.out,Bool.false_or];exact H2.out),by go_num,any_next HTI.out HD.out,HX0.out.below (bT Bz),bT (bT hB Bz)⟩
      ·have H1:=zh h1;clear h1;have Bz:=zr wr;have pa1:=(zx HX0 Bz).cell 1 (.slice (some ⟨b,off,none⟩) rn rc) rfl;have pA0:=(hnd.below (bT hB Bz)).c0 (u:=.slice x.A x.n x.c) rfl;go_wp2_with fail
       with_reducible refine(longVec_q k (HLX.out.2.1.below (bT hB (bT (b:=wr) Bz))) HLX.out.2.2.1 HLX.out.2.2.2 true H1).mono ?_
       rintro e w21 ⟨rfl,b21⟩;replace b21:=zq (a:=wr) b21;replace Bz:=bT Bz b21;clear b21;clear pa1 pA0;go_wp2_with fail
       go_roundg (rn-(i+1))
       case measure=>have:=HGK.out;omega
       case rel=>exact⟨i+1,bb || longW k x,zo,rfl,or_f HC.out (by show(_ || _)=true;rw[H1.out,Bool.true_or]),by go_num,any_next HTI.out HD.out,HX0.out.below (bT Bz),bT (bT hB Bz)⟩
     ·rw[hc] at hs;subst hs;have HC:Hid ((v0 || bb)=true):=zh hc;clear hc;have Bz:=zr wr;have pa1:=(zx HX0 Bz).cell 1 (.slice (some ⟨b,off,none⟩) rn rc) rfl;go_wp2_with fail
      go_roundg (rn-(i+1))
      case measure=>have:=HGK.out;omega
      case rel=>exact⟨i+1,bb || longW k x,zo,rfl,or_t HC.out,by go_num,any_next HTI.out HD.out,HX0.out.below (bT Bz),bT (bT hB Bz)⟩
    ·obtain rfl:i=rn:=zo;obtain⟨rn,hrn0⟩:∃rn,rn=i:=⟨_,rfl⟩;subst hrn0;have i1:¬(rn:Int)<(rn:Int):=zo;obtain⟨z,hz⟩:∃z,z=(v0 || bb):=⟨_,rfl⟩;have HZ:=zh hz;rw[←hz] at hs;clear hz;subst hs;obtain rfl:q=z:=by rw[←hq.out,HC0.out,HV0.out,any_all hrsL.out HD.out,HZ.out,HV1.out]
     have Bz:=zr wr;have pa1:=(zx HX0 Bz).cell 1 (.slice rA rn rc) rfl;go_wp2_with fail
     go_ret
     have hF:=bT (c:=wr) hB Bz;exact⟨rfl,bT hF⟩
theorem long_r8 {w:World} {vA rA cA:Option Addr} {vn vc rn rc cn cc:Nat} {V:List Vr} {RR:List Rw} {C:List Tm} (k:Nat) {z:Int} (hz:(k:Int)=z) (hvs:Hid (Sl Vr.cs 9 w vA vn vc V)) (hrs:Hid (Sl Rw.cs 6 w rA rn rc RR)) (hcs:Hid (Sl Tm.cs 5 w cA cn cc C))
  (HCL:Hid (∀t∈C,t.x.l≤9223372036854775807∧t.x.l'≤9223372036854775807)) (hvsF:Hid (∀x∈V,(x.lo.l≤9223372036854775807∧x.lo.l'≤9223372036854775807)∧(x.hi.l≤9223372036854775807∧x.hi.l'≤9223372036854775807)))
  (hrsF:Hid (∀x∈RR,(x.b.l≤9223372036854775807∧x.b.l'≤9223372036854775807)∧Sl Tm.cs 5 w x.A x.n x.c x.L∧Hid (∀t∈x.L,t.x.l≤9223372036854775807∧t.x.l'≤9223372036854775807)∧x.n≤9223372036854775807))
  (hvn:vn≤9223372036854775807) (hrn:rn≤9223372036854775807) (hcn:cn≤9223372036854775807) (q:Bool) (hq:Hid (((C.any (longT k) || V.any (longV k)) || RR.any (longW k))=q)) :
  Calls Tryz.prog 64 #[.agg #[.slice vA vn vc,.slice rA rn rc,.slice cA cn cc],.int .i64 z] w fun e w'=>e=.returned (.bool q)∧Below w.heap.size w w':=by
 subst hz;exact long_r k hvs hrs hcs HCL hvsF hrsF hvn hrn hcn q hq
theorem great_q {w:World} {vA rA cA:Option Addr} {vn vc rn rc cn cc:Nat} {V:List Vr} {RR:List Rw} {C:List Tm} (hvs:Hid (Sl Vr.cs 9 w vA vn vc V)) (hrs:Hid (Sl Rw.cs 6 w rA rn rc RR)) (hcs:Hid (Sl Tm.cs 5 w cA cn cc C)) (HCL:Hid (∀t∈C,t.x.l≤9223372036854775807∧t.x.l'≤9223372036854775807)) (hvsF:Hid (∀x∈V,(x.lo.l≤9223372036854775807∧x.lo.l'≤9223372036854775807)∧(x.hi.l≤9223372036854775807∧x.hi.l'≤9223372036854775807))) (hrsF:Hid (∀x∈RR,(x.b.l≤9223372036854775807∧x.b.l'≤9223372036854775807)∧Sl Tm.cs 5 w x.A x.n x.c x.L∧Hid (∀t∈x.L,t.x.l≤9223372036854775807∧t.x.l'≤9223372036854775807)∧x.n≤9223372036854775807)) (hvn:vn≤9223372036854775807) (hrn:rn≤9223372036854775807) (hcn:cn≤9223372036854775807) (q:Bool) (hq:Hid (greatP ⟨vA,vn,vc,V,rA,rn,rc,RR,cA,cn,cc,C⟩=q)) :
  Calls Tryz.prog 16 #[.agg #[.slice vA vn vc,.slice rA rn rc,.slice cA cn cc]] w fun e w'=>e=.returned (.bool q)∧Below w.heap.size w w':=by
 have h0:greatP ⟨vA,vn,vc,V,rA,rn,rc,RR,cA,cn,cc,C⟩=(decide (12<vn) || (decide (12<rn) || ((C.any (longT 8) || V.any (longV 8)) || RR.any (longW 8)))):=rfl;have h1:=hq.out;rw[h0] at h1;clear h0;by_cases k1:12<vn
 ·rw[decide_eq_true k1,Bool.true_or] at h1;subst h1;have g1:(12:Int)<(vn:Int):=zo;clear hq;obtain⟨W,hW,x0,hB⟩:=zAa w #[.slice vA vn vc,.slice rA rn rc,.slice cA cn cc] 27;have HX0:=zh x0;clear x0;have Bz:=zr W;have pa0:=(zx HX0 Bz).cell 0 (.slice vA vn vc) rfl;go_enter Tryz.func16,Tryz.ntmps16
  go_wp2_with fail
  rw[←hW];clear hW;go_wp2_with fail
  go_ret
  have hF:=bT (c:=W) hB Bz;exact⟨rfl,bT hF⟩
 ·rw[decide_eq_false k1,Bool.false_or] at h1;have g1:¬(12:Int)<(vn:Int):=zo;by_cases k2:12<rn
  ·rw[decide_eq_true k2,Bool.true_or] at h1;subst h1;have g2:(12:Int)<(rn:Int):=zo;clear hq;obtain⟨W,hW,x0,hB⟩:=zAa w #[.slice vA vn vc,.slice rA rn rc,.slice cA cn cc] 27;have HX0:=zh x0;clear x0;have Bz:=zr W;obtain⟨pa0,pa1,-⟩:=(zx HX0 Bz).cz;go_enter Tryz.func16,Tryz.ntmps16
   go_wp2_with fail
   rw[←hW];clear hW;go_wp2_with fail
   go_ret
   have hF:=bT (c:=W) hB Bz;exact⟨rfl,bT hF⟩
  ·rw[decide_eq_false k2,Bool.false_or] at h1;have g2:¬(12:Int)<(rn:Int):=zo;have HQ:=zh h1;clear h1 hq;obtain⟨W,hW,x0,hB⟩:=zAa w #[.slice vA vn vc,.slice rA rn rc,.slice cA cn cc] 27;have HX0:=zh x0;clear x0;have Bz:=zr W;obtain⟨pa0,pa1,pa2,-⟩:=(zx HX0 Bz).cz;go_enter Tryz.func16,Tryz.ntmps16
   go_wp2_with fail
   rw[←hW];clear hW;go_wp2_with fail
   with_reducible refine(long_r8 (z:=8) 8 rfl (zh (hvs.out.below (bT hB (bT (b:=W) Bz)))) (zh (hrs.out.below (bT hB (bT (b:=W) Bz)))) (zh (hcs.out.below (bT hB (bT (b:=W) Bz)))) HCL hvsF (zh fun x hx=>⟨(hrsF.out x hx).1,(hrsF.out x hx).2.1.below (bT hB (bT (b:=W) Bz)),(hrsF.out x hx).2.2⟩) hvn hrn hcn q HQ).mono ?_
   rintro e w1 ⟨rfl,b1⟩;replace b1:=zq (a:=W) b1;replace Bz:=bT Bz b1;clear b1;clear pa0 pa1 pa2;go_wp2_with fail
   go_ret
   have hF:=bT (c:=w1) hB Bz;exact⟨rfl,bT hF⟩
open Go.RowKit Tw
theorem rightB_get {L:List Tm} {n:Int} (h:rightB L n=true) {i:Nat} {t:Tm} (ht:L[i]?=some t):0≤t.at_∧t.at_<n∧t.x.q≠0∧t.x.ex=true∧∀j p,i=j+1→L[j]?=some p→p.at_<t.at_:=by
 unfold rightB at h
 have h1:=List.all_eq_true.1 h i (List.mem_range.2 (List.getElem?_eq_some_iff.1 ht).1);unfold rightAt at h1
 rw[ht] at h1;simp only[Bool.and_eq_true,decide_eq_true_eq] at h1
 obtain⟨⟨⟨⟨h2,h3⟩,h4⟩,h5⟩,h6⟩:=h1;refine⟨h2,h3,h5,h6,fun j p hj hp=>?_⟩;subst hj;simp only[hp,decide_eq_true_eq] at h4
 exact h4
theorem rightB_lt {L:List Tm} {n:Int} (h:rightB L n=true):∀(d i:Nat) (p t:Tm),L[i]?=some p→L[i+d+1]?=some t→p.at_<t.at_
 | 0,i,p,t,hp,ht=>(rightB_get h ht).2.2.2.2 i p zo hp
 | d+1,i,p,t,hp,ht=>by
  have hi:=(List.getElem?_eq_some_iff.1 ht).1;obtain⟨u,hu⟩:∃u,L[i+d+1]?=some u:=⟨L[i+d+1]'zo,List.getElem?_eq_getElem _⟩;have h1:=rightB_lt h d i p u hp hu;have h2:=(rightB_get h ht).2.2.2.2 (i+d+1) u zo hu;omega
theorem rightB_nrm {L:List Tm} {n:Int} (h:rightB L n=true):Nrm (prs L)∧∀t∈L,0≤t.at_∧t.at_<n∧t.x.ex=true:=by
 refine⟨⟨?_,fun x hx=>?_⟩,fun t ht=>?_⟩
 ·unfold Rise prs
  rw[List.pairwise_map,List.pairwise_iff_getElem];intro i j hi hj hij;simp only
  exact rightB_lt h (j-i-1) i _ _ (List.getElem?_eq_getElem hi) (by rw[show i+(j-i-1)+1=j by omega];exact List.getElem?_eq_getElem hj)
 ·obtain⟨t,ht,rfl⟩:=prs_mem hx;obtain⟨i,hi⟩:=List.getElem?_of_mem ht;exact(rightB_get h hi).2.2.1
 ·obtain⟨i,hi⟩:=List.getElem?_of_mem ht;have:=rightB_get h hi;exact⟨this.1,this.2.1,this.2.2.2.1⟩
end Go.Proofs.YtjkgjiofmgapfaaGreatDoor
