/-
  ProgramSpans, the walk. Written by wip/gen/pr12.py.
-/
import Derived.Test.YtjkgjiofmgapfaaGreatDoorYPgI
import Derived.Test.YtjkgjiofmgapfaaGreatDoorYPr9
namespace Go.Proofs.YtjkgjiofmgapfaaGreatDoor
open Go.RowKit Tw
theorem longF_no {k:Nat} {x:Fr} (h:longF k x=false):x.l≤k∧x.l'≤k:=by
 unfold longF at h
 rw[Bool.or_eq_false_iff,decide_eq_false_iff_not,decide_eq_false_iff_not] at h;omega
theorem FrIn.ok {w:World} {x:Fr} {m:Nat} (h:FrIn w x) (hl:x.l≤m∧x.l'≤m):FrOk w m x:=h.2.2 m hl.1 hl.2
theorem FrIn.lens {w:World} {x:Fr} (h:FrIn w x):x.l≤9223372036854775807∧x.l'≤9223372036854775807:=⟨h.1,h.2.1⟩
theorem FrIn.below {w w':World} {x:Fr} (h:FrIn w x) (hb:Below w.heap.size w w':=by go_grown):FrIn w' x:=⟨h.1,h.2.1,fun m h1 h2=>(h.2.2 m h1 h2).below hb⟩
theorem TmIn.below {w w':World} {t:Tm} (h:TmIn w t) (hb:Below w.heap.size w w':=by go_grown):TmIn w' t:=⟨h.1.below hb,h.2⟩
theorem RwIn.below {w w':World} {x:Rw} (h:RwIn w x) (hb:Below w.heap.size w w':=by go_grown):RwIn w' x:=⟨h.sl.below hb,fun t ht=>(h.t t ht).below hb,h.n,h.nil,h.b.below hb⟩
theorem PgIn.below {w w':World} {KB:Nat} {p:Pg} (h:PgIn w KB p) (hb:Below w.heap.size w w':=by go_grown):PgIn w' KB p :=
 ⟨h.vsl.below hb,fun x hx=>⟨(h.v x hx).1.below hb,(h.v x hx).2.below hb⟩,h.rsl.below hb,fun x hx=>⟨(h.r x hx).1.below hb,(h.r x hx).2⟩,h.csl.below hb,fun t ht=>(h.c t ht).below hb,h.ns,h.nil⟩
theorem any_no {α:Type} {L:List α} {f:α→Bool} (h:L.any f=false):∀x∈L,f x=false:=fun x hx=>by
 cases e:f x with
 | false=>rfl
 | true=>rw[List.any_eq_true.2 ⟨x,hx,e⟩] at h;cases h
theorem rise_len {P:List (Int×Rat)} (h:Rise P) {n:Int} (hb:∀x∈P,0≤x.1∧x.1<n):(P.length:Int)≤max n 0:=by
 have key:∀(k:Nat) (hk:k<P.length),(k:Int)≤(P[k]).1:=by
  intro k;induction k with
  | zero=>intro hk;exact(hb _ (List.getElem_mem hk)).1
  | succ k ih =>
   intro hk;have h1:=ih zo;have h2:=List.pairwise_iff_getElem.1 h k (k+1) zo hk zo;omega
 by_cases e:P.length=0
 ·rw[e];omega
 ·have h1:=key (P.length-1) zo;have h2:=(hb _ (List.getElem_mem (show P.length-1<P.length by omega))).2;omega
theorem right_len {L:List Tm} {n:Nat} (h:rightB L (n:Int)=true):L.length≤n:=by
 have h1:=rightB_nrm h;have h2:=rise_len h1.1.rise (n:=(n:Int)) (fun x hx=>by obtain⟨t,ht,rfl⟩:=prs_mem hx;exact⟨(h1.2 t ht).1,(h1.2 t ht).2.1⟩);rw[prs_len] at h2;omega
theorem PgIn.ok {w:World} {KB:Nat} {p:Pg} (h:PgIn w KB p) (hKB:KB≤2000000) (hg:greatP p=false):PgOk w 8 p∧p.vn≤12∧p.rn≤12:=by
 unfold greatP longP at hg
 rw[Bool.or_eq_false_iff,Bool.or_eq_false_iff,Bool.or_eq_false_iff,Bool.or_eq_false_iff,decide_eq_false_iff_not,decide_eq_false_iff_not] at hg;obtain⟨h1,h2,⟨h3,h4⟩,h5⟩:=hg;refine⟨⟨h.vsl,fun x hx=>?_,h.rsl,fun x hx=>?_,h.csl,fun t ht=>?_,⟨Nat.le_trans h.ns.1 hKB,Nat.le_trans h.ns.2.1 hKB,Nat.le_trans h.ns.2.2 hKB⟩,h.nil⟩,zo,zo⟩
 ·have:=any_no h4 x hx;unfold longV at this
  rw[Bool.or_eq_false_iff] at this;exact⟨(h.v x hx).1.ok (longF_no this.1),(h.v x hx).2.ok (longF_no this.2)⟩
 ·have:=any_no h5 x hx;unfold longW at this
  rw[Bool.or_eq_false_iff] at this;obtain⟨r1,r2⟩:=h.r x hx;exact⟨r1.sl,fun t ht=>(r1.t t ht).1.ok (longF_no (any_no this.1 t ht)),Nat.le_trans r2 hKB,r1.nil,r1.b.ok (longF_no this.2)⟩
 ·exact(h.c t ht).1.ok (longF_no (any_no h3 t ht))
theorem great_p {w:World} {KB:Nat} {p:Pg} (h:PgIn w KB p) (hKB:KB≤2000000) (q:Bool) (hq:Hid (greatP p=q)) :
  Calls Tryz.prog 16 #[.agg #[.slice p.vA p.vn p.vc,.slice p.rA p.rn p.rc,.slice p.cA p.cn p.cc]] w fun e w'=>e=.returned (.bool q)∧Below w.heap.size w w':=by
 obtain⟨vA,vn,vc,V,rA,rn,rc,R,cA,cn,cc,C⟩:=p;have hns:vn≤KB∧rn≤KB∧cn≤KB:=h.ns;have hn1:vn≤9223372036854775807:=zo;have hn2:rn≤9223372036854775807:=zo;have hn3:cn≤9223372036854775807:=zo;exact great_q (zh h.vsl) (zh h.rsl) (zh h.csl) (zh fun t ht=>(h.c t ht).1.lens) (zh fun x hx=>⟨(h.v x hx).1.lens,(h.v x hx).2.lens⟩)
  (zh fun x hx=>⟨(h.r x hx).1.b.lens,(h.r x hx).1.sl,zh fun t ht=>((h.r x hx).1.t t ht).1.lens,by have:=(h.r x hx).2;omega⟩) hn1 hn2 hn3 q hq
def Btw (X:List Fr) (V:List Vr):Prop:=∀(j:Nat) y v,X[j]?=some y→V[j]?=some v→v.lo.q≤y.q∧y.q≤v.hi.q
theorem Btw.snoc {X:List Fr} {V:List Vr} {i:Nat} {y:Fr} {v:Vr} (h:Btw X V) (hl:X.length=i) (hv:V[i]?=some v) (hy:v.lo.q≤y.q∧y.q≤v.hi.q):Btw (X++[y]) V:=fun j y' v' h1 h2=>by
 by_cases e:j<X.length
 ·rw[List.getElem?_append_left e] at h1;exact h j y' v' h1 h2
 ·rw[List.getElem?_append_right zo] at h1;have e2:j-X.length=0:=by
   by_cases e3:j-X.length=0
   ·exact e3
   ·rw[List.getElem?_eq_none (by simp;omega)] at h1;cases h1
  rw[e2] at h1;obtain rfl:y=y':=by simpa using h1
  obtain rfl:j=i:=zo;rw[hv] at h2;cases h2;exact hy
theorem AllRn.snoc {w:World} {KB:Nat} {L:List Fr} (h:AllRn w KB L) {x:Fr} (hx:RN w x.s x.A x.c x.l x.s' x.A' x.c' x.l' x.q∧x.ex=true∧sz x.q+1≤KB):AllRn w KB (L++[x]):=fun y hy=>by
 rcases List.mem_append.1 hy with hy | hy
 ·exact h y hy
 ·rw[List.mem_singleton.1 hy];exact hx
theorem Sl.at' {α:Type} {f:α→List Value} {k:Nat} {w:World} {A:Option Addr} {n c i:Nat} {L:List α} (h:Sl f k w A n c L) (hk:∀x,(f x).length=k) (h0:0<k) (hi:i<n):∃b off,A=some ⟨b,off,none⟩∧∀i x,L[i]?=some x→ElA w b (off+i*k) (f x):=h.at hk h0 zo
end Go.Proofs.YtjkgjiofmgapfaaGreatDoor
