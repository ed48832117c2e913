import Derived.Test.YteggjbgbknkoiaaGreatDoorURow
import Derived.Test.YteggjbgbknkoiaaGreatDoorUVn
import Derived.OwnWalk
namespace Go.Proofs.YteggjbgbknkoiaaGreatDoor
open Go.RowKit Tw
structure Joined (O P Q:List (Int×Rat)) (i j:Nat):Prop where
 nf:Nrm O
 get:∀a,pget O a=pget (P.take i) a+pget (Q.take j) a
 low:∀o∈O,(∀p∈P.drop i,o.1<p.1)∧∀q∈Q.drop j,o.1<q.1
theorem Joined.start (P Q:List (Int×Rat)):Joined [] P Q 0 0:=⟨⟨List.Pairwise.nil,fun x hx=>by cases hx⟩,fun a=>by rw[cF,cF,pget_nil,uC],fun o ho=>by cases ho⟩
theorem Rise.drop_head {P:List (Int×Rat)} (h:Rise P) {i:Nat} {x:Int×Rat} (hx:P[i]?=some x):P.drop i=x :: P.drop (i+1)∧∀p∈P.drop (i+1),x.1<p.1:=by
 have e:P.drop i=x :: P.drop (i+1):=by rw[nD (yA.1 hx).1,(yA.1 hx).2]
 have h2:Rise (P.drop i):=List.Pairwise.drop h;rw[e] at h2;exact⟨e,(Rise.cons.1 h2).1⟩
theorem Nrm.snoc {O:List (Int×Rat)} {x:Int×Rat} (h:Nrm O) (hl:∀o∈O,o.1<x.1) (hx:x.2≠0):Nrm (O++[x]) :=
 ⟨h.rise.snoc hl,fun y hy=>by
  rcases bC.1 hy with hy | hy
  ·exact h.nz y hy
  ·obtain rfl:=cC.1 hy;exact hx⟩
theorem pget_snoc (O:List (Int×Rat)) (x:Int×Rat) (a:Int):pget (O++[x]) a=pget O a+if x.1=a then x.2 else 0:=by rw[pget_append,pget_one]
theorem Joined.left {O P Q:List (Int×Rat)} {i j:Nat} {x:Int×Rat} (h:Joined O P Q i j) (hP:Nrm P) (hx:P[i]?=some x) (hl:∀q∈Q.drop j,x.1<q.1):Joined (O++[x]) P Q (i+1) j:=by
 have hd:=hP.rise.drop_head hx;have hlo:∀o∈O,o.1<x.1:=fun o ho=>(h.low o ho).1 x (by rw[hd.1];exact pA);refine⟨h.nf.snoc hlo (hP.nz x (dA hx)),fun a=>?_,fun o ho=>?_⟩
 ·rw[pget_snoc,h.get,take_snoc' hx,pget_snoc];grind
 ·rcases bC.1 ho with ho | ho
  ·exact⟨fun p hp=>(h.low o ho).1 p (by rw[hd.1];exact qA _ hp),(h.low o ho).2⟩
  ·obtain rfl:=cC.1 ho;exact⟨hd.2,hl⟩
theorem Joined.symm {O P Q:List (Int×Rat)} {i j:Nat} (h:Joined O P Q i j):Joined O Q P j i:=⟨h.nf,fun a=>by rw[h.get,Rat.add_comm],fun o ho=>⟨(h.low o ho).2,(h.low o ho).1⟩⟩
theorem Joined.right {O P Q:List (Int×Rat)} {i j:Nat} {x:Int×Rat} (h:Joined O P Q i j) (hQ:Nrm Q) (hx:Q[j]?=some x) (hl:∀p∈P.drop i,x.1<p.1):Joined (O++[x]) P Q i (j+1):=(h.symm.left hQ hx hl).symm
theorem Joined.both {O P Q:List (Int×Rat)} {i j:Nat} {x y:Int×Rat} (h:Joined O P Q i j) (hP:Nrm P) (hQ:Nrm Q) (hx:P[i]?=some x) (hy:Q[j]?=some y) (e:x.1=y.1) :
  (x.2+y.2=0→Joined O P Q (i+1) (j+1))∧(x.2+y.2≠0→Joined (O++[(x.1,x.2+y.2)]) P Q (i+1) (j+1)):=by
 have hd:=hP.rise.drop_head hx;have hd':=hQ.rise.drop_head hy;have hlo:∀o∈O,o.1<x.1:=fun o ho=>(h.low o ho).1 x (by rw[hd.1];exact pA);have low:∀o∈O,(∀p∈P.drop (i+1),o.1<p.1)∧∀q∈Q.drop (j+1),o.1<q.1:=fun o ho =>
  ⟨fun p hp=>(h.low o ho).1 p (by rw[hd.1];exact qA _ hp),fun q hq=>(h.low o ho).2 q (by rw[hd'.1];exact qA _ hq)⟩
 refine⟨fun hz=>⟨h.nf,fun a=>?_,low⟩,fun hz=>⟨h.nf.snoc hlo hz,fun a=>?_,fun o ho=>?_⟩⟩
 ·rw[h.get,take_snoc' hx,take_snoc' hy,pget_snoc,pget_snoc,←e];split<;>grind
 ·rw[pget_snoc,h.get,take_snoc' hx,take_snoc' hy,pget_snoc,pget_snoc,←e];simp only
  split<;>grind
 ·rcases bC.1 ho with ho | ho
  ·exact low o ho
  ·obtain rfl:=cC.1 ho;exact⟨hd.2,fun q hq=>by have:=hd'.2 q hq;simp only;omega⟩
theorem Joined.done {O P Q:List (Int×Rat)} {i j:Nat} (h:Joined O P Q i j) (hi:P.length≤i) (hj:Q.length≤j):nrm (P++Q)=O :=
 nrm_eq h.nf fun a=>by rw[h.get,eA hi,eA hj,pget_append]
theorem Rise.behind {Q:List (Int×Rat)} (h:Rise Q) {j:Nat} {y:Int×Rat} {a:Int} (hy:Q[j]?=some y) (hl:a<y.1):∀q∈Q.drop j,a<q.1:=fun q hq=>by
 have hd:=h.drop_head hy;rw[hd.1] at hq;rcases sB.1 hq with rfl | hq
 ·exact hl
 ·have:=hd.2 q hq;omega
theorem rise_scale {P:List (Int×Rat)} (h:Rise P) (s:Rat):nrm (P.map fun x=>(x.1,s*x.2))=(P.map fun x=>(x.1,s*x.2)).filter fun x=>decide (x.2≠0) :=
 nrm_eq (Rise.strike (L:=P.map fun x=>(x.1,s*x.2)) (by unfold Rise;rw[gG];exact h)) fun a=>(pget_nz _ a).symm
structure Dotted (s:Rat) (P Q:List (Int×Rat)) (i j:Nat):Prop where
 sum:s=pdot (P.take i) (Q.take j)
 pq:∀p∈P.take i,∀q∈Q.drop j,p.1<q.1
 qp:∀q∈Q.take j,∀p∈P.drop i,q.1<p.1
theorem Dotted.start (P Q:List (Int×Rat)):Dotted 0 P Q 0 0:=⟨by simp[pdot_nil],fun p hp=>by simp at hp,fun q hq=>by simp at hq⟩
theorem pdot_snoc (P Q:List (Int×Rat)) (x:Int×Rat):pdot (P++[x]) Q=pdot P Q+x.2*pget Q x.1:=by
 rw[pdot_append,pdot_cons,pdot_nil,uC]
theorem Dotted.symm {s:Rat} {P Q:List (Int×Rat)} {i j:Nat} (h:Dotted s P Q i j):Dotted s Q P j i:=⟨by rw[h.sum,pdot_comm],h.qp,h.pq⟩
theorem Dotted.left {s:Rat} {P Q:List (Int×Rat)} {i j:Nat} {x y:Int×Rat} (h:Dotted s P Q i j) (hP:Rise P) (hQ:Rise Q) (hx:P[i]?=some x) (hy:Q[j]?=some y) (hl:x.1<y.1):Dotted s P Q (i+1) j:=by
 have hd:=hP.drop_head hx;have hx2:x∈P.drop i:=by rw[hd.1];exact pA
 refine⟨?_,fun p hp q hq=>?_,fun q hq p hp=>h.qp q hq p (by rw[hd.1];exact qA _ hp)⟩
 ·rw[take_snoc' hx,pdot_snoc,pget_none (fun q hq=>by have:=h.qp q hq x hx2;omega),uE,uC,h.sum]
 ·rw[take_snoc' hx] at hp;rcases bC.1 hp with hp | hp
  ·exact h.pq p hp q hq
  ·obtain rfl:=cC.1 hp;exact hQ.behind hy hl q hq
theorem Dotted.right {s:Rat} {P Q:List (Int×Rat)} {i j:Nat} {x y:Int×Rat} (h:Dotted s P Q i j) (hP:Rise P) (hQ:Rise Q) (hx:P[i]?=some x) (hy:Q[j]?=some y) (hl:y.1<x.1):Dotted s P Q i (j+1) :=
 (h.symm.left hQ hP hy hx hl).symm
theorem Dotted.both {s:Rat} {P Q:List (Int×Rat)} {i j:Nat} {x y:Int×Rat} (h:Dotted s P Q i j) (hP:Rise P) (hQ:Rise Q) (hx:P[i]?=some x) (hy:Q[j]?=some y) (e:x.1=y.1):Dotted (s+x.2*y.2) P Q (i+1) (j+1):=by
 have hd:=hP.drop_head hx;have hd':=hQ.drop_head hy;have hx2:x∈P.drop i:=by rw[hd.1];exact pA
 have hy2:y∈Q.drop j:=by rw[hd'.1];exact pA
 refine⟨?_,fun p hp q hq=>?_,fun q hq p hp=>?_⟩
 ·have h1:pget (Q.take j) x.1=0:=pget_none fun q hq=>by have:=h.qp q hq x hx2;omega
  have h2:pdot (P.take i) [y]=0:=by
   rw[pdot_comm,pdot_cons,pdot_nil,pget_none (fun p hp=>by have:=h.pq p hp y hy2;omega),uE,uC]
  rw[take_snoc' hx,take_snoc' hy,pdot_snoc,pget_snoc,h1,gA e.symm,fE,pdot_comm (P.take i),pdot_append,pdot_comm (Q.take j),pdot_comm [y],h2,uC,←h.sum]
 ·rw[take_snoc' hx] at hp;rcases bC.1 hp with hp | hp
  ·exact h.pq p hp q (by rw[hd'.1];exact qA _ hq)
  ·obtain rfl:=cC.1 hp;have:=hd'.2 q hq;omega
 ·rw[take_snoc' hy] at hq;rcases bC.1 hq with hq | hq
  ·exact h.qp q hq p (by rw[hd.1];exact qA _ hp)
  ·obtain rfl:=cC.1 hq;have:=hd.2 p hp;omega
theorem Dotted.left_done {s:Rat} {P Q:List (Int×Rat)} {i j:Nat} (h:Dotted s P Q i j) (hi:P.length≤i):s=pdot P Q:=by
 have h0:pdot P (Q.drop j)=0:=by
  have h2:=h.pq;rw[eA hi] at h2;generalize Q.drop j=R at h2
  clear h hi;induction R with
  | nil=>exact pdot_nil_right _
  | cons q R ih =>
   rw[pdot_cons_right,pget_none (fun p hp=>by have:=h2 p hp q pA;omega),nE,fE];exact ih fun p hp q hq=>h2 p hp q (qA _ hq)
 have h1:=h.sum;rw[eA hi] at h1;have h3:pdot P (Q.take j++Q.drop j)=pdot P Q:=by rw[xC]
 rw[pdot_comm,pdot_append,pdot_comm,pdot_comm (Q.drop j),h0,uC] at h3;rw[h1,h3]
theorem Dotted.done {s:Rat} {P Q:List (Int×Rat)} {i j:Nat} (h:Dotted s P Q i j) (hij:P.length≤i∨Q.length≤j):s=pdot P Q:=by
 rcases hij with h1 | h1
 ·exact h.left_done h1
 ·rw[pdot_comm];exact h.symm.left_done h1
theorem OwnR.far2 {w W:World} {B n size b:Nat} {e:TypeId} {v:Value} {xs:List Value} (ho:OwnR w B e size v n xs) (far:∀b' cs t',b'≠b→Bx w b' cs t'→Bx W b' cs t') (hb:Option.some b≠v.ownBlock):OwnR W B e size v n xs:=by
 obtain⟨h1,h2 | ⟨g,cap,cur,rfl,a2,a3,a4⟩⟩:=ho
 ·exact⟨h1,.inl h2⟩
 ·exact⟨h1,.inr ⟨g,cap,cur,rfl,a2,far g cur e (fun h=>hb (by rw[h];rfl)) a3,a4⟩⟩
theorem NoU.made {z:Array Value} (h:NoU z) (n:Nat):NoU (madeCells z n):=fun u hu k=>by
 unfold madeCells at hu
 obtain⟨i,_,rfl⟩:=Array.mem_map.1 hu;rcases kB (i % z.size) z.size with h1 | h1
 ·rw[getElem!_pos z _ h1];exact h _ (Array.getElem_mem h1) k
 ·rw[getElem!_neg z _ zo];intro e;cases e
section
variable {α:Type} {f:α→List Value} {k:Nat} {t te:TypeId}
theorem Elt.make (E:Elt f k t te) {w:World} {ops:Array Oper} {rest:List Oper} {o:Oper} {a:Act} {Q:Exit→Act→World→Prop} (hgd:o.guard=none) (l c:Operand) (ho:o.op=.makeSlice t l c)
  (kl kc:IntKind) (C:Int) (n:Nat) (hl:a.eval l=.int kl 0) (hc:a.eval c=.int kc C) (hC:C=(n:Int)) (hn:n≤100000000000) (B:Nat) (hB:B≤w.heap.size)
  (hK:∀g w',OwnR w' B te k (.slice (some ⟨g,0,none⟩) 0 n) 0 (flat f [])→Below w.heap.size w w'→w.heap.size≤g→wpList Tryz.prog ops Q rest (a.put o.dst (.slice (some ⟨g,0,none⟩) 0 n)) w'):wpList Tryz.prog ops Q (o :: rest) a w:=by
 obtain⟨i,z,h1,h2,h3,h4,h5,h6⟩:=E.info;refine wpList_plain hgd fun K hK'=>?_;have hb:(i.bytes:Int)*(n:Int)≤281474976710656:=by
  have h:=pC h4 hn;have h':((i.bytes*n:Nat):Int)≤281474976710656:=zo;rwa [Int.natCast_mul] at h'
 have hrun:=run_make (P:=Tryz.prog) w t te i z E.ut h1 h2 kl kc 0 n (Int.le_refl _) zo hb zo;simp only[Int.toNat_zero,eF] at hrun
 subst hC;unfold Oper.wp
 simp[execOp,ho,hl,hc,hrun,Result.andThen]
 refine hK' _ _ (hK _ _ ⟨by simp[flat],.inr ⟨w.heap.size,n,madeCells z.cells (n*i.size),rfl,hB,Bx.new w _ _,nA _,by unfold maxLen;omega,by rw[size_madeCells,h3],by simp[flat],h6.made _⟩⟩ (zAi _ _) (cA _))
end
end Go.Proofs.YteggjbgbknkoiaaGreatDoor
