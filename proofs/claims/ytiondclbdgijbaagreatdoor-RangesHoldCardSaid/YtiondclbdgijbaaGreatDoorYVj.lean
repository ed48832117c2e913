import Derived.Test.YtiondclbdgijbaaGreatDoorYRow
import Derived.Test.YtiondclbdgijbaaGreatDoorYVn
import Derived.OwnWalk
namespace Go.Proofs.YtiondclbdgijbaaGreatDoor
open Go.RowKit Tw
structure Joined (O P Q:List (Int×Rat)) (i j:Nat):Prop where
 nf:Nrm O
 get:∀a,pget O a=pget (P.take i) a+pget (Q.take j) a
 low:∀o∈O,(∀p∈P.drop i,o.1<p.1)∧∀q∈Q.drop j,o.1<q.1
theorem Rise.drop_head {P:List (Int×Rat)} (h:Rise P) {i:Nat} {x:Int×Rat} (hx:P[i]?=some x):P.drop i=x :: P.drop (i+1)∧∀p∈P.drop (i+1),x.1<p.1:=by
 have e:P.drop i=x :: P.drop (i+1):=by rw[fD (dC.1 hx).1,(dC.1 hx).2]
 have h2:Rise (P.drop i):=List.Pairwise.drop h;rw[e] at h2;exact⟨e,(Rise.cons.1 h2).1⟩
theorem Nrm.snoc {O:List (Int×Rat)} {x:Int×Rat} (h:Nrm O) (hl:∀o∈O,o.1<x.1) (hx:x.2≠0):Nrm (O++[x]) :=
 ⟨h.rise.snoc hl,fun y hy=>by
  rcases uD.1 hy with hy | hy
  ·exact h.nz y hy
  ·obtain rfl:=uC.1 hy;exact hx⟩
theorem pget_snoc (O:List (Int×Rat)) (x:Int×Rat) (a:Int):pget (O++[x]) a=pget O a+if x.1=a then x.2 else 0:=by rw[pget_append,pget_one]
theorem Joined.left {O P Q:List (Int×Rat)} {i j:Nat} {x:Int×Rat} (h:Joined O P Q i j) (hP:Nrm P) (hx:P[i]?=some x) (hl:∀q∈Q.drop j,x.1<q.1):Joined (O++[x]) P Q (i+1) j:=by
 have hd:=hP.rise.drop_head hx;have hlo:∀o∈O,o.1<x.1:=fun o ho=>(h.low o ho).1 x (by rw[hd.1];exact kB);refine⟨h.nf.snoc hlo (hP.nz x (eA hx)),fun a=>?_,fun o ho=>?_⟩
 ·rw[pget_snoc,h.get,take_snoc' hx,pget_snoc];grind
 ·rcases uD.1 ho with ho | ho
  ·exact⟨fun p hp=>(h.low o ho).1 p (by rw[hd.1];exact jB _ hp),(h.low o ho).2⟩
  ·obtain rfl:=uC.1 ho;exact⟨hd.2,hl⟩
theorem Joined.symm {O P Q:List (Int×Rat)} {i j:Nat} (h:Joined O P Q i j):Joined O Q P j i:=⟨h.nf,fun a=>by rw[h.get,Rat.add_comm],fun o ho=>⟨(h.low o ho).2,(h.low o ho).1⟩⟩
theorem Joined.right {O P Q:List (Int×Rat)} {i j:Nat} {x:Int×Rat} (h:Joined O P Q i j) (hQ:Nrm Q) (hx:Q[j]?=some x) (hl:∀p∈P.drop i,x.1<p.1):Joined (O++[x]) P Q i (j+1):=(h.symm.left hQ hx hl).symm
theorem Joined.both {O P Q:List (Int×Rat)} {i j:Nat} {x y:Int×Rat} (h:Joined O P Q i j) (hP:Nrm P) (hQ:Nrm Q) (hx:P[i]?=some x) (hy:Q[j]?=some y) (e:x.1=y.1) :
  (x.2+y.2=0→Joined O P Q (i+1) (j+1))∧(x.2+y.2≠0→Joined (O++[(x.1,x.2+y.2)]) P Q (i+1) (j+1)):=by
 have hd:=hP.rise.drop_head hx;have hd':=hQ.rise.drop_head hy;have hlo:∀o∈O,o.1<x.1:=fun o ho=>(h.low o ho).1 x (by rw[hd.1];exact kB);have low:∀o∈O,(∀p∈P.drop (i+1),o.1<p.1)∧∀q∈Q.drop (j+1),o.1<q.1:=fun o ho =>
  ⟨fun p hp=>(h.low o ho).1 p (by rw[hd.1];exact jB _ hp),fun q hq=>(h.low o ho).2 q (by rw[hd'.1];exact jB _ hq)⟩
 refine⟨fun hz=>⟨h.nf,fun a=>?_,low⟩,fun hz=>⟨h.nf.snoc hlo hz,fun a=>?_,fun o ho=>?_⟩⟩
 ·rw[h.get,take_snoc' hx,take_snoc' hy,pget_snoc,pget_snoc,←e];split<;>grind
 ·rw[pget_snoc,h.get,take_snoc' hx,take_snoc' hy,pget_snoc,pget_snoc,←e];simp only
  split<;>grind
 ·rcases uD.1 ho with ho | ho
  ·exact low o ho
  ·obtain rfl:=uC.1 ho;exact⟨hd.2,fun q hq=>by have:=hd'.2 q hq;simp only;omega⟩
theorem Joined.done {O P Q:List (Int×Rat)} {i j:Nat} (h:Joined O P Q i j) (hi:P.length≤i) (hj:Q.length≤j):nrm (P++Q)=O :=
 nrm_eq h.nf fun a=>by rw[h.get,fA hi,fA hj,pget_append]
theorem Rise.behind {Q:List (Int×Rat)} (h:Rise Q) {j:Nat} {y:Int×Rat} {a:Int} (hy:Q[j]?=some y) (hl:a<y.1):∀q∈Q.drop j,a<q.1:=fun q hq=>by
 have hd:=h.drop_head hy;rw[hd.1] at hq;rcases rB.1 hq with rfl | hq
 ·exact hl
 ·have:=hd.2 q hq;omega
structure Dotted (s:Rat) (P Q:List (Int×Rat)) (i j:Nat):Prop where
 sum:s=pdot (P.take i) (Q.take j)
 pq:∀p∈P.take i,∀q∈Q.drop j,p.1<q.1
 qp:∀q∈Q.take j,∀p∈P.drop i,q.1<p.1
theorem Dotted.start (P Q:List (Int×Rat)):Dotted 0 P Q 0 0:=⟨by simp[pdot_nil],fun p hp=>by simp at hp,fun q hq=>by simp at hq⟩
theorem pdot_snoc (P Q:List (Int×Rat)) (x:Int×Rat):pdot (P++[x]) Q=pdot P Q+x.2*pget Q x.1:=by
 rw[pdot_append,pdot_cons,pdot_nil,sE]
theorem Dotted.symm {s:Rat} {P Q:List (Int×Rat)} {i j:Nat} (h:Dotted s P Q i j):Dotted s Q P j i:=⟨by rw[h.sum,pdot_comm],h.qp,h.pq⟩
theorem Dotted.left {s:Rat} {P Q:List (Int×Rat)} {i j:Nat} {x y:Int×Rat} (h:Dotted s P Q i j) (hP:Rise P) (hQ:Rise Q) (hx:P[i]?=some x) (hy:Q[j]?=some y) (hl:x.1<y.1):Dotted s P Q (i+1) j:=by
 have hd:=hP.drop_head hx;have hx2:x∈P.drop i:=by rw[hd.1];exact kB
 refine⟨?_,fun p hp q hq=>?_,fun q hq p hp=>h.qp q hq p (by rw[hd.1];exact jB _ hp)⟩
 ·rw[take_snoc' hx,pdot_snoc,pget_none (fun q hq=>by have:=h.qp q hq x hx2;omega),Rat.mul_zero,sE,h.sum]
 ·rw[take_snoc' hx] at hp;rcases uD.1 hp with hp | hp
  ·exact h.pq p hp q hq
  ·obtain rfl:=uC.1 hp;exact hQ.behind hy hl q hq
theorem Dotted.right {s:Rat} {P Q:List (Int×Rat)} {i j:Nat} {x y:Int×Rat} (h:Dotted s P Q i j) (hP:Rise P) (hQ:Rise Q) (hx:P[i]?=some x) (hy:Q[j]?=some y) (hl:y.1<x.1):Dotted s P Q i (j+1) :=
 (h.symm.left hQ hP hy hx hl).symm
theorem Dotted.both {s:Rat} {P Q:List (Int×Rat)} {i j:Nat} {x y:Int×Rat} (h:Dotted s P Q i j) (hP:Rise P) (hQ:Rise Q) (hx:P[i]?=some x) (hy:Q[j]?=some y) (e:x.1=y.1):Dotted (s+x.2*y.2) P Q (i+1) (j+1):=by
 have hd:=hP.drop_head hx;have hd':=hQ.drop_head hy;have hx2:x∈P.drop i:=by rw[hd.1];exact kB
 have hy2:y∈Q.drop j:=by rw[hd'.1];exact kB
 refine⟨?_,fun p hp q hq=>?_,fun q hq p hp=>?_⟩
 ·have h1:pget (Q.take j) x.1=0:=pget_none fun q hq=>by have:=h.qp q hq x hx2;omega
  have h2:pdot (P.take i) [y]=0:=by
   rw[pdot_comm,pdot_cons,pdot_nil,pget_none (fun p hp=>by have:=h.pq p hp y hy2;omega),Rat.mul_zero,sE]
  rw[take_snoc' hx,take_snoc' hy,pdot_snoc,pget_snoc,h1,bB e.symm,zF,pdot_comm (P.take i),pdot_append,pdot_comm (Q.take j),pdot_comm [y],h2,sE,←h.sum]
 ·rw[take_snoc' hx] at hp;rcases uD.1 hp with hp | hp
  ·exact h.pq p hp q (by rw[hd'.1];exact jB _ hq)
  ·obtain rfl:=uC.1 hp;have:=hd'.2 q hq;omega
 ·rw[take_snoc' hy] at hq;rcases uD.1 hq with hq | hq
  ·exact h.qp q hq p (by rw[hd.1];exact jB _ hp)
  ·obtain rfl:=uC.1 hq;have:=hd.2 p hp;omega
theorem Dotted.left_done {s:Rat} {P Q:List (Int×Rat)} {i j:Nat} (h:Dotted s P Q i j) (hi:P.length≤i):s=pdot P Q:=by
 have h0:pdot P (Q.drop j)=0:=by
  have h2:=h.pq;rw[fA hi] at h2;generalize Q.drop j=R at h2
  clear h hi;induction R with
  | nil=>exact pdot_nil_right _
  | cons q R ih =>
   rw[pdot_cons_right,pget_none (fun p hp=>by have:=h2 p hp q kB;omega),Rat.zero_mul,zF];exact ih fun p hp q hq=>h2 p hp q (jB _ hq)
 have h1:=h.sum;rw[fA hi] at h1;have h3:pdot P (Q.take j++Q.drop j)=pdot P Q:=by rw[mD]
 rw[pdot_comm,pdot_append,pdot_comm,pdot_comm (Q.drop j),h0,sE] at h3;rw[h1,h3]
theorem Dotted.done {s:Rat} {P Q:List (Int×Rat)} {i j:Nat} (h:Dotted s P Q i j) (hij:P.length≤i∨Q.length≤j):s=pdot P Q:=by
 rcases hij with h1 | h1
 ·exact h.left_done h1
 ·rw[pdot_comm];exact h.symm.left_done h1
theorem OwnR.far2 {w W:World} {B n size b:Nat} {e:TypeId} {v:Value} {xs:List Value} (ho:OwnR w B e size v n xs) (far:∀b' cs t',b'≠b→Bx w b' cs t'→Bx W b' cs t') (hb:Option.some b≠v.ownBlock):OwnR W B e size v n xs:=by
 obtain⟨h1,h2 | ⟨g,cap,cur,rfl,a2,a3,a4⟩⟩:=ho
 ·exact⟨h1,.inl h2⟩
 ·exact⟨h1,.inr ⟨g,cap,cur,rfl,a2,far g cur e (fun h=>hb (by rw[h];rfl)) a3,a4⟩⟩
theorem NoU.made {z:Array Value} (h:NoU z) (n:Nat):NoU (madeCells z n):=fun u hu k=>by
 unfold madeCells at hu
 obtain⟨i,_,rfl⟩:=Array.mem_map.1 hu;rcases eB (i % z.size) z.size with h1 | h1
 ·rw[getElem!_pos z _ h1];exact h _ (Array.getElem_mem h1) k
 ·rw[getElem!_neg z _ zo];intro e;cases e
section
variable {α:Type} {f:α→List Value} {k:Nat} {t te:TypeId}
theorem Elt.make (E:Elt f k t te) {w:World} {ops:Array Oper} {rest:List Oper} {o:Oper} {a:Act} {Q:Exit→Act→World→Prop} (hgd:o.guard=none) (l c:Operand) (ho:o.op=.makeSlice t l c)
  (kl kc:IntKind) (C:Int) (n:Nat) (hl:a.eval l=.int kl 0) (hc:a.eval c=.int kc C) (hC:C=(n:Int)) (hn:n≤100000000000) (B:Nat) (hB:B≤w.heap.size)
  (hK:∀g w',OwnR w' B te k (.slice (some ⟨g,0,none⟩) 0 n) 0 (flat f [])→Below w.heap.size w w'→w.heap.size≤g→wpList Tryz.prog ops Q rest (a.put o.dst (.slice (some ⟨g,0,none⟩) 0 n)) w'):wpList Tryz.prog ops Q (o :: rest) a w:=by
 obtain⟨i,z,h1,h2,h3,h4,h5,h6⟩:=E.info;refine wpList_plain hgd fun K hK'=>?_;have hb:(i.bytes:Int)*(n:Int)≤281474976710656:=by
  have h:=xE h4 hn;have h':((i.bytes*n:Nat):Int)≤281474976710656:=zo;rwa [pF] at h'
 have hrun:=run_make (P:=Tryz.prog) w t te i z E.ut h1 h2 kl kc 0 n (Int.le_refl _) zo hb zo;simp only[Int.toNat_zero,Int.toNat_natCast] at hrun
 subst hC;unfold Oper.wp
 simp[execOp,ho,hl,hc,hrun,Result.andThen]
 refine hK' _ _ (hK _ _ ⟨by simp[flat],.inr ⟨w.heap.size,n,madeCells z.cells (n*i.size),rfl,hB,Bx.new w _ _,uA _,by unfold maxLen;omega,by rw[size_madeCells,h3],by simp[flat],h6.made _⟩⟩ (zAe _ _) (aA _))
end
structure Lv where
 kind:Int
 rows:List (List (Int×Rat))
 bias:List Rat
 groups:List (List Int)
def nth (x:List Rat) (a:Int):Rat:=(x[a.toNat]?).getD 0
theorem maxQ_self (a:Rat):maxQ a a=a:=by unfold maxQ;split<;>rfl
theorem minQ_self (a:Rat):minQ a a=a:=by unfold minQ;split<;>rfl
theorem maxQ_l (a b:Rat):a≤maxQ a b:=by unfold maxQ;split<;>grind
theorem maxQ_r (a b:Rat):b≤maxQ a b:=by unfold maxQ;split<;>grind
theorem minQ_l (a b:Rat):minQ a b≤a:=by unfold minQ;split<;>grind
theorem minQ_r (a b:Rat):minQ a b≤b:=by unfold minQ;split<;>grind
theorem maxQ_mono {a b c d:Rat} (h:a≤c) (k:b≤d):maxQ a b≤maxQ c d:=by unfold maxQ;split<;>split<;>grind
theorem maxQ_or (a b:Rat):maxQ a b=a∨maxQ a b=b:=by unfold maxQ;split<;>simp
theorem minQ_or (a b:Rat):minQ a b=a∨minQ a b=b:=by unfold minQ;split<;>simp
theorem mul_btw {q l x h:Rat} (h1:l≤x) (h2:x≤h):minQ (q*l) (q*h)≤q*x∧q*x≤maxQ (q*l) (q*h):=by
 rcases(Rat.le_total:0≤q∨q≤0) with hq | hq
 ·exact⟨Rat.le_trans (minQ_l _ _) (Rat.mul_le_mul_of_nonneg_left h1 hq),Rat.le_trans (Rat.mul_le_mul_of_nonneg_left h2 hq) (maxQ_r _ _)⟩
 ·have hn:0≤-q:=by grind
  have a1:-q*l≤-q*x:=Rat.mul_le_mul_of_nonneg_left h1 hn;have a2:-q*x≤-q*h:=Rat.mul_le_mul_of_nonneg_left h2 hn;rw[Rat.neg_mul,Rat.neg_mul] at a1 a2;exact⟨Rat.le_trans (minQ_r _ _) (by grind),Rat.le_trans (by grind) (maxQ_l _ _)⟩
def affS1 (lo hi:List Rat) (p:Rat×Rat) (t:Int×Rat):Rat×Rat:=(p.1+minQ (t.2*nth lo t.1) (t.2*nth hi t.1),p.2+maxQ (t.2*nth lo t.1) (t.2*nth hi t.1))
def affS (row:List (Int×Rat)) (b:Rat) (s:List Rat×List Rat):Rat×Rat:=row.foldl (affS1 s.1 s.2) (b,b)
def affT (row:List (Int×Rat)) (b:Rat) (x:List Rat):Rat:=row.foldl (fun s t=>s+t.2*nth x t.1) b
def poolT (g:List Int) (x:List Rat):Rat:=match g with | []=>0 | a :: g=>g.foldl (fun s i=>maxQ s (nth x i)) (nth x a)
def layS (l:Lv) (s:List Rat×List Rat):List Rat×List Rat :=
 if l.kind=1 then((l.rows.zip l.bias).map fun p=>(affS p.1 p.2 s).1,(l.rows.zip l.bias).map fun p=>(affS p.1 p.2 s).2)
 else if l.kind=3 then(s.1.map (maxQ · 0),s.2.map (maxQ · 0))
 else if l.kind=4 then(l.groups.map (poolT · s.1),l.groups.map (poolT · s.2)) else([],[])
def layT (l:Lv) (x:List Rat):List Rat :=
 if l.kind=1 then(l.rows.zip l.bias).map fun p=>affT p.1 p.2 x
 else if l.kind=3 then x.map (maxQ · 0)
 else if l.kind=4 then l.groups.map (poolT · x) else []
def HoldsS (s:List Rat×List Rat) (x:List Rat):Prop:=s.1.length=x.length∧s.2.length=x.length∧∀a:Nat,(s.1[a]?).getD 0≤(x[a]?).getD 0∧(x[a]?).getD 0≤(s.2[a]?).getD 0
theorem HoldsS.nth {s:List Rat×List Rat} {x:List Rat} (h:HoldsS s x) (a:Int):nth s.1 a≤nth x a∧nth x a≤nth s.2 a:=h.2.2 a.toNat
theorem aff_hold {s:List Rat×List Rat} {x:List Rat} (h:HoldsS s x) (row:List (Int×Rat)):∀(p:Rat×Rat) (b:Rat),p.1≤b→b≤p.2→(row.foldl (affS1 s.1 s.2) p).1≤row.foldl (fun s t=>s+t.2*nth x t.1) b∧row.foldl (fun s t=>s+t.2*nth x t.1) b≤(row.foldl (affS1 s.1 s.2) p).2:=by
 induction row with
 | nil=>exact fun p b h1 h2=>⟨h1,h2⟩
 | cons t row ih =>
  intro p b h1 h2;have h3:=mul_btw (q:=t.2) (h.nth t.1).1 (h.nth t.1).2;rw[dF,dF];exact ih _ _ (show p.1+_≤_ by grind) (show _≤p.2+_ by grind)
theorem pool_hold {lo x:List Rat} (h:∀a,nth lo a≤nth x a) (g:List Int):poolT g lo≤poolT g x:=by
 cases g with
 | nil=>exact pE
 | cons a g =>
  show g.foldl _ _≤g.foldl _ _
  have h1:∀(g:List Int) (b c:Rat),b≤c→g.foldl (fun s i=>maxQ s (nth lo i)) b≤g.foldl (fun s i=>maxQ s (nth x i)) c:=by
   intro g;induction g with
   | nil=>exact fun b c h=>h
   | cons i g ih=>exact fun b c hbc=>ih _ _ (maxQ_mono hbc (h i))
  exact h1 g _ _ (h a)
theorem getD_map {α β:Type} {f:α→β} {L:List α} {a:Nat} {d:β}:((L.map f)[a]?).getD d=match L[a]? with | none=>d | some x=>f x:=by
 rw[mA];cases L[a]?<;>rfl
theorem lay_hold {l:Lv} {s:List Rat×List Rat} {x:List Rat} (h:HoldsS s x):HoldsS (layS l s) (layT l x):=by
 unfold layS layT
 split
 ·refine⟨by rw[nA,nA],by rw[nA,nA],fun a=>?_⟩;rw[getD_map,getD_map,getD_map];split
  ·exact⟨pE,pE⟩
  ·exact aff_hold h _ _ _ pE pE
 ·split
  ·refine⟨by rw[nA,nA,h.1],by rw[nA,nA,h.2.1],fun a=>?_⟩;have h1:=h.2.2 a;rw[getD_map,getD_map,getD_map];rcases eB a x.length with ha | ha
   ·rw[cA ha,cA (h.1 ▸ ha),cA (h.2.1 ▸ ha)] at h1 ⊢;exact⟨maxQ_mono h1.1 pE,maxQ_mono h1.2 pE⟩
   ·rw[cB ha,cB (h.1 ▸ ha),cB (h.2.1 ▸ ha)];exact⟨pE,pE⟩
  ·split
   ·refine⟨by rw[nA,nA],by rw[nA,nA],fun a=>?_⟩;rw[getD_map,getD_map,getD_map];split
    ·exact⟨pE,pE⟩
    ·exact⟨pool_hold (fun a=>(h.nth a).1) _,pool_hold (fun a=>(h.nth a).2) _⟩
   ·exact⟨rfl,rfl,fun a=>⟨pE,pE⟩⟩
theorem aff_point (row:List (Int×Rat)) (x:List Rat):∀b:Rat,row.foldl (affS1 x x) (b,b)=(row.foldl (fun s t=>s+t.2*nth x t.1) b,row.foldl (fun s t=>s+t.2*nth x t.1) b):=by
 induction row with
 | nil=>exact fun b=>rfl
 | cons t row ih =>
  intro b;rw[dF,dF,show affS1 x x (b,b) t=(b+t.2*nth x t.1,b+t.2*nth x t.1) from by unfold affS1;rw[minQ_self,maxQ_self]];exact ih _
theorem lay_point (l:Lv) (x:List Rat):layS l (x,x)=(layT l x,layT l x):=by
 unfold layS layT
 split
 ·have h:∀p:List (Int×Rat)×Rat,affS p.1 p.2 (x,x)=(affT p.1 p.2 x,affT p.1 p.2 x):=fun p=>aff_point p.1 x p.2;simp only[h]
 ·split
  ·rfl
  ·split<;>rfl
def spansS:List Lv→List Rat×List Rat→List (List Rat×List Rat)
 | [],_=>[]
 | l :: L,s=>layS l s :: spansS L (layS l s)
def traceT:List Lv→List Rat→List (List Rat)
 | [],_=>[]
 | l :: L,x=>layT l x :: traceT L (layT l x)
theorem trace_len:∀(L:List Lv) (x:List Rat),(traceT L x).length=L.length
 | [],_=>rfl
 | _ :: L,x=>by rw[traceT,cC,trace_len L,cC]
theorem hold_all:∀{L:List Lv} {s:List Rat×List Rat} {x:List Rat},HoldsS s x→∀{i:Nat} {a:List Rat×List Rat} {b:List Rat},(spansS L s)[i]?=some a→(traceT L x)[i]?=some b→HoldsS a b
 | [],_,_,_,_,_,_,h,_=>by cases h
 | l :: L,s,x,hs,i,a,b,h1,h2=>by
  cases i with
  | zero=>cases h1;cases h2;exact lay_hold hs
  | succ i=>exact hold_all (lay_hold hs) h1 h2
theorem point_all:∀(L:List Lv) (x:List Rat),spansS L (x,x)=(traceT L x).map fun y=>(y,y)
 | [],_=>rfl
 | l :: L,x=>by rw[spansS,traceT,fG,lay_point,point_all L]
def aheadS (L:List Lv) (s:List Rat×List Rat) (i:Nat):List Rat×List Rat:=(L.take i).foldl (fun s l=>layS l s) s
def aheadT (L:List Lv) (x:List Rat) (i:Nat):List Rat:=(L.take i).foldl (fun x l=>layT l x) x
theorem aheadS_succ {L:List Lv} {s:List Rat×List Rat} {i:Nat} {l:Lv} (h:L[i]?=some l):aheadS L s (i+1)=layS l (aheadS L s i):=by
 unfold aheadS;rw[aF,h,Option.toList_some,List.foldl_append];rfl
theorem aheadT_succ {L:List Lv} {x:List Rat} {i:Nat} {l:Lv} (h:L[i]?=some l):aheadT L x (i+1)=layT l (aheadT L x i):=by
 unfold aheadT;rw[aF,h,Option.toList_some,List.foldl_append];rfl
theorem spans_at:∀{L:List Lv} {s:List Rat×List Rat} {i:Nat},i<L.length→(spansS L s)[i]?=some (aheadS L s (i+1))
 | [],_,_,h=>by cases h
 | l :: L,s,0,_=>rfl
 | l :: L,s,i+1,h=>spans_at (L:=L) (s:=layS l s) (Nat.lt_of_succ_lt_succ h)
theorem trace_at:∀{L:List Lv} {x:List Rat} {i:Nat},i<L.length→(traceT L x)[i]?=some (aheadT L x (i+1))
 | [],_,_,h=>by cases h
 | l :: L,x,0,_=>rfl
 | l :: L,x,i+1,h=>trace_at (L:=L) (x:=layT l x) (Nat.lt_of_succ_lt_succ h)
structure LvOk (l:Lv) (n u:Nat):Prop where
 pos:1≤n
 aff:l.kind=1→l.rows.length=u∧l.bias.length=u∧(∀r∈l.rows,r.length≤n∧∀t∈r,0≤t.1∧t.1<(n:Int)∧sz t.2≤160)∧∀b∈l.bias,sz b≤160
 relu:l.kind=3→u=n
 pool:l.kind=4→l.groups.length=u∧∀g∈l.groups,g≠[]∧∀a∈g,0≤a∧a<(n:Int)
 kinds:l.kind=1∨l.kind=3∨l.kind=4
theorem layT_len {l:Lv} {n u:Nat} (h:LvOk l n u) {x:List Rat} (hx:x.length=n):(layT l x).length=u:=by
 unfold layT
 rcases h.kinds with k | k | k
 ·have:=h.aff k;rw[bB k,nA,List.length_zip,this.1,this.2.1,Nat.min_self]
 ·rw[dA zo,bB k,nA,hx,h.relu k]
 ·rw[dA zo,dA zo,bB k,nA,(h.pool k).1]
theorem layS_len {l:Lv} {n u:Nat} (h:LvOk l n u) {s:List Rat×List Rat} (h1:s.1.length=n) (h2:s.2.length=n):(layS l s).1.length=u∧(layS l s).2.length=u:=by
 unfold layS
 rcases h.kinds with k | k | k
 ·have:=h.aff k;rw[bB k];simp only[nA,List.length_zip,this.1,this.2.1,Nat.min_self,and_self]
 ·rw[dA zo,bB k];simp only[nA,h1,h2,h.relu k,and_self]
 ·rw[dA zo,dA zo,bB k];simp only[nA,(h.pool k).1,and_self]
theorem nth_sz {x:List Rat} {D:Nat} (h:∀q∈x,sz q≤D) (hD:1≤D) (a:Int):sz (nth x a)≤D:=by
 unfold nth
 cases e:x[a.toNat]? with
 | none=>exact wA sz_zero hD
 | some q=>exact h q (eA e)
theorem maxQ_sz {a b:Rat} {D:Nat} (h:sz a≤D) (k:sz b≤D):sz (maxQ a b)≤D:=by rcases maxQ_or a b with e | e<;>rw[e]<;>assumption
theorem minQ_sz {a b:Rat} {D:Nat} (h:sz a≤D) (k:sz b≤D):sz (minQ a b)≤D:=by rcases minQ_or a b with e | e<;>rw[e]<;>assumption
theorem affT_sz {x:List Rat} {D:Nat} (h:∀q∈x,sz q≤D) (hD:1≤D) (row:List (Int×Rat)):∀{b:Rat} {B:Nat},sz b≤B→(∀t∈row,sz t.2≤160)→sz (row.foldl (fun s t=>s+t.2*nth x t.1) b)≤B+row.length*(D+161):=by
 induction row with
 | nil=>intro b B hb _;simpa using hb
 | cons t row ih =>
  intro b B hb ht;rw[dF,cC,eG];have h1:=sz_add hb (sz_mul (ht t (kB ..)) (nth_sz h hD t.1));have h2:=ih h1 fun t h=>ht t (jB _ h);omega
theorem affS_sz {lo hi:List Rat} {D:Nat} (h:∀q∈lo,sz q≤D) (k:∀q∈hi,sz q≤D) (hD:1≤D) (row:List (Int×Rat)):∀{p:Rat×Rat} {B:Nat},sz p.1≤B→sz p.2≤B→(∀t∈row,sz t.2≤160)→sz (row.foldl (affS1 lo hi) p).1≤B+row.length*(D+161)∧sz (row.foldl (affS1 lo hi) p).2≤B+row.length*(D+161):=by
 induction row with
 | nil=>intro p B h1 h2 _;simpa using And.intro h1 h2
 | cons t row ih =>
  intro p B h1 h2 ht;rw[dF,cC,eG];have a1:=sz_mul (ht t (kB ..)) (nth_sz h hD t.1);have a2:=sz_mul (ht t (kB ..)) (nth_sz k hD t.1);have h3:=ih (p:=affS1 lo hi p t) (sz_add h1 (minQ_sz a1 a2)) (sz_add h2 (maxQ_sz a1 a2)) fun t h=>ht t (jB _ h);omega
theorem poolT_sz {x:List Rat} {D:Nat} (h:∀q∈x,sz q≤D) (hD:1≤D) (g:List Int):sz (poolT g x)≤D:=by
 cases g with
 | nil=>exact wA sz_zero hD
 | cons a g =>
  have h1:∀(g:List Int) (b:Rat),sz b≤D→sz (g.foldl (fun s i=>maxQ s (nth x i)) b)≤D:=by
   intro g;induction g with
   | nil=>exact fun b h=>h
   | cons i g ih=>exact fun b hb=>ih _ (maxQ_sz hb (nth_sz h hD i))
  exact h1 g _ (nth_sz h hD a)
def dgs (n D:Nat):Nat:=n*(D+161)+162
def digsF (ns:List Nat):Nat:=ns.foldl (fun D n=>dgs n D) 20
theorem dgs_ge {n D:Nat} (hn:1≤n):D≤dgs n D:=by
 unfold dgs
 have:=fB (D+161) hn;omega
theorem row_dgs {n D r:Nat} (h:r≤n):160+r*(D+161)≤dgs n D:=by
 unfold dgs
 have:=fB (D+161) h;omega
theorem layT_sz {l:Lv} {n u D:Nat} (h:LvOk l n u) {x:List Rat} (hx:∀q∈x,sz q≤D) (hD:1≤D):∀q∈layT l x,sz q≤dgs n D:=by
 unfold layT
 intro q hq;rcases h.kinds with k | k | k
 ·have h1:=h.aff k;rw[bB k] at hq;obtain⟨p,hp,rfl⟩:=xC.1 hq;have h2:=List.of_mem_zip hp;exact wA (affT_sz hx hD p.1 (h1.2.2.2 _ h2.2) fun t ht=>((h1.2.2.1 _ h2.1).2 t ht).2.2) (row_dgs (h1.2.2.1 _ h2.1).1)
 ·rw[dA zo,bB k] at hq;obtain⟨p,hp,rfl⟩:=xC.1 hq;exact wA (maxQ_sz (hx p hp) (wA sz_zero hD)) (dgs_ge h.pos)
 ·rw[dA zo,dA zo,bB k] at hq;obtain⟨p,hp,rfl⟩:=xC.1 hq;exact wA (poolT_sz hx hD p) (dgs_ge h.pos)
theorem layS_sz {l:Lv} {n u D:Nat} (h:LvOk l n u) {s:List Rat×List Rat} (hx:∀q∈s.1,sz q≤D) (hy:∀q∈s.2,sz q≤D) (hD:1≤D):(∀q∈(layS l s).1,sz q≤dgs n D)∧∀q∈(layS l s).2,sz q≤dgs n D:=by
 unfold layS
 rcases h.kinds with k | k | k
 ·have h1:=h.aff k;rw[bB k];refine⟨fun q hq=>?_,fun q hq=>?_⟩<;>obtain⟨p,hp,rfl⟩:=xC.1 hq<;>have h2:=List.of_mem_zip hp<;>have h3:=affS_sz hx hy hD p.1 (p:=(p.2,p.2)) (h1.2.2.2 _ h2.2) (h1.2.2.2 _ h2.2) fun t ht=>((h1.2.2.1 _ h2.1).2 t ht).2.2
  ·exact wA h3.1 (row_dgs (h1.2.2.1 _ h2.1).1)
  ·exact wA h3.2 (row_dgs (h1.2.2.1 _ h2.1).1)
 ·rw[dA zo,bB k];refine⟨fun q hq=>?_,fun q hq=>?_⟩<;>obtain⟨p,hp,rfl⟩:=xC.1 hq
  ·exact wA (maxQ_sz (hx p hp) (wA sz_zero hD)) (dgs_ge h.pos)
  ·exact wA (maxQ_sz (hy p hp) (wA sz_zero hD)) (dgs_ge h.pos)
 ·rw[dA zo,dA zo,bB k];refine⟨fun q hq=>?_,fun q hq=>?_⟩<;>obtain⟨p,hp,rfl⟩:=xC.1 hq
  ·exact wA (poolT_sz hx hD p) (dgs_ge h.pos)
  ·exact wA (poolT_sz hy hD p) (dgs_ge h.pos)
theorem dgs_step {n D:Nat} (h1:1≤n) (h2:n≤60) (hD:20≤D):20≤dgs n D∧(dgs n D+484)*7 ^ n*10000≤27489*8 ^ n*(D+484):=by
 rcases eB n 2 with h | h
 ·obtain rfl:n=1:=zo;unfold dgs;omega
 ·have e:dgs n D=n*D+161*n+162:=by unfold dgs;rw[zA];omega
  have e2:n*(D+484)=n*D+484*n:=by rw[zA];omega
  have h3:n*7 ^ n*10000≤27489*8 ^ n:=by
   have:=(by decide +kernel:∀n,n<61→n*7 ^ n*10000≤27489*8 ^ n);exact this n zo
  have h4:2*D≤n*D:=fB D h;refine⟨zo,?_⟩;calc (dgs n D+484)*7 ^ n*10000≤n*(D+484)*7 ^ n*10000:=fB _ (fB _ zo)
   _=n*7 ^ n*10000*(D+484):=by ac_rfl
   _≤27489*8 ^ n*(D+484):=fB _ h3
theorem dig_mul {E D D' a7 a8 b7 b8 C C' K K':Nat} (h1:D'*a7*C≤C'*a8*D) (h2:E*b7*K≤K'*b8*D'):E*(a7*b7)*(K*C)≤K'*C'*(a8*b8)*D:=by
 calc E*(a7*b7)*(K*C)=E*b7*K*(a7*C):=by ac_rfl
  _≤K'*b8*D'*(a7*C):=fB _ h2
  _=K'*b8*(D'*a7*C):=by ac_rfl
  _≤K'*b8*(C'*a8*D):=aC _ h1
  _=K'*C'*(a8*b8)*D:=by ac_rfl
theorem dig_mul2 {E A B C D K a7 a8 c c':Nat} (h:E*A*B≤C*D*K) (ha:a7≤a8) (hc:c≤c'):E*(a7*A*(c*B))≤c'*C*(a8*D)*K:=by
 calc E*(a7*A*(c*B))=a7*c*(E*A*B):=by ac_rfl
  _≤a7*c*(C*D*K):=aC _ h
  _≤a8*c'*(C*D*K):=fB _ (xE ha hc)
  _=c'*C*(a8*D)*K:=by ac_rfl
theorem digs_fold {ns:List Nat}:∀{D:Nat},20≤D→(∀n∈ns,1≤n∧n≤60)→20≤ns.foldl (fun D n=>dgs n D) D∧(ns.foldl (fun D n=>dgs n D) D+484)*7 ^ ns.sum*10000 ^ ns.length≤27489 ^ ns.length*8 ^ ns.sum*(D+484):=by
 induction ns with
 | nil=>intro D hD _;exact⟨hD,by simp⟩
 | cons n ns ih =>
  intro D hD hn;have h1:=dgs_step (hn n (kB ..)).1 (hn n (kB ..)).2 hD;have h2:=ih h1.1 fun k hk=>hn k (jB _ hk);refine⟨h2.1,?_⟩;rw[dF,List.sum_cons,cC,tC 7,tC 8,tC 10000,tC 27489,Nat.pow_one,Nat.pow_one];generalize ns.foldl (fun D n=>dgs n D) (dgs n D)=E at h2 ⊢
  exact dig_mul (E:=E+484) (D:=D+484) (D':=dgs n D+484) (a7:=7 ^ n) (a8:=8 ^ n) (b7:=7 ^ ns.sum) (b8:=8 ^ ns.sum) (C:=10000) (C':=27489) (K:=10000 ^ ns.length) (K':=27489 ^ ns.length) h1.2 h2.2
theorem mem_sum {ns:List Nat} {n:Nat} (h:n∈ns):n≤ns.sum:=by
 induction ns with
 | nil=>cases h
 | cons m ns ih =>
  rw[List.sum_cons];rcases rB.1 h with rfl | h
  ·omega
  ·have:=ih h;omega
theorem dig_end {ns:List Nat} (h1:∀n∈ns,1≤n) (h2:ns.length≤8) (h3:ns.sum≤60):20≤digsF ns∧digsF ns≤5000000000:=by
 have h:=digs_fold (ns:=ns) (D:=20) (aA _) fun n hn=>⟨h1 n hn,wA (mem_sum hn) h3⟩;refine⟨h.1,?_⟩;obtain⟨a,ha⟩:∃a,a+ns.sum=60:=⟨60-ns.sum,zo⟩;obtain⟨b,hb⟩:∃b,b+ns.length=8:=⟨8-ns.length,zo⟩;have h4:(digsF ns+484)*(7 ^ 60*10000 ^ 8)≤27489 ^ 8*8 ^ 60*504:=by
  have e:∀x:Nat,x ^ 60=x ^ a*x ^ ns.sum:=fun x=>by rw[←tC,ha]
  have f:∀x:Nat,x ^ 8=x ^ b*x ^ ns.length:=fun x=>by rw[←tC,hb]
  rw[e,e,f,f];exact dig_mul2 (E:=digsF ns+484) (A:=7 ^ ns.sum) (B:=10000 ^ ns.length) (C:=27489 ^ ns.length) (D:=8 ^ ns.sum) (K:=504) (a7:=7 ^ a) (a8:=8 ^ a) (c:=10000 ^ b) (c':=27489 ^ b) h.2 (Nat.pow_le_pow_left zo a) (Nat.pow_le_pow_left zo b)
 have h5:27489 ^ 8*8 ^ 60*504<5000000001*(7 ^ 60*10000 ^ 8):=by decide +kernel
 have h6:=Nat.lt_of_mul_lt_mul_right (aD h4 h5);omega
end Go.Proofs.YtiondclbdgijbaaGreatDoor
