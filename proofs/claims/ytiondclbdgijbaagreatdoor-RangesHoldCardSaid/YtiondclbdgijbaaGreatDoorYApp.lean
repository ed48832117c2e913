import Derived.Test.YtiondclbdgijbaaGreatDoorYStores
import Derived.Deep.Upon
namespace Go.Proofs.YtiondclbdgijbaaGreatDoor
open Go.RowKit Tw
def flat {α:Type} (f:α→List Value) (L:List α):List Value:=L.flatMap f
section
variable {α:Type} {f:α→List Value} {k:Nat}
theorem flat_len (hk:∀x,(f x).length=k) (L:List α):(flat f L).length=L.length*k:=by
 induction L with
 | nil=>simp[flat]
 | cons x L ih=>simp only[flat,List.flatMap_cons,eD,cC,hk] at ih ⊢;rw[ih,xB];omega
theorem flat_append (L M:List α):flat f (L++M)=flat f L++flat f M:=by simp[flat]
theorem flat_one (x:α):flat f [x]=f x:=by simp[flat]
theorem flat_get (hk:∀x,(f x).length=k) (L:List α):∀(i:Nat) (x:α),L[i]?=some x→∀j,j<k→(flat f L)[i*k+j]?=(f x)[j]?:=by
 induction L with
 | nil=>intro i x h;simp at h
 | cons y L ih =>
  intro i x h j hj;have e:flat f (y :: L)=f y++flat f L:=by simp[flat]
  rw[e];cases i with
  | zero=>simp at h;subst h;rw[yF,mC,bF (by rw[hk];exact hj)]
  | succ i =>
   simp only[List.getElem?_cons_succ] at h
   rw[kD (by rw[hk,xB];omega),hk,←ih i x h j hj];congr 1
   rw[xB];omega
theorem flat_take (hk:∀x,(f x).length=k) (L:List α) (i:Nat):(flat f L).take (i*k)=flat f (L.take i):=by
 induction L generalizing i with
 | nil=>simp[flat]
 | cons y L ih =>
  have e:flat f (y :: L)=f y++flat f L:=by simp[flat]
  cases i with
  | zero=>simp[flat]
  | succ i =>
   have e2:flat f (y :: L.take i)=f y++flat f (L.take i):=by simp[flat]
   rw[e,List.take_succ_cons,e2,←ih i,xB,fE,Nat.add_comm (i*k) k,List.take_append,hk];rw[fA (by rw[hk];omega)];congr 2
   omega
theorem flat_mem {L:List α} {u:Value} (h:u∈flat f L):∃x∈L,u∈f x:=List.mem_flatMap.1 h
end
structure Grew (w w':World) (v v':Value):Prop where
 by_:w.grownBy w' v.ownBlock
 k:K64 w w'
 new:v'.ownBlock=v.ownBlock∨∃g,v'.ownBlock=some g∧w.heap.size≤g
theorem Grew.bx {w w':World} {v v':Value} (h:Grew w w' v v') {b:Nat} {cs:Array Value} {t:TypeId} (hb:Bx w b cs t) (hn:some b≠v.ownBlock):Bx w' b cs t:=(h.by_.block b hb.lt hn).trans hb
theorem Grew.ne {w w':World} {v v':Value} (h:Grew w w' v v') {b:Nat} (hb:b<w.heap.size) (hn:some b≠v.ownBlock):some b≠v'.ownBlock:=by
 rcases h.new with e | ⟨g,e,hg⟩
 ·rw[e];exact hn
 ·rw[e];intro h;cases h;omega
theorem Grew.size {w w':World} {v v':Value} (h:Grew w w' v v'):w.heap.size≤w'.heap.size:=h.by_.size
theorem Grew.below {w w':World} {v v':Value} (h:Grew w w' v v') {B:Nat} (hB:B≤w.heap.size) (hv:∀g,v.ownBlock=some g→B≤g):Below B w w' :=
 ⟨h.by_.os,h.by_.tape,h.by_.output,h.by_.size,fun i hi=>h.by_.block i (gC hi hB) (fun e=>by have:=hv i e.symm;omega)⟩
theorem OwnR.base {w:World} {B n size:Nat} {e:TypeId} {v:Value} {xs:List Value} (ho:OwnR w B e size v n xs):∀g,v.ownBlock=some g→B≤g:=fun g hg=>by
 obtain⟨_,⟨rfl,_⟩ | ⟨g',cap,cur,rfl,h3,_⟩⟩:=ho
 ·simp[Value.ownBlock] at hg
 ·simp[Value.ownBlock] at hg;omega
theorem OwnR.lt {w:World} {B n size:Nat} {e:TypeId} {v:Value} {xs:List Value} (ho:OwnR w B e size v n xs):∀g,v.ownBlock=some g→g<w.heap.size:=fun g hg=>by
 obtain⟨_,⟨rfl,_⟩ | ⟨g',cap,cur,rfl,h3,h4,_⟩⟩:=ho
 ·simp[Value.ownBlock] at hg
 ·simp[Value.ownBlock] at hg;subst hg;exact h4.lt
theorem OwnR.slice {w:World} {B n size:Nat} {e:TypeId} {v:Value} {xs:List Value} (ho:OwnR w B e size v n xs):∃H cap,v=.slice H n cap∧(H=none→n=0∧cap=0)∧(∀a,H=some a→∃g,a=⟨g,0,none⟩)∧n≤cap∧cap≤maxLen:=by
 obtain⟨h1,⟨rfl,rfl⟩ | ⟨g',cap,cur,rfl,h3,h4,h5,h6,_⟩⟩:=ho
 ·exact⟨none,0,rfl,fun _=>⟨rfl,rfl⟩,(fun _ h=>(by cases h)),aA _,by unfold maxLen;omega⟩
 ·exact⟨_,cap,rfl,(fun h=>(by cases h)),(fun a h=>(by cases h;exact⟨_,rfl⟩)),h5,h6⟩
theorem OwnR.cell {w:World} {B n n' size g cap:Nat} {e:TypeId} {xs:List Value} (ho:OwnR w B e size (.slice (some ⟨g,0,none⟩) n' cap) n xs) {j:Nat} {u:Value} (hu:xs[j]?=some u):w.cell? ⟨g,j,none⟩=some u:=by
 obtain⟨h1,⟨h2,_⟩ | ⟨g',cap',cur,h2,h3,h4,h5,h6,h7,h8,_⟩⟩:=ho
 ·cases h2
 ·cases h2;refine h4.cell j u ?_;rw[←h8,rD] at hu;split at hu
  ·simpa using hu
  ·cases hu
def From (w:World) (size:Nat) (x:Value) (m:Nat) (news:List Value):Prop :=
 news.length=m*size∧∃A c,x=.slice A m c∧(A=none→m=0)∧∀a,A=some a→∀j u,news[j]?=some u→w.cell? (a.add j)=some u
theorem From.below {w w':World} {size m:Nat} {x:Value} {news:List Value} (h:From w size x m news) (hb:Below w.heap.size w w':=by go_grown):From w' size x m news:=by
 obtain⟨h1,A,c,rfl,h2,h3⟩:=h;exact⟨h1,A,c,rfl,h2,fun a ha j u hu=>(hb.cell (World.block_lt_of_cell? w _ (h3 a ha j u hu))).trans (h3 a ha j u hu)⟩
theorem From.lit (V:World) (cs:List Value) (e:TypeId) (size:Nat) (hl:cs.length=size):From (V.alloc (.cells cs.toArray e)) size (.slice (some ⟨V.heap.size,0,none⟩) 1 1) 1 cs:=by
 refine⟨zo,_,_,rfl,(fun h=>(by cases h)),fun a ha j u hu=>?_⟩;cases ha;have h1:Bx (V.alloc (.cells cs.toArray e)) V.heap.size cs.toArray e:=Bx.new V _ _;have e:(⟨V.heap.size,0,none⟩:Addr).add j=⟨V.heap.size,j,none⟩:=by unfold Addr.add;split<;>simp_all
 rw[e];exact h1.cell j u (by rw[fF];exact hu)
theorem OwnR.from_ {w:World} {B n size:Nat} {e:TypeId} {v:Value} {xs:List Value} (ho:OwnR w B e size v n xs):From w size v n xs:=by
 obtain⟨h1,⟨rfl,rfl⟩ | ⟨g',cap,cur,rfl,h3,h4,h5,h6,h7,h8,_⟩⟩:=ho
 ·exact⟨h1,none,0,rfl,fun _=>rfl,(fun _ h=>(by cases h))⟩
 ·refine⟨h1,_,cap,rfl,(fun h=>(by cases h)),fun a ha j u hu=>?_⟩;cases ha;have e:(⟨g',0,none⟩:Addr).add j=⟨g',j,none⟩:=by unfold Addr.add;split<;>simp_all
  rw[e];refine h4.cell j u ?_;rw[←h8,rD] at hu;split at hu
  ·simpa using hu
  ·cases hu
theorem run_append_all {P:Program} (w:World) (base:Nat) (t ty e:TypeId) (i:TypeInfo) (z:Value) (size bytes:Nat) (ht:P.underlying t=some (.slice e)) (hi:P.info? e=some i) (hz:i.zero=some z)
  (hsize:i.size=size) (hby:i.bytes=bytes) (hzs:z.cells.size=size) (hzu:NoU z.cells)
  (v:Value) (n:Nat) (xs:List Value) (hown:OwnR w base e size v n xs) (x:Value) (m:Nat) (news:List Value) (hs:From w size x m news) (h1:∀u∈news,u.oneCell'=true) (hnu:∀u∈news,∀n,u≠.int .u64 n)
  (h63:n+m≤maxLen) (hbytes:(n+m)*bytes≤140737488355328) (hbase:base≤w.heap.size) :
  ∃v' w',(Builtin.append_ #[t,t] ty #[v,x]).run P w=.ok v' w'∧OwnR w' base e size v' (n+m) (xs++news)∧Grew w w' v v':=by
 obtain⟨hl,A,c,rfl,hA,hc⟩:=hs;by_cases hm:m=0
 ·subst hm;obtain rfl:news=[]:=rC (by simpa using hl);obtain⟨H,cap,rfl,_,_,h5,_⟩:=hown.slice;have src:Src P i.size t (.slice A 0 c) 0 [] w:=by
   cases A with
   | none=>exact Src.ofNil w ht c
   | some a=>exact Src.ofSlice w ht a 0 c [] (by simp) (by intro j u hu;simp at hu) (by intro u hu;cases hu)
  refine⟨_,_,run_append_nothing w t t ty e i ht hi H n cap h5 _ src,by simpa using hown,⟨rfl,rfl,rfl,aA _,fun _ _ _=>rfl⟩,K64.refl w,.inl rfl⟩
 ·cases A with
  | none=>exact absurd (hA rfl) hm
  | some a =>
   obtain⟨v',w',hr,ho,hg,hk⟩:=run_append_or (P:=P) w base t ty e i z size bytes ht hi hz hsize hby hzs hzu v n xs hown a m c news hl (hc a rfl) h1 hnu zo h63 hbytes hbase;refine⟨v',w',hr,ho,hg,hk,?_⟩;obtain⟨_,h2 | ⟨g',cap,cur,rfl,h3,h4,_⟩⟩:=ho
   ·omega
   ·by_cases hlt:g'<w.heap.size
    ·refine .inl ?_;rcases hown.2 with⟨rfl,rfl⟩ | ⟨g,cap0,cur0,rfl,q3,q4,q5,q6,q7⟩
     ·have hb:=run_append_nil (P:=P) w t ty e i z ht hi hz a m c news (by rw[hsize];exact hl) (hc a rfl) zo (by unfold maxLen at h63;omega) (by have hb:=hbytes;simp only[mC] at hb;rw[hby];omega);rw[hb] at hr;simp only[Result.ok.injEq,Value.slice.injEq,Option.some.injEq,Addr.mk.injEq] at hr
      omega
     ·by_cases hroom:n+m≤cap0
      ·have hfit:n*i.size+news.length≤cur0.size:=by rw[hl,q7.1,hsize,←xB];exact fB _ hroom
       have hb:=run_append_room (P:=P) w t ty e i ht hi g n cap0 cur0 q4 a m c news (by rw[hsize];exact hl) (hc a rfl) h1 hroom hfit;rw[hb] at hr;simp only[Result.ok.injEq,Value.slice.injEq,Option.some.injEq,Addr.mk.injEq] at hr
       simp[Value.ownBlock,hr.1.1.1]
      ·have holds:∀j u,xs[j]?=some u→w.cell? ((⟨g,0,none⟩:Addr).add j)=some u:=hown.owns.cells (g:=g) rfl;have hb:=run_append_grow (P:=P) w t ty e i z ht hi hz ⟨g,0,none⟩ n cap0 xs (by rw[hsize];exact hown.1) holds a m c news (by rw[hsize];exact hl) (hc a rfl) zo (by unfold maxLen at h63;omega) (by rw[hby];exact growslice_fits zo hbytes);rw[hb] at hr;simp only[Result.ok.injEq,Value.slice.injEq,Option.some.injEq,Addr.mk.injEq] at hr
       omega
    ·exact .inr ⟨g',rfl,zo⟩
theorem zAa {w:World} {p:Addr} {v:Value} {o:Obj} (h:w.cell? p=some v):(w.alloc o).cell? p=some v:=((zAe w o).cell (World.block_lt_of_cell? w p h)).trans h
def Ap (u v:Value):Prop:=u.ownBlock=none∨u.ownBlock≠v.ownBlock
theorem Ap.symm {u v:Value} (h:Ap u v):Ap v u:=by
 cases e:v.ownBlock with
 | none=>exact .inl e
 | some g =>
  refine .inr (fun h2=>?_);rcases h with h | h
  ·rw[h,e] at h2;cases h2
  ·exact h h2.symm
theorem Ap.nil (v:Value):Ap (.slice none 0 0) v:=.inl rfl
theorem Grew.ap {w w':World} {v v' u:Value} {B n k:Nat} {e:TypeId} {xs:List Value} (hg:Grew w w' v v') (hu:OwnR w B e k u n xs) (h:Ap u v):Ap u v':=by
 rcases h with h | h
 ·exact .inl h
 ·refine .inr (fun e2=>?_);rcases hg.new with h2 | ⟨g,h2,h3⟩
  ·rw[h2] at e2;exact h e2
  ·rw[h2] at e2;have:=hu.lt g e2;omega
theorem OwnR.far {w W:World} {B n size b:Nat} {e:TypeId} {v:Value} {xs:List Value} (ho:OwnR w B e size v n xs) (far:∀b' cs t',b'≠b→Bx w b' cs t'→Bx W b' cs t') (hb:b<B):OwnR W B e size v n xs:=by
 obtain⟨h1,h2 | ⟨g,cap,cur,rfl,a2,a3,a4⟩⟩:=ho
 ·exact⟨h1,.inl h2⟩
 ·exact⟨h1,.inr ⟨g,cap,cur,rfl,a2,far g cur e zo a3,a4⟩⟩
end Go.Proofs.YtiondclbdgijbaaGreatDoor
