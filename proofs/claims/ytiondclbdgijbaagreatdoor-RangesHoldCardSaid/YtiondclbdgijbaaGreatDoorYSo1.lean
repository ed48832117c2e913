import Derived.Test.YtiondclbdgijbaaGreatDoorYSt2
import Derived.Test.YtiondclbdgijbaaGreatDoorYVm
import Derived.Sort.OwnSortedInts
set_option maxHeartbeats 8000000
set_option maxRecDepth 100000
namespace Go.Proofs.YtiondclbdgijbaaGreatDoor
open Go.Shelf Go.RowKit Go.Lib Go.Sort Tw
variable {u w':World} {M g m:Nat} {t:TypeId} {A:Option Addr} {L:List Tm} {x:Tm} {P:List (Int×Rat)}
theorem elt_term:Elt Tm.cs 5 56 60:=Elt.of (.agg #[.int .i64 0,.bool false,.slice none 0 0,.bool false,.slice none 0 0]) 72 Tryz.underlying56 (by kernel_rfl) zo (by kernel_rfl) (nou_list (by kernel_rfl)) Tm.cs_len
 (fun x u hu=>by simp[Tm.cs] at hu;rcases hu with rfl | rfl | rfl | rfl | rfl<;>rfl) (fun x u hu n=>by simp[Tm.cs] at hu;rcases hu with rfl | rfl | rfl | rfl | rfl<;>simp)
theorem elt_vec:Elt Tm.cs 5 57 60:=Elt.of (.agg #[.int .i64 0,.bool false,.slice none 0 0,.bool false,.slice none 0 0]) 72 Tryz.underlying57 (by kernel_rfl) zo (by kernel_rfl) (nou_list (by kernel_rfl)) Tm.cs_len
 (fun x u hu=>by simp[Tm.cs] at hu;rcases hu with rfl | rfl | rfl | rfl | rfl<;>rfl) (fun x u hu n=>by simp[Tm.cs] at hu;rcases hu with rfl | rfl | rfl | rfl | rfl<;>simp)
theorem stLays : StLays Tryz.prog 5 :=
  { mixed := by kernel_rfl
    tI := Tryz.underlying3, aI := fun _ => rfl, zI := fun _ => rfl, vI := fun _ => rfl
    tB := Tryz.underlying4, aB := fun _ => rfl, zB := fun _ => rfl, vB := fun _ => rfl
    tU := Tryz.underlying141, aU := fun _ => rfl, zU := fun _ => rfl, vU := fun _ => rfl
    tS := Tryz.underlying56, aS := fun _ => rfl, zS := fun _ => rfl, vS := fun _ => rfl
    aE := fun _ => rfl, zE := fun _ => rfl
    f1 := Tryz.func148
    f2 := Tryz.func143
    f3 := Tryz.func131
    f4 := Tryz.func132
    f5 := Tryz.func108
    c1 := fun _ _ => rfl, c2 := fun _ _ => rfl, c3 := fun _ _ => rfl, c4 := fun _ _ => rfl, c5 := fun _ _ => rfl }
theorem isNaN_q (z:Int) (w:World):Calls Tryz.prog 94 #[.int .i64 z] w fun e w'=>e=.returned (.bool false)∧w'=w:=by
 have g:(z != z)=false:=by simp
 go_enter Tryz.func94,Tryz.ntmps94
 go_wp2_with fail
 go_ret
 exact⟨rfl,rfl⟩
def cmpZ (a b:Int):Int:=if a<b then -1 else if b<a then 1 else 0
theorem compare_q (a b z:Int) (hz:Hid (cmpZ a b=z)) (w:World):Calls Tryz.prog 64 #[.int .i64 a,.int .i64 b] w fun e w'=>e=.returned (.int .i64 z)∧w'=w:=by
 replace hz:=hz.out;unfold cmpZ at hz
 by_cases h1:a<b
 ·rw[bB h1] at hz;subst hz;go_enter Tryz.func64,Tryz.ntmps64
  go_wp2_with fail
  with_reducible refine(isNaN_q a w).mono ?_
  rintro e w1 ⟨rfl,rfl⟩;go_wp2_with fail
  with_reducible refine(isNaN_q b w1).mono ?_
  rintro e w2 ⟨rfl,rfl⟩;go_wp2_with fail
  go_ret
  exact⟨rfl,rfl⟩
 ·rw[dA h1] at hz;by_cases h2:b<a
  ·rw[bB h2] at hz;subst hz;go_enter Tryz.func64,Tryz.ntmps64
   go_wp2_with fail
   with_reducible refine(isNaN_q a w).mono ?_
   rintro e w1 ⟨rfl,rfl⟩;go_wp2_with fail
   with_reducible refine(isNaN_q b w1).mono ?_
   rintro e w2 ⟨rfl,rfl⟩;go_wp2_with fail
   go_ret
   exact⟨rfl,rfl⟩
  ·rw[dA h2] at hz;subst hz;go_enter Tryz.func64,Tryz.ntmps64
   go_wp2_with fail
   with_reducible refine(isNaN_q a w).mono ?_
   rintro e w1 ⟨rfl,rfl⟩;go_wp2_with fail
   with_reducible refine(isNaN_q b w1).mono ?_
   rintro e w2 ⟨rfl,rfl⟩;go_wp2_with fail
   go_ret
   exact⟨rfl,rfl⟩
instance:Inhabited Tm:=⟨⟨0,⟨false,none,0,0,false,none,0,0,0,true⟩⟩⟩
def cmpT (x y:Tm):Int:=cmpZ x.at_ y.at_
theorem normCmp_q (x y:Tm) (w:World):Calls Tryz.prog 83 #[.agg x.cs.toArray,.agg y.cs.toArray] w fun e w'=>e=.returned (.int .i64 (cmpT x y))∧∃q os',w'=grow (w.drewN q) os':=by
 show Calls Tryz.prog 83 #[.agg #[.int .i64 x.at_,.bool x.x.s,.slice x.x.A x.x.l x.x.c,.bool x.x.s',.slice x.x.A' x.x.l' x.x.c'],.agg #[.int .i64 y.at_,.bool y.x.s,.slice y.x.A y.x.l y.x.c,.bool y.x.s',.slice y.x.A' y.x.l' y.x.c']] w _
 obtain⟨W,hW,x0,x1,hB⟩:=zAh w #[.int .i64 x.at_,.bool x.x.s,.slice x.x.A x.x.l x.x.c,.bool x.x.s',.slice x.x.A' x.x.l' x.x.c'] 60 #[.int .i64 y.at_,.bool y.x.s,.slice y.x.A y.x.l y.x.c,.bool y.x.s',.slice y.x.A' y.x.l' y.x.c'] 60;obtain⟨z,HZ⟩:∃z,Hid (cmpZ x.at_ y.at_=z):=⟨_,zh rfl⟩;have p0:=x0.cell 0 _ rfl;have p1:=x1.cell 0 _ rfl;go_enter Tryz.func83,Tryz.ntmps83
 go_wp2_with fail
 rw[←hW];have HW:=zh hW;clear hW;go_wp2_with fail
 with_reducible refine(compare_q x.at_ y.at_ z HZ W).mono ?_
 rintro e w1 ⟨rfl,rfl⟩;go_wp2_with fail
 go_ret
 exact⟨by rw[show cmpT x y=z from HZ.out];rfl,0,_,by rw[HW.out,alloc_eq_grow,alloc_eq_grow,grow_grow];rfl⟩
theorem cmpLays (blk off N:Nat) (w0:World):CmpLays Tryz.prog 83 #[] Tm.cs 5 cmpT blk off N w0:=fun m os dk _ x y=>by
 simpa using normCmp_q x y _
theorem cmpT_lt (x y:Tm):ltOf cmpT x y=decide (x.at_<y.at_):=by
 unfold ltOf cmpT cmpZ
 by_cases h1:x.at_<y.at_
 ·rw[bB h1];simp[h1]
 ·rw[dA h1];by_cases h2:y.at_<x.at_
  ·rw[bB h2];simp[h1]
  ·rw[dA h2];simp[h1]
theorem flatK_flat {α:Type} [Inhabited α] {f:α→List Value} {k:Nat} (hk:∀x,(f x).length=k) (d:Array α):(flatK f k d).toList=flat f d.toList:=by
 apply jF
 intro t;have hfl:(flat f d.toList).length=d.size*k:=by rw[flat_len hk];simp
 by_cases ht:t<d.size*k
 ·have k0:0<k:=by
   rcases qC k with h | h
   ·subst h;simp at ht
   ·exact h
  have hi:t / k<d.size:=Nat.div_lt_of_lt_mul (by rw[qB];exact ht);have hj:t % k<k:=fC _ k0;have e:t / k*k+t % k=t:=by rw[qB];exact bC t k
  have hx:d.toList[t / k]?=some d[t / k]!:=by
   rw[dE,nD hi,getElem!_pos d _ hi]
  have h1:=flat_get hk d.toList (t / k) _ hx (t % k) hj;rw[e] at h1;rw[h1,dE,nD (by simpa using ht)];have h2:=get_flatK f k d t ht;rw[getElem!_pos _ _ (by simpa using ht)] at h2;rw[h2,cA (by rw[hk];exact hj),getElem!_pos _ _ (by rw[hk];exact hj)]
 ·rw[cB (by simp;omega),cB zo]
theorem K64.grown {w:World} {cur:Array Value} (h:Bx w g cur t) (hn:NoU cur) (hg:w.grownBy w' (some g)):K64 w w':=fun p k hp=>by
 by_cases e:p.block=g
 ·exfalso
  subst e;obtain⟨b,o,m⟩:=p;unfold World.cell? at hp
  have h':w.heap[b]?=some (.cells cur t (0,0)):=h;simp only[h'] at hp
  cases m with
  | none=>exact hn _ (Array.mem_of_getElem? hp) k rfl
  | some m=>simp at hp
 ·have hlt:=World.block_lt_of_cell? w _ hp;have h1:=hg.block p.block hlt (fun h=>e (Option.some.inj h));rw[←hp];unfold World.cell?
  rw[h1]
theorem own_put {w:World} {B n cap:Nat} {te:TypeId} {xs:List Value} {os:Array Obj} {F:Array Value} {k:Nat} (h:OwnR w B te k (.slice (some ⟨g,0,none⟩) n cap) n xs) (hF:F.size=n*k) (hu:∀u∈F,∀n,u≠.int .u64 n) :
  OwnR (grow (putRow id (Sort.ahead w m) g 0 F) os) B te k (.slice (some ⟨g,0,none⟩) n cap) n F.toList∧Grew w (grow (putRow id (Sort.ahead w m) g 0 F) os) (.slice (some ⟨g,0,none⟩) n cap) (.slice (some ⟨g,0,none⟩) n cap):=by
 obtain⟨h1,⟨h2,_⟩ | ⟨g',cap',cur,h2,h3,h4,h5,h6,h7,h8,h9⟩⟩:=h
 ·cases h2
 ·cases h2;have hb:w.heap[g]?=some (.cells cur te (0,0)):=h4;have hfit:F.size≤cur.size:=by rw[hF,h7];exact fB _ h5
  have hheap:(grow (putRow id (Sort.ahead w m) g 0 F) os).heap[g]?=some (.cells (putCells id 0 F cur) te (0,0)):=by
   have hg:g<w.heap.size:=(wE.1 hb).1;rw[heap_grow_old _ _ (by simpa using hg)];simp[putRow,mapBlock,Sort.ahead,Array.getElem?_modify,hb,onCells]
  have hgb:w.grownBy (grow (putRow id (Sort.ahead w m) g 0 F) os) (some g):=by
   refine⟨rfl,rfl,rfl,by simp,fun k hk hne=>?_⟩;rw[heap_grow_old _ _ (by simpa using hk)];have:g≠k:=fun e=>hne (by rw[e]);simp[putRow,mapBlock,Sort.ahead,Array.getElem?_modify,this]
  refine⟨⟨by simpa using hF,.inr ⟨g,_,putCells id 0 F cur,rfl,h3,hheap,h5,h6,by simpa [putCells] using h7,?_,fun u hx n=>?_⟩⟩,⟨hgb,K64.grown h4 h9 hgb,.inl rfl⟩⟩
  ·rw[←hF];apply jF
   intro j;by_cases hj:j<F.size
   ·rw[List.getElem?_take_of_lt hj,dE,dE];simp[putCells,hj,show j<cur.size by omega]
   ·rw[List.getElem?_take_eq_none zo,cB (by simp;omega)]
  ·obtain⟨j,hj⟩:=Array.getElem?_of_mem hx;simp only[putCells,Array.getElem?_mapIdx] at hj
   cases hc:cur[j]? with
   | none=>rw[hc] at hj;cases hj
   | some v =>
    rw[hc] at hj;simp only[vE,Option.some.injEq] at hj
    split at hj
    ·rename_i hlt
     rw[←hj];refine hu _ ?_ n;rw[Nat.sub_zero,id,getElem!_pos F j zo];exact Array.getElem_mem _
    ·rw[←hj];exact h9 _ (Array.mem_of_getElem? hc) n
theorem swo_t:SWO (ltOf cmpT) :=
 ⟨fun x=>by rw[cmpT_lt];simp,fun x y z h1 h2=>by rw[cmpT_lt] at h1 h2 ⊢;simp at h1 h2 ⊢;omega,fun x y z h1 h2=>by rw[cmpT_lt] at h1 h2 ⊢;simp at h1 h2 ⊢;omega⟩
def SortedT (L:List Tm):Prop:=∀(i j:Nat) (x y:Tm),i<j→L[i]?=some x→L[j]?=some y→x.at_≤y.at_
theorem insertion_nil (cb:Array Value) (g:Nat) (w:World):Calls Tryz.prog 131 #[.slice none 0 0,.int .i64 0,.int .i64 0,.func (.func g) #[] cb] w fun e w'=>e=.returned (.tuple #[])∧w'=w:=by
 go_enter Tryz.func131,Tryz.ntmps131
 go_wp2_with fail
 go_loopg [8] 0 (fun gk s wr=>gk=0∧s=.int .i64 1∧wr=w)
 case atStart=>exact⟨rfl,rfl,rfl⟩
 case round =>
  obtain⟨rfl,rfl,rfl⟩:=hrel;go_wp2_with fail
  go_end0
  exact⟨rfl,rfl⟩
theorem stable_nil (cb:Array Value) (g:Nat) (w:World):Calls Tryz.prog 108 #[.slice none 0 0,.int .i64 0,.func (.func g) #[] cb] w fun e w'=>e=.returned (.tuple #[])∧w'=w:=by
 go_enter Tryz.func108,Tryz.ntmps108
 go_wp2_with fail
 go_loopg [7,8] 0 (fun gk s s8 wr=>gk=0∧s=.int .i64 0∧s8=.int .i64 20∧wr=w)
 case atStart=>exact⟨rfl,rfl,rfl,rfl⟩
 case round =>
  obtain⟨rfl,rfl,rfl,rfl⟩:=hrel;go_wp2_with fail
  with_reducible refine(insertion_nil cb g wr).mono ?_
  rintro e w1 ⟨rfl,rfl⟩;go_wp2_with fail
  go_loopg [6] 0 (fun gk s wr=>gk=0∧s=.int .i64 20∧wr=w1)
  case atStart=>exact⟨rfl,rfl,rfl⟩
  case round =>
   obtain⟨rfl,rfl,rfl⟩:=hrel;go_wp2_with fail
   go_end0
   exact⟨rfl,rfl⟩
theorem sortNil_q (cb:Array Value) (g:Nat) (w:World):Calls Tryz.prog 82 #[.slice none 0 0,.func (.func g) #[] cb] w fun e w'=>e=.returned (.tuple #[])∧w'=w:=by
 go_enter Tryz.func82,Tryz.ntmps82
 go_wp2_with fail
 with_reducible refine(stable_nil cb g w).mono ?_
 rintro e w1 ⟨rfl,rfl⟩;go_wp2_with fail
 go_end0
 exact⟨rfl,rfl⟩
theorem sortFunc_q {w:World} {blk cap N:Nat} {d:Array Tm} (R:RowK Tm.cs 5 w blk 0 d) (hs:d.size=N) (hsz:N<4611686018427387904) :
  Calls Tryz.prog 82 #[.slice (some ⟨blk,0,none⟩) N cap,.func (.func 83) #[] #[]] w (SortedW Tm.cs 5 w blk 0 (ltOf cmpT) 0 N d):=by
 have hc:=stable_q (cap:=cap) stLays Tm.cs 83 #[] blk 0 N d d w w R hs hs (SWK.start R.hH) hsz cmpT (fun _ _=>rfl) (cmpLays blk 0 N w) swo_t;go_enter Tryz.func82,Tryz.ntmps82
 go_wp2_with fail
 with_reducible refine hc.mono ?_
 rintro e w1 ⟨rfl,h⟩;have H:=zh h;clear h;go_wp2_with fail
 go_end0
 exact⟨rfl,H.out⟩
def SortedR (w:World) (B:Nat) (A:Option Addr) (n cap:Nat) (L:List Tm) (e:Ending) (w':World):Prop :=
 e=.returned (.tuple #[])∧∃L':List Tm,L'.Perm L∧SortedT L'∧OwnR w' B 60 5 (.slice A n cap) n (flat Tm.cs L')∧Grew w w' (.slice A n cap) (.slice A n cap)
theorem sort_own {w:World} {B n cap:Nat} (h:OwnR w B 60 5 (.slice A n cap) n (flat Tm.cs L)) (hn:n≤1000000000) :
  Calls Tryz.prog 82 #[.slice A n cap,.func (.func 83) #[] #[]] w (SortedR w B A n cap L):=by
 have hl:=h.eltn elt_term zo;cases A with
 | none =>
  obtain⟨h1,⟨h2,rfl⟩ | ⟨g',cap',cur,h2,_⟩⟩:=id h
  ·cases h2;obtain rfl:=rC hl;refine(sortNil_q #[] 83 w).mono ?_;rintro e w1 ⟨rfl,rfl⟩;exact⟨rfl,[],List.Perm.refl _,fun i j x y _ h=>by simp at h,h,⟨grownBy_refl' w1 _,fun p n hp=>hp,.inl rfl⟩⟩
  ·cases h2
 | some a =>
  obtain⟨_,_,e,_,ha,_⟩:=h.slice;cases e;obtain⟨g,rfl⟩:=ha a rfl;have hfl:∀j,j<(flatK Tm.cs 5 L.toArray).size→(flat Tm.cs L)[j]?=some (flatK Tm.cs 5 L.toArray)[j]!:=fun j hj=>by
   have e:=flatK_flat Tm.cs_len L.toArray;have e2:(flat Tm.cs L)[j]?=(flatK Tm.cs 5 L.toArray).toList[j]?:=by rw[e]
   rw[e2,dE,nD hj,getElem!_pos (flatK Tm.cs 5 L.toArray) j hj]
  have R:RowK Tm.cs 5 w g 0 L.toArray:=⟨Tm.cs_len,fun x v hv=>elt_term.one x v hv,fun j hj=>⟨by rw[mC];exact h.cell (hfl j hj),h.frozen _⟩,h.blk.1⟩;refine(sortFunc_q R (by simpa using hl) zo).mono ?_;rintro e w1 ⟨rfl,d',hp,hs,m,os,rfl⟩;have hsz:d'.size=n:=by rw[hp.1];simpa using hl
  have hF:(flatK Tm.cs 5 d').size=n*5:=by rw[size_flatK,hsz]
  have hu:∀u∈flatK Tm.cs 5 d',∀n,u≠.int .u64 n:=fun u hu n=>by
   have hu2:u∈flat Tm.cs d'.toList:=by rw[←flatK_flat Tm.cs_len];simpa using hu
   obtain⟨x,_,hx⟩:=flat_mem hu2;exact elt_term.nou x u hx n
  have ho:=own_put (m:=m) (os:=os) h hF hu;rw[flatK_flat Tm.cs_len] at ho;refine⟨rfl,d'.toList,?_,?_,ho⟩
  ·have h3:=hp.2.2;rw[Array.extract_eq_self_of_le zo,Array.extract_eq_self_of_le (by simp[hl])] at h3;simpa using h3
  ·intro i j x y hij hx hy;have hj:j<d'.size:=by
    rcases eB j d'.size with h | h
    ·exact h
    ·rw[cB (by simpa using h)] at hy;cases hy
   have h4:=hs i j (uA _) hij zo;rw[cmpT_lt,getElem!_pos d' i zo,getElem!_pos d' j hj] at h4;rw[dE,nD zo] at hx;rw[dE,nD hj] at hy;cases hx;cases hy;simp at h4
   omega
def TellsC (w:World) (n:Nat) (L:List Tm) (e:Ending) (w':World):Prop:=∃H c,e=.returned (.slice H n c)∧OwnR w' w.heap.size 60 5 (.slice H n c) n (flat Tm.cs L)∧Below w.heap.size w w'
theorem clone_t {w:World} {n c:Nat} (h:Sl Tm.cs 5 w A n c L) (hc:A=none→c=0) (hn:n≤1000000000):Calls Tryz.prog 81 #[.slice A n c] w (TellsC w n L):=by
 have q42:∀(w:World) (a:Option Addr) (n c n' c':Nat),(binOp .eql 56 (.slice a n c) (.slice none n' c')).run Tryz.prog w=.ok (.bool a.isNone) w:=fun w a n c n' c'=>Lib.run_eql_slice_nil w _ _ a n c n' c' Tryz.underlying56;cases A with
 | none =>
  obtain rfl:=h.none_len;obtain rfl:=hc rfl;obtain rfl:=rC h.1;clear h hc;go_enter Tryz.func81,Tryz.ntmps81
  go_wp2_with fail
  go_ret
  exact⟨none,0,rfl,OwnR.nil _ _ _ _,Below.refl _ _⟩
 | some ad =>
  obtain⟨W,hW,x0,hB⟩:=zAb w #[] 60;have HS:=zh (h.below hB);have ho:OwnR W w.heap.size 60 5 (.slice (some ⟨w.heap.size,0,none⟩) 0 0) 0 (flat Tm.cs []):=⟨by simp[flat],.inr ⟨w.heap.size,0,#[],rfl,aA _,x0,aA _,by unfold maxLen;omega,by simp,by simp[flat],fun u hu=>by simp at hu⟩⟩;have HO:=zh ho;have hbw:w.heap.size≤W.heap.size:=hB.size;clear h x0 ho hc;go_enter Tryz.func81,Tryz.ntmps81
  go_wp2_with (at_builtin;rw[←hW];refine And.left (b:=True) ?_)
  refine⟨?_,trivial⟩;refine Elt.app elt_term rfl _ _ rfl w.heap.size (.slice (some ⟨w.heap.size,0,none⟩) 0 0) 0 [] rfl HO.out (.slice (some ad) n c) n L rfl HS.out.2 zo hbw ?_;intro H1 c1 w1 ho1 hg1;rw[mC,uE] at ho1;have HO1:=zh ho1;have hb1:Below w.heap.size w w1:=hB.trans (hg1.below hbw (fun g hg=>HO.out.base g hg));clear ho1 hg1 hW HO HS;rw[mC];go_wp2_with fail
  go_ret
  exact⟨H1,c1,rfl,HO1.out,hb1⟩
def nzT (x:Tm):Bool:=decide (x.x.q≠0)
theorem num_sign (q:Rat):(q.num.sign==0)=decide (q=0):=by
 by_cases h:q=0
 ·subst h;rfl
 ·rw[yA h,beq_eq_false_iff_ne];intro e;exact h (Rat.num_eq_zero.1 (Int.sign_eq_zero_iff_zero.1 e))
theorem norm2_q {w:World} (h:FrOk w m x.x) (hm:m≤800000000000) (r:Bool) (hr:Hid (nzT x=r)) :
  Calls Tryz.prog 85 #[.agg #[.int .i64 x.at_,.bool x.x.s,.slice x.x.A x.x.l x.x.c,.bool x.x.s',.slice x.x.A' x.x.l' x.x.c']] w fun e w'=>e=.returned (.bool (!r))∧Below w.heap.size w w':=by
 obtain⟨z,hz⟩:∃z,Hid (x.x.q.num.sign=z):=⟨_,zh rfl⟩;have g1:(z==0)=!r:=by rw[←hz.out,num_sign,←hr.out];unfold nzT;simp
 have HX:=h.r;clear h;obtain⟨W,hW,x0,hB⟩:=zAb w #[.int .i64 x.at_,.bool x.x.s,.slice x.x.A x.x.l x.x.c,.bool x.x.s',.slice x.x.A' x.x.l' x.x.c'] 60;replace HX:=HX.below hB;have HX0:=zh x0;clear x0;have Bz:=zr W;obtain⟨-,pa1,pa2,pa3,pa4,-⟩:=(zx HX0 Bz).cz;go_enter Tryz.func85,Tryz.ntmps85
 go_wp2_with fail
 rw[←hW];clear hW;go_wp2_with fail
 with_reducible refine(sign_q (R.below HX) zo z hz).mono ?_
 rintro e w1 ⟨rfl,b⟩;replace b:=zq (a:=W) b;replace Bz:=bT Bz b;clear b;clear pa1 pa2 pa3 pa4;go_wp2_with fail
 go_ret
 have hF:=bT (c:=w1) hB Bz;exact⟨rfl,bT hF⟩
def ixZ:List Tm→Nat→Int
 | [],_=>-1
 | x :: L,i=>if nzT x=true then ixZ L (i+1) else(i:Int)
theorem ixZ_cases (L:List Tm):∀k,(ixZ L k = -1∧∀x∈L,nzT x=true)∨∃i x,ixZ L k=((k+i:Nat):Int)∧(∀x∈L.take i,nzT x=true)∧L[i]?=some x∧nzT x=false:=by
 induction L with
 | nil=>exact fun k=>.inl ⟨rfl,fun x hx=>by cases hx⟩
 | cons y L ih =>
  intro k;unfold ixZ
  cases hy:nzT y
  ·exact .inr ⟨0,y,by simp,by simp,rfl,hy⟩
  ·rw[bB rfl];rcases ih (k+1) with⟨h1,h2⟩ | ⟨i,x,h1,h2,h3,h4⟩
   ·exact .inl ⟨h1,fun x hx=>by rcases rB.1 hx with rfl | hx;exact hy;exact h2 x hx⟩
   ·exact .inr ⟨i+1,x,by rw[h1];congr 1;omega,fun z hz=>by rw[List.take_succ_cons] at hz;rcases rB.1 hz with rfl | hz;exact hy;exact h2 z hz,by simpa using h3,h4⟩
def IX1 (w:World) (L:List Tm) (r:Int) (n gk:Nat) (s:Value) (wr:World):Prop:=∃i:Nat,i≤n∧n-i=gk∧s=.int .i64 (i:Int)∧Below w.heap.size w wr∧ixZ (L.drop i) i=r
theorem index_q {w:World} {n c:Nat} (h:Sl Tm.cs 5 w A n c L) (hok:Hid (∀x∈L,FrOk w m x.x)) (hm:m≤800000000000) (hn:n≤1000000000) (r:Int) (hr:Hid (ixZ L 0=r)) :
  Calls Tryz.prog 109 #[.slice A n c,.func (.func 85) #[] #[]] w fun e w'=>e=.returned (.int .i64 r)∧Below w.heap.size w w':=by
 have H:=zh h;have HLN:=zh h.1;have hst:IX1 w L r n n (.int .i64 ((0:Nat):Int)) w:=⟨0,uA _,rfl,rfl,Below.refl _ _,hr.out⟩;have HST:=zh hst;clear h hst;go_enter Tryz.func109,Tryz.ntmps109
 go_wp2_with fail
 go_loopg [8] n (fun gk s wr=>IX1 w L r n gk s wr)
 case atStart=>exact HST.out
 case round =>
  clear HST;obtain⟨i,hi,hgk,rfl,hB,hd⟩:=hrel;have HGK:=zh hgk;by_cases hlt:i<n
  ·obtain⟨b,off,rfl,hel⟩:=H.out.at Tm.cs_len zo zo;obtain⟨x,hx⟩:∃x,L[i]?=some x:=⟨L[i]'(by rw[HLN.out];exact hlt),cA _⟩;have hnd:=hel i x hx;have hfx:=hok.out x (eA hx);have e1:L.drop i=x :: L.drop (i+1):=by rw[fD (by rw[HLN.out];exact hlt),(dC.1 hx).2]
   rw[e1] at hd;unfold ixZ at hd
   have i1:(i:Int)<(n:Int):=zo;have i2:(0:Int)≤(i:Int):=zo;clear hx hel e1 hgk;cases hp:nzT x
   ·have HP:=zh hp;rw[dA (by rw[hp];simp)] at hd;have HD2:=zh hd;clear hp hd;have Bz:=zr wr;obtain⟨pA0,pA1,pA2,pA3,pA4,-⟩:=(hnd.below (bT hB Bz)).ez;go_wp2_with fail
    with_reducible refine(norm2_q (x:=x) (hfx.below (bT hB (bT (b:=wr) Bz))) hm false HP).mono ?_
    rintro e w1 ⟨rfl,q⟩;replace q:=zq (a:=wr) q;replace Bz:=bT Bz q;clear q;clear pA0 pA1 pA2 pA3 pA4;go_wp2_with fail
    go_ret
    have hF:=bT (c:=w1) hB Bz;exact⟨by rw[HD2.out];rfl,bT (bT hB Bz)⟩
   ·have HP:=zh hp;rw[bB hp] at hd;have HD2:=zh hd;clear hp hd;have Bz:=zr wr;obtain⟨pA0,pA1,pA2,pA3,pA4,-⟩:=(hnd.below (bT hB Bz)).ez;go_wp2_with fail
    with_reducible refine(norm2_q (x:=x) (hfx.below (bT hB (bT (b:=wr) Bz))) hm true HP).mono ?_
    rintro e w1 ⟨rfl,q⟩;replace q:=zq (a:=wr) q;replace Bz:=bT Bz q;clear q;clear pA0 pA1 pA2 pA3 pA4;go_wp2_with fail
    go_roundg (n-(i+1))
    case measure=>have:=HGK.out;omega
    case rel=>exact⟨i+1,zo,rfl,by go_num,bT (bT hB Bz),HD2.out⟩
  ·obtain rfl:i=n:=zo;have i1:¬(i:Int)<(i:Int):=zo;have e1:L.drop i=[]:=qD (by rw[HLN.out];exact aA _);rw[e1] at hd;have HD2:Hid ((-1:Int)=r):=zh hd;clear hd e1;go_wp2_with fail
   go_ret
   exact⟨by rw[←HD2.out];rfl,hB⟩
theorem bx_tail (vs:List Value):∀{w:World} {g o:Nat} {cur:Array Value},Bx w g cur t→NoU cur→(∀u∈vs,∀n,u≠.int .u64 n)→∃cur',Bx (w.setCells g o vs) g cur' t∧NoU cur'∧cur'.size=cur.size∧(∀m,m≤o→cur'.toList.take m=cur.toList.take m)∧w.grownBy (w.setCells g o vs) (some g):=by
 induction vs with
 | nil=>intro w g o cur h hn _;exact⟨cur,h,hn,rfl,fun _ _=>rfl,grownBy_refl' w _⟩
 | cons v r ih =>
  intro w g o cur h hn hv;obtain⟨cur',h1,h2,h3,h4,h5⟩:=ih (o:=o+1) (h.set o v) (hn.set' o (hv v kB)) (fun u hu=>hv u (jB _ hu));refine⟨cur',h1,h2,by rw[h3];simp,fun m hm=>?_,grown_trans (grown_set (grownBy_refl' w (some g)) (.inl rfl) v) h5⟩;rw[h4 m zo,Array.toList_setIfInBounds,List.take_set,List.set_eq_of_length_le (by rw[mB];omega)]
theorem own_tail {w:World} {B n cap i k:Nat} {te:TypeId} {xs:List Value} (h:OwnR w B te k (.slice (some ⟨g,0,none⟩) n cap) n xs) (hi:i≤n) (vs:List Value) (hv:∀u∈vs,∀n,u≠.int .u64 n) :
  OwnR (w.setCells g (i*k) vs) B te k (.slice (some ⟨g,0,none⟩) i cap) i (xs.take (i*k))∧Grew w (w.setCells g (i*k) vs) (.slice (some ⟨g,0,none⟩) n cap) (.slice (some ⟨g,0,none⟩) i cap):=by
 obtain⟨h1,⟨h2,_⟩ | ⟨g',cap',cur,h2,h3,h4,h5,h6,h7,h8,h9⟩⟩:=h
 ·cases h2
 ·cases h2;obtain⟨cur',k1,k2,k3,k4,k5⟩:=bx_tail (o:=i*k) vs h4 h9 hv;have hik:i*k≤n*k:=fB _ hi;refine⟨⟨by rw[mB,h1,sC hik],.inr ⟨g,_,cur',rfl,h3,k1,zo,h6,by rw[k3,h7],?_,k2⟩⟩,⟨k5,K64.grown h4 h9 k5,.inl rfl⟩⟩;rw[k4 _ (aA _),←h8,List.take_take,sC hik]
theorem cell_0 {w:World} {B n cap:Nat} (h:OwnR w B 60 5 (.slice (some ⟨g,0,none⟩) n cap) n (flat Tm.cs L)) {i:Nat} (hx:L[i]?=some x):w.cell? ⟨g,i*5,none⟩=some (.int .i64 x.at_) :=
 elt_vec.cell h hx (j:=0) (u:=.int .i64 x.at_) zo rfl
theorem tm_store (E:Elt Tm.cs 5 t 60) {w:World} {B n cap i:Nat} (h:OwnR w B 60 5 (.slice (some ⟨g,0,none⟩) n cap) n (flat Tm.cs L)) {y:Tm} (hy:L[i]?=some y) (x:Tm) :
  ∃V,V=((((w.setCell ⟨g,i*5,none⟩ (.int .i64 x.at_)).setCell ⟨g,i*5+1,none⟩ (.bool x.x.s)).setCell ⟨g,i*5+2,none⟩ (.slice x.x.A x.x.l x.x.c)).setCell ⟨g,i*5+3,none⟩ (.bool x.x.s')).setCell ⟨g,i*5+4,none⟩ (.slice x.x.A' x.x.l' x.x.c')∧
   OwnR V B 60 5 (.slice (some ⟨g,0,none⟩) n cap) n (flat Tm.cs (L.set i x))∧Grew w V (.slice (some ⟨g,0,none⟩) n cap) (.slice (some ⟨g,0,none⟩) n cap):=by
 have:=E.sets h hy (y:=x) [(0,.int .i64 x.at_),(1,.bool x.x.s),(2,.slice x.x.A x.x.l x.x.c),(3,.bool x.x.s'),(4,.slice x.x.A' x.x.l' x.x.c')] (fun p hp=>by simp at hp;rcases hp with rfl | rfl | rfl | rfl | rfl<;>exact⟨by simp,by simp⟩) rfl;exact⟨_,rfl,this⟩
theorem run_clear_cells {P:Program} {n:Nat} (w:World) (t e ty:TypeId) (z:Value) (ht:P.underlying t=some (.slice e)) (hv:∀w,(zeroValue e).run P w=.ok z w) (h1:∀u∈(Builtin.zeroCells z.cells n).toList,u.oneCell'=true) (b o c:Nat) (hn:0<n)
  (hc:∀j,j<(Builtin.zeroCells z.cells n).toList.length→(w.cell? ⟨b,o+j,none⟩).isSome=true) (hf:∀j,j<(Builtin.zeroCells z.cells n).toList.length→w.frozen? ⟨b,o+j,none⟩=false) :
  (Builtin.clear_ #[t] ty #[.slice (some ⟨b,o,none⟩) n c]).run P w=.ok (.tuple #[]) (w.setCells b o (Builtin.zeroCells z.cells n).toList):=by
 have hst:=run_storeCells_cells (P:=P) b o (Builtin.zeroCells z.cells n).toList 0 w (by simpa using hc) (by simpa using hf) h1;simp only[bD] at hst
 obtain⟨m,rfl⟩:∃m,n=m+1:=⟨n-1,zo⟩;simp[Builtin.clear_,run_underlying ht,hv,hst]
def KU (u w:World):Prop:=K64 u w
theorem KU.below {w:World} (h:KU u w) (hb:Below w.heap.size w w':=by go_grown):KU u w':=K64.trans h (K64.below hb)
theorem KU.k {w:World} (h:KU u w) (hk:K64 w w'):KU u w':=K64.trans h hk
def DF1 (w u:World) (g n c:Nat) (L:List Tm) (gk:Nat) (s5 s6:Value) (wr:World):Prop :=
 ∃(i j:Nat) (dk:List Tm),s5=.int .i64 (i:Int)∧s6=.int .i64 (j:Int)∧i<j∧j≤n∧n-j≤gk∧OwnR wr w.heap.size 60 5 (.slice (some ⟨g,0,none⟩) n c) n (flat Tm.cs dk)∧dk.take i=(L.take j).filter nzT∧dk.drop j=L.drop j∧KU u wr∧Below w.heap.size w wr
def DelT (w u:World) (A:Option Addr) (c:Nat) (L:List Tm) (e:Ending) (w':World):Prop :=
 ∃n',e=.returned (.slice A n' c)∧OwnR w' w.heap.size 60 5 (.slice A n' c) n' (flat Tm.cs (L.filter nzT))∧KU u w'∧Below w.heap.size w w'
theorem zs_len {z:Value} {k:Nat} (hz:z.cells.size=k) (n:Nat):(Builtin.zeroCells z.cells n).toList.length=n*k:=by rw[Array.length_toList,size_zeroCells,hz]
theorem zero_nou {n:Nat}:∀u∈(Builtin.zeroCells (Value.agg #[.int .i64 0,.bool false,.slice none 0 0,.bool false,.slice none 0 0]).cells n).toList,(∀m,u≠.int .u64 m)∧u.oneCell'=true:=fun u hu=>by
 have hu':u∈Builtin.zeroCells (Value.agg #[.int .i64 0,.bool false,.slice none 0 0,.bool false,.slice none 0 0]).cells n:=by simpa using hu
 unfold Builtin.zeroCells at hu'
 obtain⟨i,_,rfl⟩:=Array.mem_map.1 hu';have h5:i % 5<5:=fC _ zo;show(∀m,(#[Value.int .i64 0,.bool false,.slice none 0 0,.bool false,.slice none 0 0]:Array Value)[i % 5]!≠_)∧_
 have:∀k,k<5→(∀m,(#[Value.int .i64 0,.bool false,.slice none 0 0,.bool false,.slice none 0 0]:Array Value)[k]!≠.int .u64 m)∧((#[Value.int .i64 0,.bool false,.slice none 0 0,.bool false,.slice none 0 0]:Array Value)[k]!).oneCell'=true:=fun k hk=>by
  obtain rfl | rfl | rfl | rfl | rfl:k=0∨k=1∨k=2∨k=3∨k=4:=zo;all_goals exact⟨(fun m e=>(by cases e)),rfl⟩
 exact this _ h5
theorem filter_snoc {j:Nat} (hx:L[j]?=some x) (r:Bool) (hp:nzT x=r):(L.take (j+1)).filter nzT=if r=true then(L.take j).filter nzT++[x] else(L.take j).filter nzT:=by
 rw[zAi hx,List.filter_append];cases r
 ·rw[dA (by simp),List.filter_cons_of_neg (by rw[hp];simp)];simp
 ·rw[bB rfl,List.filter_cons_of_pos hp];rfl
theorem delete_own {w:World} {n c:Nat} (h:OwnR u w.heap.size 60 5 (.slice A n c) n (flat Tm.cs L)) (hok:Hid (∀x∈L,FrOk u m x.x)) (hm:m≤800000000000) (hn:n≤1000000000) (hu:Below w.heap.size w u) :
  Calls Tryz.prog 84 #[.slice A n c,.func (.func 85) #[] #[]] u (DelT w u A c L):=by
 have HL:=zh (h.eltn elt_vec zo);have HSL:=zh (h.sl' elt_vec HL.out);have HO:=zh h;have hcap:=h.cap;rcases ixZ_cases L 0 with⟨h1,h2⟩ | ⟨i0,x0,h1,h2,h3,h4⟩
 ·have e:L.filter nzT=L:=List.filter_eq_self.2 h2;have HE:=zh e;have HR:=zh h1;clear h h1 h2 e;go_enter Tryz.func84,Tryz.ntmps84
  go_wp2_with fail
  with_reducible refine(index_q HSL.out hok hm hn (-1) HR).mono ?_
  rintro e w1 ⟨rfl,b⟩;have hb1:=bT hu b;go_wp2_with fail
  go_ret
  exact⟨n,rfl,by rw[HE.out];exact HO.out.below b,KU.below (fun _ _ hp=>hp) b,hb1⟩
 ·have hi0:i0<n:=by rw[←HL.out];exact(dC.1 h3).1
  obtain⟨g,rfl⟩:=h.some zo;have HR:Hid (ixZ L 0=(i0:Int)):=zh (by rw[h1,mC]);have hst:L.take i0=(L.take (i0+1)).filter nzT:=by rw[filter_snoc h3 false h4,dA (by simp),List.filter_eq_self.2 h2]
  have HST:=zh hst;have g1:((i0:Int)==-1)=false:=by rw[beq_eq_false_iff_ne];omega
  have w1':IntKind.i64.wrap ((i0:Int)+1)=(i0:Int)+1:=IntWalk.i64_in _ zo;clear h h1 h2 h3 h4 hst;go_enter Tryz.func84,Tryz.ntmps84
  go_wp2_with fail
  with_reducible refine(index_q HSL.out hok hm hn (i0:Int) HR).mono ?_
  rintro e w1 ⟨rfl,b⟩;have HB1:=zh (bT hu b);have HO1:=zh (HO.out.below b);have HK1:Hid (KU u w1):=zh (K64.below b);clear hu b;go_wp2_with fail
  go_loopg [5,6] n (fun gk s5 s6 wr=>DF1 w u g n c L gk s5 s6 wr)
  case atStart=>exact⟨i0,i0+1,L,rfl,by go_num,zo,zo,zo,HO1.out.below (by go_grown),HST.out,rfl,HK1.out.below (by go_grown),bT HB1.out⟩
  case round =>
   clear HO1 HB1 HK1;obtain⟨i,j,dk,rfl,rfl,hij,hjn,hgk,ho,ht,hd,hku,hB⟩:=hrel;have HGK:=zh hgk;have HDL:=zh (ho.eltn elt_vec zo);by_cases hlt:j<n
   ·obtain⟨x,hx⟩:∃x,L[j]?=some x:=⟨L[j]'(by rw[HL.out];exact hlt),cA _⟩;obtain⟨y,hy⟩:∃y,dk[i]?=some y:=⟨dk[i]'(by rw[HDL.out];omega),cA _⟩;have hxd:dk[j]?=some x:=by
     have e1:(dk.drop j)[0]?=(L.drop j)[0]?:=by rw[hd]
     simpa [hx] using e1
    have hfx:FrOk wr m x.x:=(hok.out x (eA hx)).k hku;have hd2:dk.drop (j+1)=L.drop (j+1):=by
     have e1:(dk.drop j).drop 1=(L.drop j).drop 1:=by rw[hd]
     simpa [List.drop_drop] using e1
    have HJ:=zh hxd;have HI:=zh hy;have i1:(j:Int)<(n:Int):=zo;have i2:(0:Int)≤(j:Int):=zo;have i3:(0:Int)≤(i:Int):=zo;have i4:(i:Int)<(n:Int):=zo;cases hp:nzT x
    ·have HP:=zh hp;have HT2:Hid (dk.take i=(L.take (j+1)).filter nzT):=zh (by rw[filter_snoc hx false hp,dA (by simp),ht]);have HD2:=zh hd2;clear hp hx hy hxd hd2 ht hd hgk;have Bz:=zr wr;have pA0:=cell_0 ho HJ.out;have pA1:=elt_vec.cell ho HJ.out (j:=1) (u:=.bool x.x.s) zo rfl;have pA2:=elt_vec.cell ho HJ.out (j:=2) (u:=.slice x.x.A x.x.l x.x.c) zo rfl;have pA3:=elt_vec.cell ho HJ.out (j:=3) (u:=.bool x.x.s') zo rfl;have pA4:=elt_vec.cell ho HJ.out (j:=4) (u:=.slice x.x.A' x.x.l' x.x.c') zo rfl;go_upto_region 8 with(fail)
     obtain⟨V1,hW,x0,hN⟩:=zAb wr #[.int .i64 x.at_,.bool x.x.s,.slice x.x.A x.x.l x.x.c,.bool x.x.s',.slice x.x.A' x.x.l' x.x.c'] 60;rw[←hW];clear hW;obtain⟨v0,hb0⟩:=ze wr.heap.size;rw[←hb0] at x0 ⊢;have ow_0:w.heap.size≤v0:=zi (zw hB Bz);replace hfx:=hfx.below hN;replace hku:=hku.below hN;replace ho:=ho.below hN;replace hB:=bT (bT hB Bz) hN;have HX0:=zh x0;clear x0 hN Bz hb0;have Bz:=zr V1;clear pA0 pA1 pA2 pA3 pA4;obtain⟨pa0,pa1,pa2,pa3,pa4,-⟩:=(zx HX0 Bz).cz;go_wp2_with fail
     with_reducible refine(norm2_q (x:=x) (FrOk.below hfx) hm false HP).mono ?_
     rintro e w1 ⟨rfl,b⟩;replace b:=zq (a:=V1) b;replace hku:=hku.below b;replace ho:=ho.below b;replace Bz:=bT Bz b;clear b;clear pa0 pa1 pa2 pa3 pa4;go_wp2_with fail
     go_roundg (n-(j+1))
     case measure=>have:=HGK.out;omega
     case rel=>exact⟨i,j+1,dk,rfl,by go_num,zo,zo,aA _,OwnR.below ho,HT2.out,HD2.out,KU.below hku,bT (bT hB Bz)⟩
    ·have HP:=zh hp;have HT2:Hid ((dk.set i x).take (i+1)=(L.take (j+1)).filter nzT):=zh (by
      rw[filter_snoc hx true hp,bB rfl,zAi (x:=x) (by rw[qF (by rw[HDL.out];omega)]),bG (aA i),ht])
     have HD2:Hid ((dk.set i x).drop (j+1)=L.drop (j+1)):=zh (by rw[List.drop_set_of_lt zo,hd2]);clear hp hx hy hxd hd2 ht hd hgk;have Bz:=zr wr;have pA0:=cell_0 ho HJ.out;have pA1:=elt_vec.cell ho HJ.out (j:=1) (u:=.bool x.x.s) zo rfl;have pA2:=elt_vec.cell ho HJ.out (j:=2) (u:=.slice x.x.A x.x.l x.x.c) zo rfl;have pA3:=elt_vec.cell ho HJ.out (j:=3) (u:=.bool x.x.s') zo rfl;have pA4:=elt_vec.cell ho HJ.out (j:=4) (u:=.slice x.x.A' x.x.l' x.x.c') zo rfl;go_upto_region 8 with(fail)
     obtain⟨V1,hW,x0,hN⟩:=zAb wr #[.int .i64 x.at_,.bool x.x.s,.slice x.x.A x.x.l x.x.c,.bool x.x.s',.slice x.x.A' x.x.l' x.x.c'] 60;rw[←hW];clear hW;obtain⟨v0,hb0⟩:=ze wr.heap.size;rw[←hb0] at x0 ⊢;have ow_0:w.heap.size≤v0:=zi (zw hB Bz);replace hfx:=hfx.below hN;replace hku:=hku.below hN;replace ho:=ho.below hN;replace hB:=bT (bT hB Bz) hN;have HX0:=zh x0;clear x0 hN Bz hb0;have Bz:=zr V1;clear pA0 pA1 pA2 pA3 pA4;obtain⟨pa0,pa1,pa2,pa3,pa4,-⟩:=(zx HX0 Bz).cz;go_wp2_with fail
     with_reducible refine(norm2_q (x:=x) (FrOk.below hfx) hm true HP).mono ?_
     rintro e w1 ⟨rfl,b⟩;replace b:=zq (a:=V1) b;replace hku:=hku.below b;replace ho:=ho.below b;replace Bz:=bT Bz b;clear b;clear pa0 pa1 pa2 pa3 pa4;obtain⟨pa0,pa1,pa2,pa3,pa4,-⟩:=(zx HX0 Bz).cz;have pB0:=cell_0 ho HI.out;have pB1:=elt_vec.cell ho HI.out (j:=1) (u:=.bool y.x.s) zo rfl;have pB2:=elt_vec.cell ho HI.out (j:=2) (u:=.slice y.x.A y.x.l y.x.c) zo rfl;have pB3:=elt_vec.cell ho HI.out (j:=3) (u:=.bool y.x.s') zo rfl;have pB4:=elt_vec.cell ho HI.out (j:=4) (u:=.slice y.x.A' y.x.l' y.x.c') zo rfl;have fB0:=ho.frozen (i*5);have fB1:=ho.frozen (i*5+1);have fB2:=ho.frozen (i*5+2);have fB3:=ho.frozen (i*5+3);have fB4:=ho.frozen (i*5+4);have y51:=ho.blk.1;go_upto_region 10 with(fail)
     obtain⟨V2,hV,ho2,hg2⟩:=tm_store elt_vec ho HI.out x;rw[←hV];clear hV;replace hB:=(bT hB Bz).trans (hg2.below (zi (zw hB Bz)) (fun g' hg'=>ho.base g' hg'));clear HX0;replace hku:=hku.k hg2.k;clear ho;have ho:=ho2;clear ho2 hg2 Bz;have Bz:=zr V2;clear pa0 pa1 pa2 pa3 pa4 pB0 pB1 pB2 pB3 pB4 fB0 fB1 fB2 fB3 fB4 y51;go_wp2_with fail
     go_roundg (n-(j+1))
     case measure=>have:=HGK.out;omega
     case rel=>exact⟨i+1,j+1,dk.set i x,by go_num,by go_num,zo,zo,aA _,OwnR.below ho,HT2.out,HD2.out,KU.below hku,bT (bT hB Bz)⟩
   ·obtain rfl:j=n:=zo;have i1:¬(j:Int)<(j:Int):=zo;have hzl:=zs_len (z:=Value.agg #[.int .i64 0,.bool false,.slice none 0 0,.bool false,.slice none 0 0]) (k:=5) rfl (j-i);have hj5:i*5+(j-i)*5=j*5:=zo;have hcell:∀q,q<(j-i)*5→(wr.cell? ⟨g,i*5+q,none⟩).isSome=true:=fun q hq=>by
     have hlt5:i*5+q<(flat Tm.cs dk).length:=by rw[flat_len Tm.cs_len,HDL.out];omega
     rw[ho.cell (cA hlt5)];rfl
    have hcl:∀ty,(Builtin.clear_ #[57] ty #[.slice (some ⟨g,i*5,none⟩) (j-i) (c-i)]).run Tryz.prog wr=.ok (.tuple #[]) (wr.setCells g (i*5) (Builtin.zeroCells (Value.agg #[.int .i64 0,.bool false,.slice none 0 0,.bool false,.slice none 0 0]).cells (j-i)).toList) :=
     fun ty=>run_clear_cells wr 57 60 ty _ Tryz.underlying57 (fun _=>rfl) (fun u hu=>(zero_nou u hu).2) g (i*5) (c-i) zo (fun q hq=>hcell q (by rw[hzl] at hq;exact hq)) (fun q _=>ho.frozen _)
    have ht2:=own_tail ho (Nat.le_of_lt hij) (Builtin.zeroCells (Value.agg #[.int .i64 0,.bool false,.slice none 0 0,.bool false,.slice none 0 0]).cells (j-i)).toList (fun u hu=>(zero_nou u hu).1);rw[flat_take Tm.cs_len,ht,fA (by rw[HL.out];exact aA _)] at ht2;have HT2:=zh ht2;have HBG:=zh (ht2.2.below hB.size (fun g' hg'=>ho.base g' hg'));have i5:(0:Int)≤(i:Int):=zo;have i6:(i:Int)≤(j:Int):=zo;have i7:(i:Int)≤(c:Int):=zo;clear ht hd ht2 hcell hzl hj5 ho;go_wp2_with fail
    go_ret
    exact⟨i,rfl,HT2.out.1.below (Below.refl _ _),(hku.k HT2.out.2.k).below (Below.refl _ _),bT (hB.trans HBG.out) (Below.refl _ _)⟩
theorem rt_store (E:Elt Tm.cs 5 t 60) {w:World} {B n cap i:Nat} (h:OwnR w B 60 5 (.slice (some ⟨g,0,none⟩) n cap) n (flat Tm.cs L)) {y:Tm} (hy:L[i]?=some y) (r:Fr) :
  ∃V,V=(((w.setCell ⟨g,i*5+1,none⟩ (.bool r.s)).setCell ⟨g,i*5+2,none⟩ (.slice r.A r.l r.c)).setCell ⟨g,i*5+3,none⟩ (.bool r.s')).setCell ⟨g,i*5+4,none⟩ (.slice r.A' r.l' r.c')∧
   OwnR V B 60 5 (.slice (some ⟨g,0,none⟩) n cap) n (flat Tm.cs (L.set i ⟨y.at_,r⟩))∧Grew w V (.slice (some ⟨g,0,none⟩) n cap) (.slice (some ⟨g,0,none⟩) n cap):=by
 have:=E.sets h hy (y:=⟨y.at_,r⟩) [(1,.bool r.s),(2,.slice r.A r.l r.c),(3,.bool r.s'),(4,.slice r.A' r.l' r.c')] (fun p hp=>by simp at hp;rcases hp with rfl | rfl | rfl | rfl<;>exact⟨by simp,by simp⟩) rfl;exact⟨_,rfl,this⟩
theorem wsum_le {T:List Tm} {i:Nat} {t:Tm} (h:T[i]?=some t) (a:Int):wsum (T.take i) a≤wsum (T.take (i+1)) a:=by rw[wsum_snoc h];omega
theorem wsum_take_le (T:List Tm) (i:Nat) (a:Int):wsum (T.take i) a≤wsum T a:=by
 have h:=wsum_append (T.take i) (T.drop i) a;rw[mD] at h;omega
def NS1 (w:World) (gt n ct:Nat) (T:List Tm) (gk:Nat) (s4 s14:Value) (wr:World):Prop :=
 ∃(i k:Nat) (H:Option Addr) (hc:Nat) (O:List Tm),s14=.int .i64 (i:Int)∧s4=.slice H k hc∧i≤n∧n-i=gk∧OwnR wr w.heap.size 60 5 (.slice H k hc) k (flat Tm.cs O)∧OwnR wr w.heap.size 60 5 (.slice (some ⟨gt,0,none⟩) n ct) n (flat Tm.cs T)∧
  Ap (.slice H k hc) (.slice (some ⟨gt,0,none⟩) n ct)∧Grp (prs O) (prs T) i∧OnT wr O (wsum (T.take i))∧OkT wr T∧Below w.heap.size w wr
theorem last_of {α:Type} {L:List α} {k:Nat} (h:L.length=k+1) {x:α} (hx:L[k]?=some x):L.getLast?=some x:=by rw[List.getLast?_eq_getElem?,h];exact hx
def TellsVO (w:World) (P:List (Int×Rat)) (M:Nat) (e:Ending) (w':World):Prop :=
 ∃A n c L,e=.returned (.slice A n c)∧OwnR w' w.heap.size 60 5 (.slice A n c) n (flat Tm.cs L)∧OnT w' L (fun _=>M)∧prs L=P∧Below w.heap.size w w'
theorem TellsVO.v {w:World} {e:Ending} (h:TellsVO w P M e w'):TellsV w P M e w':=by
 obtain⟨A,n,c,L,rfl,h1,h2,h3,h4⟩:=h;refine⟨A,n,c,rfl,⟨L,h1.sl' elt_vec (h1.eltn elt_vec zo),h2,h3,fun hn=>?_⟩,h4⟩;obtain⟨_,_,e9,h9,_⟩:=h1.slice;cases e9;exact(h9 hn).2
theorem sorted_prs {T:List Tm} {i:Nat} (h:SortedT T) (hx:T[i]?=some x):∀y∈(prs T).take i,y.1≤x.at_:=fun y hy=>by
 rw[prs_take] at hy;obtain⟨t,ht,rfl⟩:=prs_mem hy;obtain⟨j,hj⟩:=nE ht;rw[rD] at hj;split at hj
 ·exact h j i t x (by assumption) hj hx
 ·cases hj
theorem normO_q {w:World} {n c:Nat} (h:GV w A n c P M) (hM:M≤19000000000) (hn:n≤1000000) (hT:Hid (Tab w)) :
  Calls Tryz.prog 52 #[.slice A n c] w (TellsVO w (nrm P) M):=by
 obtain⟨L,h1,h2,rfl,h4,h5⟩:=h;have HL:=zh h1.1;have HOK:=zh h2;have HWS:=zh h4;have hcl:=clone_t h1 h5 zo;clear h1 h2 h4 h5;go_enter Tryz.func52,Tryz.ntmps52
 go_wp2_with fail
 with_reducible refine hcl.mono ?_
 rintro e w1 ⟨H1,c1,rfl,ho1,b⟩;have hso:=sort_own ho1 zo;have HOK1:=zh (HOK.out.below b);clear hcl HOK ho1;go_wp2_with fail
 with_reducible refine hso.mono ?_
 rintro e w2 ⟨rfl,T,hp,hs,hoT,hg⟩;have HPM:=zh hp;have HSR:=zh hs;have HB2:Hid (Below w.heap.size w w2):=zh (b.trans (hg.below b.size (fun g hg'=>hoT.base g hg')));have HKT:Hid (OkT w2 T):=zh fun t ht=>((HOK1.out t (hp.mem_iff.1 ht)).k hg.k);have HWT:Hid (∀a,wsum T a≤M):=zh fun a=>by rw[wsum_perm hp];exact HWS.out a
 have HPR:Hid (nrm (prs T)=nrm (prs L)):=zh (nrm_ext fun a=>pget_perm (hp.map _) a);have HOT:=zh hoT;have HTL:=zh (hoT.eltn elt_term zo);clear hso b HOK1 hp hs hg HWS hoT HL;cases H1 with
 | none =>
  obtain⟨_,_,e0,h0,_⟩:=HOT.out.slice;cases e0;obtain⟨rfl,rfl⟩:=h0 rfl;have HT0:Hid (T=[]):=zh (rC HTL.out);clear h0;go_wp2_with fail
  go_loopg [4,14] 0 (fun gk s4 s14 wr=>gk=0∧s4=.slice none 0 0∧s14=.int .i64 0∧wr=w2)
  case atStart=>exact⟨rfl,rfl,rfl,rfl⟩
  case round =>
   obtain⟨rfl,rfl,rfl,rfl⟩:=hrel;have hd:=delete_own (w:=w) (u:=wr) (c:=0) (n:=0) (A:=none) (m:=0) (L:=[]) (OwnR.nil _ _ _ _) (zh fun x hx=>by cases hx) zo zo HB2.out;go_wp2_with fail
   with_reducible refine hd.mono ?_
   rintro e w3 ⟨n3,rfl,ho3,ku3,b3⟩;have HO3:=zh ho3;clear ho3 ku3 hd;go_wp2_with fail
   go_ret
   exact⟨_,_,_,[],rfl,HO3.out,OnT.nil _ _,by rw[←HPR.out,HT0.out];rfl,b3⟩
 | some at0 =>
  obtain⟨_,ct,e0,_,h0,_⟩:=HOT.out.slice;cases e0;obtain⟨gt,rfl⟩:=h0 at0 rfl;clear h0;go_wp2_with fail
  go_loopg [4,14] n (fun gk s4 s14 wr=>NS1 w gt n c1 T gk s4 s14 wr)
  case atStart=>exact⟨0,0,none,0,[],rfl,rfl,uA _,rfl,OwnR.nil _ _ _ _,HOT.out,Ap.nil _,Grp.start _,OnT.nil _ _,HKT.out,HB2.out⟩
  case round =>
   clear HOT HKT HB2;obtain⟨i,k,H,hc,O,rfl,rfl,hi,hgk,hoO,hoT,apOT,hgr,honO,hokT,hB⟩:=hrel;have HGK:=zh hgk;have HGR:=zh hgr;have HOL:=zh (hoO.eltn elt_vec zo);have hki:k≤i:=by have:=hgr.len;rw[prs_len,HOL.out] at this;exact this
   clear hgk hgr;by_cases hlt:i<n
   ·obtain⟨x,hx⟩:∃x,T[i]?=some x:=⟨T[i]'(by rw[HTL.out];exact hlt),cA _⟩;have hrx:R wr x.x.s x.x.A x.x.c x.x.l x.x.s' x.x.A' x.x.c' x.x.l' x.x.q (dgT x):=(hokT x (eA hx)).r;have hdx:dgT x+2≤M:=wA (wsum_mem (eA hx)) (HWT.out _);have hsx:sz x.x.q≤dgT x+1:=(hokT x (eA hx)).szd;have hso:=sorted_prs HSR.out hx;have hpx:=prs_get hx;have HTI:=zh hx;have HSO:=zh hso;have HPX:=zh hpx;have apTO:=apOT.symm;have i1:(i:Int)<(n:Int):=zo;have i2:(0:Int)≤(i:Int):=zo;clear hx hso hpx;cases k with
    | zero =>
     have hO:O=[]:=rC HOL.out;have HG2:Hid (∀r:Fr,r.q=x.x.q→Grp (prs (O++[⟨x.at_,r⟩])) (prs T) (i+1)):=zh (fun r hr=>by
      rw[prs_append,show prs [(⟨x.at_,r⟩:Tm)]=[(x.at_,x.x.q)] from by rw[←hr];rfl];exact HGR.out.new (t:=(x.at_,x.x.q)) HPX.out HSO.out (fun l hl=>by rw[hO] at hl;cases hl))
     have HS1:Hid (sz x.x.q+1≤wsum (T.take (i+1)) x.at_):=zh (by rw[wsum_snoc HTI.out,bB rfl];omega);clear hO;have Bz:=zr wr;have pK0:=cell_0 hoT HTI.out;have pK1:=elt_vec.cell hoT HTI.out (j:=1) (u:=.bool x.x.s) zo rfl;have pK2:=elt_vec.cell hoT HTI.out (j:=2) (u:=.slice x.x.A x.x.l x.x.c) zo rfl;have pK3:=elt_vec.cell hoT HTI.out (j:=3) (u:=.bool x.x.s') zo rfl;have pK4:=elt_vec.cell hoT HTI.out (j:=4) (u:=.slice x.x.A' x.x.l' x.x.c') zo rfl;go_upto_region 7 with(fail)
     obtain⟨V1,hW,x0,hN⟩:=zAb wr #[.int .i64 x.at_,.bool x.x.s,.slice x.x.A x.x.l x.x.c,.bool x.x.s',.slice x.x.A' x.x.l' x.x.c'] 60;rw[←hW];clear hW;obtain⟨v0,hb0⟩:=ze wr.heap.size;rw[←hb0] at x0 ⊢;have ow_0:w.heap.size≤v0:=zi (zw hB Bz);replace hokT:=hokT.below hN;replace honO:=honO.below hN;replace hoO:=hoO.below hN;replace hoT:=hoT.below hN;replace hrx:=hrx.below hN;replace hB:=bT (bT hB Bz) hN;have HX0:=zh x0;clear x0 hN Bz hb0;have Bz:=zr V1;clear pK0 pK1 pK2 pK3 pK4;obtain⟨pa0,pa1,pa2,pa3,pa4,-⟩:=(zx HX0 Bz).cz;go_wp2_with fail
     (try simp only[vAa,vBa,vC])
     refine zl (zz [0,1,2,3,4,5,6,7,8,9,10,11,12] .done) [] zn ?_;iterate 3 (refine zUa ?_;try simp only[uW,uX,uY,uZ])
     iterate 9 (refine zN rfl rfl ?_;try simp only[uW,uX,uY,uZ])
     refine zUa ?_;try simp only[uW,uX,uY,uZ]
     refine wpPlan_done ?_;go_wp2_with fail
     (try simp only[vAa,vBa,vC])
     refine zl (.pure 0 (.pure 1 (.take 2 (.pure 3 (.take 4 (.only 5 (.pure 6 (.only 7 (.only 8 (.pure 9 .done)))))))))) [8] (zsa pa0 (zsa pa1 (zsa pa2 (zsa pa3 (zIa pa4))))) ?_;iterate 5 ((first|refine zV ?_|refine zUa ?_);try simp only[uW,uX,uY,uZ])
     refine zC 52 rfl rfl (fun K hK=>?_);go_simp
     with_reducible refine(norm_q (R.below hrx) zo (zt hT hB Bz)).mono ?_
     rintro e w1 ⟨s1,A1,c1,l1,s1r,A1r,c1r,l1r,rfl,h1,b⟩;replace b:=zq (a:=V1) b;replace hokT:=hokT.below b;replace honO:=honO.below b;replace hoO:=hoO.below b;replace hoT:=hoT.below b;replace Bz:=bT Bz b;clear b;clear pa0 pa1 pa2 pa3 pa4;obtain⟨pa0,pa1,pa2,pa3,pa4,-⟩:=(zx HX0 Bz).cz;refine hK.out _ _ ⟨pa0,pa1,pa2,pa3,pa4⟩ (fun _=>?_);try simp only[uW,uX,uY,uZ]
     clear hK K;refine zV ?_;try simp only[uW,uX,uY,uZ]
     refine zC 54 rfl rfl (fun K hK=>?_);go_simp
     refine hK.out _ _ ⟨(zAa pa0),(zAa pa1),(zAa pa2),(zAa pa3),(zAa pa4)⟩ (fun _=>?_);try simp only[uW,uX,uY,uZ]
     clear hK K;refine wpPlan_late (o:=⟨some 55,_,_,_,_,_⟩) rfl rfl zd (fun K hK=>?_);obtain⟨V2,hW,x1,hN⟩:=zAb w1 #[.int .i64 x.at_,.bool s1,.slice A1 l1 c1,.bool s1r,.slice A1r l1r c1r] 60;rw[←hW];clear hW;obtain⟨v1,hb1⟩:=ze w1.heap.size;rw[←hb1] at x1 ⊢;have o0_1:v0<v1:=zi (zx HX0 Bz).lt;have ow_1:w.heap.size≤v1:=zi (zw hB Bz);replace h1:=h1.below hN;replace hokT:=hokT.below hN;replace honO:=honO.below hN;replace hoO:=hoO.below hN;replace hoT:=hoT.below hN;replace hB:=bT (bT hB Bz) hN;replace HX0:=zba HX0 Bz hN;have HX1:=zh x1;clear x1 hN Bz hb1;have Bz:=zr V2;clear pa0 pa1 pa2 pa3 pa4;have hdr:V2.drew.heap.size=V2.heap.size:=rfl;have hdr2:V2.drew.drew.heap.size=V2.heap.size:=rfl;refine Elt.wp elt_vec _ _ rfl (w.heap.size) (.slice H 0 hc) (0) (O) rfl hoO (.slice (some ⟨v1,0,none⟩) 1 1) (1) ([⟨x.at_,⟨s1,A1,c1,l1,s1r,A1r,c1r,l1r,x.x.q,true⟩⟩]) rfl (From.one (HX1.out.below (bT Bz)) (⟨x.at_,⟨s1,A1,c1,l1,s1r,A1r,c1r,l1r,x.x.q,true⟩⟩) rfl (elt_vec.len _)) zo (zi (zw hB Bz)) ?_;intro H2 c2 w2 ho2 hg2;refine hK.out _ _ ?_;try simp only[uW,uX,uY,uZ]
     clear hK K;replace hB:=(bT (bT hB Bz)).trans (hg2.below (zi (zw hB Bz)) (fun g hg=>by have:=hoO.base g hg;omega));clear HX0;clear HX1;have apTO':=hg2.ap hoT apTO;have apOT':=apTO'.symm;replace hoT:=hoT.grown hg2 apTO;clear apTO apOT;have apTO:=apTO';have apOT:=apOT';clear apTO' apOT';clear hdr hdr2;replace h1:=h1.k hg2.k;replace hokT:=hokT.k hg2.k;replace honO:=honO.k hg2.k;clear hg2 Bz;have Bz:=zr w2;refine zV ?_;try simp only[uW,uX,uY,uZ]
     refine wpPlan_done ?_;go_wp2_with fail
     have hs1:=HS1.out;go_roundg (n-(i+1))
     case measure=>have:=HGK.out;omega
     case rel=>exact⟨i+1,0+1,_,_,_,by go_num,rfl,zo,rfl,OwnR.below ho2,OwnR.below hoT,apOT,HG2.out _ rfl,((OnT.below honO).mono fun t _=>wsum_le HTI.out _).snoc (RN.below h1) rfl hs1,OkT.below hokT,bT (bT hB Bz)⟩
    | succ k =>
     obtain⟨g,rfl⟩:=hoO.some zo;obtain⟨y,hy⟩:∃y,O[k]?=some y:=⟨O[k]'(by rw[HOL.out];omega),cA _⟩;have HOK:=zh hy;have hyn:=honO y (eA hy);have hys:sz y.x.q+1≤wsum (T.take i) y.at_:=hyn.2.2;have hym:sz y.x.q+1≤M:=wA hys (wA (wsum_take_le _ _ _) (HWT.out _));have hry:R wr y.x.s y.x.A y.x.c y.x.l y.x.s' y.x.A' y.x.c' y.x.l' y.x.q (sz y.x.q):=hyn.1.r;have hlast:(prs O).getLast?=some (y.at_,y.x.q):=last_of (by rw[prs_len,HOL.out]) (prs_get hy);have HLA:=zh hlast;have i5:(0:Int)<(k:Int)+1:=zo;have i6:(0:Int)≤(k:Int):=zo;have i7:(k:Int)<(k:Int)+1:=zo;have w6:IntKind.i64.wrap ((k:Int)+1-1)=(k:Int):=by rw[IntWalk.i64_in _ zo];omega
     have w7:IntKind.i64.wrap (k:Int)=(k:Int):=IntWalk.i64_in _ zo;clear hy hyn hlast;by_cases hq:y.at_=x.at_
     ·have g1:(y.at_==x.at_)=true:=by simpa using hq
      have HG2:Hid (∀r:Fr,r.q=y.x.q+x.x.q→Grp (prs (O.set k ⟨y.at_,r⟩)) (prs T) (i+1)):=zh (fun r hr=>by
       rw[prs_set,show((⟨y.at_,r⟩:Tm).at_,(⟨y.at_,r⟩:Tm).x.q)=(y.at_,y.x.q+x.x.q) from by rw[←hr]];have h:=HGR.out.same (t:=(x.at_,x.x.q)) HPX.out HLA.out hq;rw[prs_len,HOL.out,xD] at h;exact h)
      have HS1:Hid (sz (y.x.q+x.x.q)+1≤wsum (T.take (i+1)) y.at_):=zh (by
       have:=sz_add (aA (sz y.x.q)) hsx;rw[wsum_snoc HTI.out,bB hq.symm];omega)
      clear hq;have Bz:=zr wr;have pK0:=cell_0 hoT HTI.out;have pK1:=elt_vec.cell hoT HTI.out (j:=1) (u:=.bool x.x.s) zo rfl;have pK2:=elt_vec.cell hoT HTI.out (j:=2) (u:=.slice x.x.A x.x.l x.x.c) zo rfl;have pK3:=elt_vec.cell hoT HTI.out (j:=3) (u:=.bool x.x.s') zo rfl;have pK4:=elt_vec.cell hoT HTI.out (j:=4) (u:=.slice x.x.A' x.x.l' x.x.c') zo rfl;go_upto_region 7 with(fail)
      obtain⟨V1,hW,x0,hN⟩:=zAb wr #[.int .i64 x.at_,.bool x.x.s,.slice x.x.A x.x.l x.x.c,.bool x.x.s',.slice x.x.A' x.x.l' x.x.c'] 60;rw[←hW];clear hW;obtain⟨v0,hb0⟩:=ze wr.heap.size;rw[←hb0] at x0 ⊢;have ow_0:w.heap.size≤v0:=zi (zw hB Bz);replace hokT:=hokT.below hN;replace honO:=honO.below hN;replace hoO:=hoO.below hN;replace hoT:=hoT.below hN;replace hrx:=hrx.below hN;replace hry:=hry.below hN;replace hB:=bT (bT hB Bz) hN;have HX0:=zh x0;clear x0 hN Bz hb0;have Bz:=zr V1;clear pK0 pK1 pK2 pK3 pK4;obtain⟨pa0,pa1,pa2,pa3,pa4,-⟩:=(zx HX0 Bz).cz;have pL0:=cell_0 hoO HOK.out;have pL1:=elt_vec.cell hoO HOK.out (j:=1) (u:=.bool y.x.s) zo rfl;have pL2:=elt_vec.cell hoO HOK.out (j:=2) (u:=.slice y.x.A y.x.l y.x.c) zo rfl;have pL3:=elt_vec.cell hoO HOK.out (j:=3) (u:=.bool y.x.s') zo rfl;have pL4:=elt_vec.cell hoO HOK.out (j:=4) (u:=.slice y.x.A' y.x.l' y.x.c') zo rfl;have fL1:=hoO.frozen (k*5+1);have fL2:=hoO.frozen (k*5+2);have fL3:=hoO.frozen (k*5+3);have fL4:=hoO.frozen (k*5+4);have y61:=hoO.blk.1;go_wp2_with fail
      (try simp only[vAa,vBa,vC])
      refine zl (zz [0,1,2,3,4,5,6,7,8,9,10,11,12] .done) [] (zsa pa0 (zIa pL0)) ?_;iterate 13 (refine zUa ?_;try simp only[uW,uX,uY,uZ])
      refine wpPlan_done ?_;go_wp2_with fail
      (try simp only[vAa,vBa,vC])
      refine zl (.pure 0 (.pure 1 (.pure 2 (.pure 3 (.pure 4 (.pure 5 (.pure 6 (.pure 7 (.take 8 (.pure 9 (.take 10 (.only 11 (.pure 12 (.pure 13 (.only 14 .done))))))))))))))) [14] (zsa pa1 (zsa pa2 (zsa pa3 (zsa pa4 (zsa pL1 (zsa pL2 (zsa pL3 (zIa pL4)))))))) ?_;iterate 11 ((first|refine zV ?_|refine zUa ?_);try simp only[uW,uX,uY,uZ])
      refine zC 44 rfl rfl (fun K hK=>?_);go_simp
      with_reducible refine(add_q (R.below hry) (R.below hrx) zo (zt hT hB Bz)).mono ?_
      rintro e w1 ⟨s1,A1,c1,l1,s1r,A1r,c1r,l1r,rfl,h1,b⟩;replace b:=zq (a:=V1) b;replace hokT:=hokT.below b;replace honO:=honO.below b;replace hoO:=hoO.below b;replace hoT:=hoT.below b;replace Bz:=bT Bz b;clear b;clear pa0 pa1 pa2 pa3 pa4 pL0 pL1 pL2 pL3 pL4 fL1 fL2 fL3 fL4 y61;obtain⟨-,pa1,pa2,pa3,pa4,-⟩:=(zx HX0 Bz).cz;have pL1:=elt_vec.cell hoO HOK.out (j:=1) (u:=.bool y.x.s) zo rfl;have pL2:=elt_vec.cell hoO HOK.out (j:=2) (u:=.slice y.x.A y.x.l y.x.c) zo rfl;have pL3:=elt_vec.cell hoO HOK.out (j:=3) (u:=.bool y.x.s') zo rfl;have pL4:=elt_vec.cell hoO HOK.out (j:=4) (u:=.slice y.x.A' y.x.l' y.x.c') zo rfl;have fL1:=hoO.frozen (k*5+1);have fL2:=hoO.frozen (k*5+2);have fL3:=hoO.frozen (k*5+3);have fL4:=hoO.frozen (k*5+4);have y61:=hoO.blk.1;refine hK.out _ _ ⟨pa1,pa2,pa3,pa4,pL1,pL2,pL3,pL4⟩ (fun _=>?_);try simp only[uW,uX,uY,uZ]
      clear hK K;iterate 2 (refine zV ?_;try simp only[uW,uX,uY,uZ])
      refine wpPlan_late (o:=⟨none,_,_,_,_,_⟩) rfl rfl zd (fun K hK=>?_);go_simp
      refine hK.out _ _ ?_;try simp only[Act.put,uX,uY,uZ]
      clear hK K;obtain⟨V2,hV,ho2,hg2⟩:=rt_store elt_vec hoO HOK.out ⟨s1,A1,c1,l1,s1r,A1r,c1r,l1r,y.x.q+x.x.q,true⟩;rw[←hV];clear hV;replace hB:=(bT hB Bz).trans (hg2.below (zi (zw hB Bz)) (fun g' hg'=>hoO.base g' hg'));clear HX0;replace h1:=h1.k hg2.k;replace hokT:=hokT.k hg2.k;replace honO:=honO.k hg2.k;replace hoT:=hoT.grown hg2 apTO;clear hoO;have hoO:=ho2;clear ho2 hg2 Bz;have Bz:=zr V2;clear pa1 pa2 pa3 pa4 pL1 pL2 pL3 pL4 fL1 fL2 fL3 fL4 y61;refine wpPlan_done ?_;go_wp2_with fail
      have hs1:=HS1.out;go_roundg (n-(i+1))
      case measure=>have:=HGK.out;omega
      case rel=>exact⟨i+1,k+1,_,_,_,by go_num,rfl,zo,rfl,OwnR.below hoO,OwnR.below hoT,apOT,HG2.out _ rfl,((OnT.below honO).mono fun t _=>wsum_le HTI.out _).set k (RN.below h1) rfl hs1,OkT.below hokT,bT (bT hB Bz)⟩
     ·have g1:(y.at_==x.at_)=false:=by simpa using hq
      have HG2:Hid (∀r:Fr,r.q=x.x.q→Grp (prs (O++[⟨x.at_,r⟩])) (prs T) (i+1)):=zh (fun r hr=>by
       rw[prs_append,show prs [(⟨x.at_,r⟩:Tm)]=[(x.at_,x.x.q)] from by rw[←hr];rfl];exact HGR.out.new (t:=(x.at_,x.x.q)) HPX.out HSO.out (fun l hl=>by rw[HLA.out] at hl;cases hl;exact hq))
      have HS1:Hid (sz x.x.q+1≤wsum (T.take (i+1)) x.at_):=zh (by rw[wsum_snoc HTI.out,bB rfl];omega);clear hq;have Bz:=zr wr;have pK0:=cell_0 hoT HTI.out;have pK1:=elt_vec.cell hoT HTI.out (j:=1) (u:=.bool x.x.s) zo rfl;have pK2:=elt_vec.cell hoT HTI.out (j:=2) (u:=.slice x.x.A x.x.l x.x.c) zo rfl;have pK3:=elt_vec.cell hoT HTI.out (j:=3) (u:=.bool x.x.s') zo rfl;have pK4:=elt_vec.cell hoT HTI.out (j:=4) (u:=.slice x.x.A' x.x.l' x.x.c') zo rfl;go_upto_region 7 with(fail)
      obtain⟨V1,hW,x0,hN⟩:=zAb wr #[.int .i64 x.at_,.bool x.x.s,.slice x.x.A x.x.l x.x.c,.bool x.x.s',.slice x.x.A' x.x.l' x.x.c'] 60;rw[←hW];clear hW;obtain⟨v0,hb0⟩:=ze wr.heap.size;rw[←hb0] at x0 ⊢;have ow_0:w.heap.size≤v0:=zi (zw hB Bz);replace hokT:=hokT.below hN;replace honO:=honO.below hN;replace hoO:=hoO.below hN;replace hoT:=hoT.below hN;replace hrx:=hrx.below hN;replace hB:=bT (bT hB Bz) hN;have HX0:=zh x0;clear x0 hN Bz hb0;have Bz:=zr V1;clear pK0 pK1 pK2 pK3 pK4;obtain⟨pa0,pa1,pa2,pa3,pa4,-⟩:=(zx HX0 Bz).cz;have pL0:=cell_0 hoO HOK.out;go_wp2_with fail
      (try simp only[vAa,vBa,vC])
      refine zl (zz [0,1,2,3,4,5,6,7,8,9,10,11,12] .done) [] (zsa pa0 (zIa pL0)) ?_;iterate 13 (refine zUa ?_;try simp only[uW,uX,uY,uZ])
      refine wpPlan_done ?_;go_wp2_with fail
      (try simp only[vAa,vBa,vC])
      refine zl (.pure 0 (.pure 1 (.take 2 (.pure 3 (.take 4 (.only 5 (.pure 6 (.only 7 (.only 8 (.pure 9 .done)))))))))) [8] (zsa pa0 (zsa pa1 (zsa pa2 (zsa pa3 (zIa pa4))))) ?_;iterate 5 ((first|refine zV ?_|refine zUa ?_);try simp only[uW,uX,uY,uZ])
      refine zC 52 rfl rfl (fun K hK=>?_);go_simp
      with_reducible refine(norm_q (R.below hrx) zo (zt hT hB Bz)).mono ?_
      rintro e w1 ⟨s1,A1,c1,l1,s1r,A1r,c1r,l1r,rfl,h1,b⟩;replace b:=zq (a:=V1) b;replace hokT:=hokT.below b;replace honO:=honO.below b;replace hoO:=hoO.below b;replace hoT:=hoT.below b;replace Bz:=bT Bz b;clear b;clear pa0 pa1 pa2 pa3 pa4 pL0;obtain⟨pa0,pa1,pa2,pa3,pa4,-⟩:=(zx HX0 Bz).cz;refine hK.out _ _ ⟨pa0,pa1,pa2,pa3,pa4⟩ (fun _=>?_);try simp only[uW,uX,uY,uZ]
      clear hK K;refine zV ?_;try simp only[uW,uX,uY,uZ]
      refine zC 54 rfl rfl (fun K hK=>?_);go_simp
      refine hK.out _ _ ⟨(zAa pa0),(zAa pa1),(zAa pa2),(zAa pa3),(zAa pa4)⟩ (fun _=>?_);try simp only[uW,uX,uY,uZ]
      clear hK K;refine wpPlan_late (o:=⟨some 55,_,_,_,_,_⟩) rfl rfl zd (fun K hK=>?_);obtain⟨V2,hW,x1,hN⟩:=zAb w1 #[.int .i64 x.at_,.bool s1,.slice A1 l1 c1,.bool s1r,.slice A1r l1r c1r] 60;rw[←hW];clear hW;obtain⟨v1,hb1⟩:=ze w1.heap.size;rw[←hb1] at x1 ⊢;have o0_1:v0<v1:=zi (zx HX0 Bz).lt;have ow_1:w.heap.size≤v1:=zi (zw hB Bz);replace h1:=h1.below hN;replace hokT:=hokT.below hN;replace honO:=honO.below hN;replace hoO:=hoO.below hN;replace hoT:=hoT.below hN;replace hB:=bT (bT hB Bz) hN;replace HX0:=zba HX0 Bz hN;have HX1:=zh x1;clear x1 hN Bz hb1;have Bz:=zr V2;clear pa0 pa1 pa2 pa3 pa4;have hdr:V2.drew.heap.size=V2.heap.size:=rfl;have hdr2:V2.drew.drew.heap.size=V2.heap.size:=rfl;refine Elt.wp elt_vec _ _ rfl (w.heap.size) (.slice (some ⟨g,0,none⟩) (k+1) hc) (k+1) (O) rfl hoO (.slice (some ⟨v1,0,none⟩) 1 1) (1) ([⟨x.at_,⟨s1,A1,c1,l1,s1r,A1r,c1r,l1r,x.x.q,true⟩⟩]) rfl (From.one (HX1.out.below (bT Bz)) (⟨x.at_,⟨s1,A1,c1,l1,s1r,A1r,c1r,l1r,x.x.q,true⟩⟩) rfl (elt_vec.len _)) zo (zi (zw hB Bz)) ?_;intro H2 c2 w2 ho2 hg2;refine hK.out _ _ ?_;try simp only[uW,uX,uY,uZ]
      clear hK K;replace hB:=(bT (bT hB Bz)).trans (hg2.below (zi (zw hB Bz)) (fun g hg=>by have:=hoO.base g hg;omega));clear HX0;clear HX1;have apTO':=hg2.ap hoT apTO;have apOT':=apTO'.symm;replace hoT:=hoT.grown hg2 apTO;clear apTO apOT;have apTO:=apTO';have apOT:=apOT';clear apTO' apOT';clear hdr hdr2;replace h1:=h1.k hg2.k;replace hokT:=hokT.k hg2.k;replace honO:=honO.k hg2.k;clear hg2 Bz;have Bz:=zr w2;refine zV ?_;try simp only[uW,uX,uY,uZ]
      refine wpPlan_done ?_;go_wp2_with fail
      have hs1:=HS1.out;go_roundg (n-(i+1))
      case measure=>have:=HGK.out;omega
      case rel=>exact⟨i+1,k+1+1,_,_,_,by go_num,rfl,zo,rfl,OwnR.below ho2,OwnR.below hoT,apOT,HG2.out _ rfl,((OnT.below honO).mono fun t _=>wsum_le HTI.out _).snoc (RN.below h1) rfl hs1,OkT.below hokT,bT (bT hB Bz)⟩
   ·obtain rfl:i=n:=zo;have i1:¬(i:Int)<(i:Int):=zo;have hok:∀x∈O,FrOk wr M x.x:=honO.fr fun a=>wA (wsum_take_le _ _ _) (HWT.out a);have hd:=delete_own (w:=w) (u:=wr) hoO (zh hok) zo zo hB;have HDN:=zh (HGR.out.done (by rw[prs_len,HTL.out];exact aA _));have HON:=zh honO;clear hok honO hoT hokT;go_wp2_with fail
    with_reducible refine hd.mono ?_
    rintro e w3 ⟨n3,rfl,ho3,ku3,b3⟩;have HO3:=zh ho3;have HN3:=zh (HON.out.k ku3);clear ho3 ku3 hd;go_wp2_with fail
    go_ret
    refine⟨_,_,_,O.filter nzT,rfl,HO3.out,fun t ht=>?_,?_,b3⟩
    ·have h6:=HN3.out t (List.mem_filter.1 ht).1;exact⟨h6.1,h6.2.1,wA h6.2.2 (wA (wsum_take_le _ _ _) (HWT.out _))⟩
    ·rw[←HPR.out,HDN.out];exact filter_prs O fun x=>decide (x.2≠0)
theorem normV_q {w:World} {n c:Nat} (h:GV w A n c P M) (hM:M≤19000000000) (hn:n≤1000000) (hT:Hid (Tab w)) :
  Calls Tryz.prog 52 #[.slice A n c] w (TellsV w (nrm P) M):=(normO_q h hM hn hT).mono fun _ _ k=>k.v
end Go.Proofs.YtiondclbdgijbaaGreatDoor
