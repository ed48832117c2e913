import Derived.Test.YtiondclbdgijbaaGreatDoorYZNum
import Derived.Test.YtiondclbdgijbaaGreatDoorRows
import Derived.WalkKit
import Derived.WalkSpells
import Derived.WalkLawsBesides
import Derived.Lib.Hide
import Derived.Laws.CopyOwn
import Derived.Deep.OwnRows
import Derived.Deep.Draws
import Derived.Deep.QuietTactic
import Derived.BigQuiet
set_option maxHeartbeats 4000000
set_option maxRecDepth 100000
namespace Go.Proofs.YtiondclbdgijbaaGreatDoor
open Go.RowKit Tw
theorem ret_int {k:IntKind} {a b:Int} (h:a=b):Ending.returned (.int k a)=.returned (.int k b):=by rw[h]
theorem quiet_at {P:Program} {f:FuncId} {args:Array Value} {w:World} {n:Nat} {v:Value} (h:Calls P f args (w.drewN n) fun e w'=>e=.returned v∧w.drewN n=w') :
  Calls P f args (w.drewN n) fun e w''=>e=.returned v∧∃m,w''=w.drewN m:=h.mono fun _ _ ⟨he,hm⟩=>⟨he,n,hm.symm⟩
theorem quiet_at2 {P:Program} {f:FuncId} {args:Array Value} {w:World} {a n:Nat} {v:Value} (h:Calls P f args (w.drewN (a+n)) fun e w'=>e=.returned v∧w.drewN (a+n)=w') :
  Calls P f args (w.drewN (a+n)) fun e w''=>e=.returned v∧∃m,w''=w.drewN (a+m):=h.mono fun _ _ ⟨he,hm⟩=>⟨he,n,hm.symm⟩
structure Nums (w:World) (A:Option Addr) (c:Nat) (xs:List Nat):Prop where
 ok:Ok xs
 le:xs.length≤c
 cells:0<xs.length→∃b off,A=some ⟨b,off,none⟩∧∀k,k<xs.length→w.cell? ⟨b,off+k,none⟩=some (.int .u64 (dg xs k))
theorem Nums.keep {w w':World} {A:Option Addr} {c:Nat} {xs:List Nat} (h:Nums w A c xs) (hk:∀p v,(∃a,A=some a∧a.block=p.block)→w.cell? p=some v→w'.cell? p=some v):Nums w' A c xs :=
 ⟨h.ok,h.le,fun hp=>by
  obtain⟨b,off,rfl,hc⟩:=h.cells hp;exact⟨b,off,rfl,fun k hkl=>hk _ _ ⟨_,rfl,rfl⟩ (hc k hkl)⟩⟩
theorem Nums.below {w w':World} {A:Option Addr} {c:Nat} {xs:List Nat} (h:Nums w A c xs) (hb:Below w.heap.size w w'):Nums w' A c xs :=
 h.keep fun p _ _ hc=>(hb.cell (World.block_lt_of_cell? w p hc)).trans hc
theorem Nums.drewN {w:World} {A:Option Addr} {c:Nat} {xs:List Nat} (h:Nums w A c xs) (n:Nat):Nums (w.drewN n) A c xs:=⟨h.ok,h.le,h.cells⟩
theorem Nums.drew {w:World} {A:Option Addr} {c:Nat} {xs:List Nat} (h:Nums w A c xs):Nums w.drew A c xs:=⟨h.ok,h.le,h.cells⟩
theorem Nums.grown {w w':World} {A:Option Addr} {c:Nat} {xs:List Nat} {row:Option Nat} (h:Nums w A c xs) (hg:w.grownBy w' row) (hA:∀a,A=some a→some a.block≠row):Nums w' A c xs :=
 h.keep fun p _ ⟨a,ha,hp⟩ hc=>hg.cell hc (by rw[←hp];exact hA a ha)
def Off (A:Option Addr) (xs:List Nat) (g:Nat):Prop:=0<xs.length→∀a,A=some a→a.block≠g
theorem Nums.off {w:World} {A:Option Addr} {c g:Nat} {xs:List Nat} (h:Nums w A c xs) (hg:w.heap.size≤g):Off A xs g:=fun hp a ha=>by
 obtain⟨b,o,rfl,hc⟩:=h.cells hp;have:=World.block_lt_of_cell? w _ (hc 0 hp);cases ha;simp at this ⊢
 omega
theorem Nums.grownOff {w w':World} {A:Option Addr} {c g:Nat} {xs:List Nat} (h:Nums w A c xs) (hg:w.grownBy w' (some g)) (hA:Off A xs g):Nums w' A c xs :=
 ⟨h.ok,h.le,fun hp=>by
  obtain⟨b,off,rfl,hc⟩:=h.cells hp;exact⟨b,off,rfl,fun k hkl=>hg.cell (hc k hkl) (by simpa using hA hp _ rfl)⟩⟩
theorem Nums.nil (w:World) (A:Option Addr) (c:Nat):Nums w A c []:=⟨Ok.nil,uA _,fun h=>absurd h (by simp)⟩
theorem Nums.front {w:World} {A:Option Addr} {c:Nat} {xs:List Nat} (h:Nums w A c xs) (n:Nat):Nums w A c (xs.take n) :=
 ⟨h.ok.take n,wA (by simp[List.length_take];omega) h.le,fun hp=>by
  rw[mB] at hp;obtain⟨b,off,rfl,hc⟩:=h.cells zo;refine⟨b,off,rfl,fun k hk=>?_⟩;rw[mB] at hk;rw[hc k zo];unfold dg
  rw[qA,qA,rD,bB zo]⟩
def cellsOf (ys:List Nat):Array Value:=(ys.map fun(y:Nat)=>Value.int .u64 (y:Int)).toArray
def Row (w:World) (g:Nat) (ys:List Nat):Prop:=w.heap[g]?=some (.cells (cellsOf ys) 114 (0,0))
section
variable {w w':World} {g:Nat} {ys:List Nat}
theorem Row.lt (h:Row w g ys):g<w.heap.size:=(wE.1 h).1
theorem Row.cell (h:Row w g ys) {k:Nat} (hk:k<ys.length):w.cell? ⟨g,k,none⟩=some (.int .u64 (dg ys k)):=by
 rw[cell_of_row w g k _ _ _ h];unfold cellsOf
 rw[fF,mA,dg_get hk];rfl
theorem Row.frozen (h:Row w g ys) (k:Nat):w.frozen? ⟨g,k,none⟩=false:=frozen_of_row w g k _ _ h
theorem Row.set (h:Row w g ys) (k x:Nat):Row (w.setCell ⟨g,k,none⟩ (.int .u64 (x:Int))) g (ys.set k x):=by
 have:=heap_setCell_same w g k _ _ (.int .u64 (x:Int)) h;unfold Row
 rw[this];congr 2
 unfold cellsOf
 rw[jC,List.map_set]
theorem Row.far (h:Row w g ys) {p:Addr} (hp:g≠p.block) (u:Value):Row (w.setCell p u) g ys:=(heap_setCell_other w p g u hp).trans h
theorem Row.alloc (h:Row w g ys) (o:Obj):Row (w.alloc o) g ys:=(Below.heap_alloc w o g h.lt).trans h
theorem Row.below (h:Row w g ys) {B:Nat} (hb:Below B w w') (hB:g<B):Row w' g ys:=(hb.block g hB).trans h
theorem Row.grown (h:Row w g ys) {row:Option Nat} (hb:w.grownBy w' row) (hg:some g≠row):Row w' g ys:=(hb.block g h.lt hg).trans h
theorem Row.new (w:World) (ys:List Nat):Row (w.alloc (.cells (cellsOf ys) 114)) w.heap.size ys:=heap_alloc_new w _
theorem Row.drewN (h:Row w g ys) (n:Nat):Row (w.drewN n) g ys:=h
theorem Row.drew (h:Row w g ys):Row w.drew g ys:=h
theorem Row.nums (h:Row w g ys) (ho:Ok ys):Nums w (some ⟨g,0,none⟩) ys.length ys :=
 ⟨ho,aA _,fun _=>⟨g,0,rfl,fun k hk=>by rw[mC];exact h.cell hk⟩⟩
end
theorem cells_zero (n:Nat):madeCells #[.int .u64 0] n=cellsOf (List.replicate n 0):=by
 apply Array.ext'
 rw[toList_madeCells_one];simp[cellsOf,List.map_replicate]
theorem grown_below {w w':World} (h:Below w.heap.size w w') (row:Option Nat):w.grownBy w' row:=⟨h.os,h.tape,h.output,h.size,fun i hi _=>h.block i hi⟩
theorem grown_trans {a b c:World} {row:Option Nat} (h:a.grownBy b row) (k:b.grownBy c row):a.grownBy c row :=
 ⟨k.os.trans h.os,k.tape.trans h.tape,k.output.trans h.output,wA h.size k.size,fun i hi hn=>(k.block i (gC hi h.size) hn).trans (h.block i hi hn)⟩
theorem grown_drewN {a b:World} {row:Option Nat} (h:a.grownBy b row) (n:Nat):a.grownBy (b.drewN n) row:=⟨h.os,h.tape,h.output,h.size,h.block⟩
theorem grown_drew {a b:World} {row:Option Nat} (h:a.grownBy b row):a.grownBy b.drew row:=⟨h.os,h.tape,h.output,h.size,h.block⟩
theorem grown_set {a b:World} {row:Option Nat} (h:a.grownBy b row) {p:Addr} (hp:row=some p.block∨a.heap.size≤p.block) (u:Value):a.grownBy (b.setCell p u) row :=
 ⟨h.os,h.tape,h.output,by simpa [World.setCell] using h.size,fun i hi hn=>(heap_setCell_other b p i u (by
  rintro rfl;rcases hp with hp | hp
  ·exact hn hp.symm
  ·omega)).trans (h.block i hi hn)⟩
theorem below_drewN {B:Nat} {a w:World} (h:Below B a w) (n:Nat):Below B a (w.drewN n):=⟨h.os,h.tape,h.output,h.size,h.block⟩
theorem below_trans {a b c:World} (h:Below a.heap.size a b) (k:Below b.heap.size b c):Below a.heap.size a c:=h.trans (k.mono h.size)
theorem uX (l:List Value) (i:Nat) (v:Value):l.toArray.setIfInBounds i v=(l.set i v).toArray:=jC l i v
theorem uY (x:Value) (l:List Value) (v:Value):(x :: l).set 0 v=v :: l:=rfl
theorem uZ (x:Value) (l:List Value) (n:Nat) (v:Value):(x :: l).set (n+1) v=x :: l.set n v:=rfl
theorem uW (a:Act) (d:Tmp) (v:Value):a.put (some d) v={ a with tmps:=a.tmps.setIfInBounds d v }:=rfl
theorem zh {p:Prop} (h:p):Hid p:=Lib.hid h
theorem zw {n k:Nat} {a b c:World} (h:Below n a b) (h':Below k b c):a.heap.size≤c.heap.size:=wA h.size h'.size
theorem below_row {a b c:World} {g:Nat} (h:Below a.heap.size a b) (k:b.grownBy c (some g)) (hg:a.heap.size≤g):Below a.heap.size a c :=
 h.trans ⟨k.os,k.tape,k.output,k.size,fun i hi=>k.block i (gC hi h.size) (by simp;omega)⟩
def Own (w:World) (B:Nat) (A:Option Addr) (c n:Nat):Prop :=
 (n=0∧A=none∧c=0)∨(n≠0∧∃g ys,A=some ⟨g,0,none⟩∧B≤g∧Row w g ys∧ys.length=c∧nl n≤c∧ys.take (nl n)=limbs n∧Ok ys)
theorem Own.nums {w:World} {B:Nat} {A:Option Addr} {c n:Nat} (h:Own w B A c n):Nums w A c (limbs n):=by
 rcases h with⟨rfl,rfl,rfl⟩ | ⟨_,g,ys,rfl,_,hr,rfl,hl,ht,ho⟩
 ·rw[limbs_zero];exact Nums.nil _ _ _
 ·rw[←ht];exact(hr.nums ho).front _
theorem Own.grown {w w':World} {B:Nat} {A:Option Addr} {c n:Nat} {row:Option Nat} (h:Own w B A c n) (hg:w.grownBy w' row) (hA:∀a,A=some a→some a.block≠row):Own w' B A c n:=by
 rcases h with h | ⟨h0,g,ys,rfl,hB,hr,h2⟩
 ·exact .inl h
 ·exact .inr ⟨h0,g,ys,rfl,hB,hr.grown hg (hA _ rfl),h2⟩
theorem Own.below {w w':World} {B:Nat} {A:Option Addr} {c n:Nat} (h:Own w B A c n) (hb:Below w.heap.size w w'):Own w' B A c n :=
 h.grown (grown_below hb none) (by simp)
theorem Own.mono {w:World} {B B':Nat} {A:Option Addr} {c n:Nat} (h:Own w B A c n) (hB:B'≤B):Own w B' A c n:=by
 rcases h with h | ⟨h0,g,ys,rfl,hB',h2⟩
 ·exact .inl h
 ·exact .inr ⟨h0,g,ys,rfl,zo,h2⟩
def OwnAt (w:World) (g:Nat) (A:Option Addr) (c n:Nat):Prop :=
 (n=0∧A=none∧c=0)∨(n≠0∧A=some ⟨g,0,none⟩∧∃ys,Row w g ys∧ys.length=c∧nl n≤c∧ys.take (nl n)=limbs n∧Ok ys)
theorem OwnAt.own {w:World} {g B:Nat} {A:Option Addr} {c n:Nat} (h:OwnAt w g A c n) (hB:B≤g):Own w B A c n:=by
 rcases h with h | ⟨h0,h1,ys,h2⟩
 ·exact .inl h
 ·exact .inr ⟨h0,g,ys,h1,hB,h2⟩
def Ret (w:World) (n:Nat) (e:Ending) (w':World):Prop:=∃A c,e=.returned (.slice A (nl n) c)∧Own w' w.heap.size A c n∧Below w.heap.size w w'
theorem used_any (A:Option Addr) (c:Nat) (xs:List Nat) (w:World) (h:Nums w A c xs) (hs:xs.length≤4000000000000) :
  Calls Tryz.prog 95 #[.slice A xs.length c] w fun e w'=>e=.returned (.int .i64 (nl (val xs)))∧w=w':=by
 obtain⟨ho,hc,hcl⟩:=h;have HO:=zh ho;have HC:=zh hcl;clear ho hcl;go_enter Tryz.func95,Tryz.ntmps95
 go_wp2
 go_loop [3] (fun t=>∃k:Nat,k≤xs.length∧t=.int .i64 k∧ZeroFrom xs k) (fun t=>(intOf t).toNat)
 case atStart=>exact⟨xs.length,aA _,rfl,ZeroFrom.start xs⟩
 case round =>
  obtain⟨k,hk,rfl,hz⟩:=hrel;rcases qC k with rfl | hkp
  ·go_wp2
   go_ret
   exact⟨ret_int (zi (hz.done HO.out zo (.inl rfl))),rfl⟩
  ·obtain⟨j,rfl⟩:∃j,k=j+1:=⟨k-1,zo⟩;obtain⟨b,off,rfl,hcell⟩:=HC.out zo;have hcell:=hcell j zo;by_cases hd:dg xs j=0
   ·have hd1:(((dg xs j:Nat):Int)==0)=true:=by simp[hd]
    have HD:=zh hd;clear hd;go_wp2
    go_round
    case rel=>exact⟨j,zo,by go_num,hz.down HD.out⟩
    case measure=>simp[intOf]
   ·have hd1:(((dg xs j:Nat):Int)==0)=false:=by simp[hd]
    have HD:=zh hd;clear hd;go_wp2
    go_ret
    exact⟨ret_int (zi (hz.done HO.out zo (.inr HD.out))),rfl⟩
def cmpI (x y:Int):Int:=if x<y then -1 else if y<x then 1 else 0
theorem cmpI_lt {x y:Int} (h:x<y):cmpI x y = -1:=by simp[cmpI,h]
theorem cmpI_gt {x y:Int} (h:y<x):cmpI x y=1:=by unfold cmpI;rw[dA zo,bB h]
theorem cmpI_eq (x:Int):cmpI x x=0:=by simp[cmpI]
theorem compare_int (x y:Int) (w:World):Calls Tryz.prog 64 #[.int .i64 x,.int .i64 y] w fun e w'=>e=.returned (.int .i64 (cmpI x y))∧w=w':=by
 rcases qE x y with h | h | h
 ·have HE:=zh (cmpI_lt h);go_enter Tryz.func64,Tryz.ntmps64
  go_wp2
  go_ret
  exact⟨ret_int HE.out.symm,rfl⟩
 ·subst h;have HE:=zh (cmpI_eq x);go_enter Tryz.func64,Tryz.ntmps64
  go_wp2
  go_ret
  exact⟨ret_int HE.out.symm,rfl⟩
 ·have HE:=zh (cmpI_gt h);go_enter Tryz.func64,Tryz.ntmps64
  go_wp2
  go_ret
  exact⟨ret_int HE.out.symm,rfl⟩
theorem compare_u64 (x y:Int) (w:World):Calls Tryz.prog 96 #[.int .u64 x,.int .u64 y] w fun e w'=>e=.returned (.int .i64 (cmpI x y))∧w=w':=by
 rcases qE x y with h | h | h
 ·have HE:=zh (cmpI_lt h);go_enter Tryz.func96,Tryz.ntmps96
  go_wp2
  go_ret
  exact⟨ret_int HE.out.symm,rfl⟩
 ·subst h;have HE:=zh (cmpI_eq x);go_enter Tryz.func96,Tryz.ntmps96
  go_wp2
  go_ret
  exact⟨ret_int HE.out.symm,rfl⟩
 ·have HE:=zh (cmpI_gt h);go_enter Tryz.func96,Tryz.ntmps96
  go_wp2
  go_ret
  exact⟨ret_int HE.out.symm,rfl⟩
def Tid (A:Option Addr) (c n:Nat) (A':Option Addr) (c':Nat):Prop:=(n=0∧A'=none∧c'=0)∨(n≠0∧A'=A∧c'=c)
def TidyPost (w:World) (A:Option Addr) (c n:Nat) (e:Ending) (w':World):Prop:=∃A' c',e=.returned (.slice A' (nl n) c')∧Tid A c n A' c'∧w=w'
theorem tidy_any (A:Option Addr) (c:Nat) (xs:List Nat) (w:World) (h:Nums w A c xs) (hs:xs.length≤4000000000000) :
  Calls Tryz.prog 99 #[.slice A xs.length c] w (TidyPost w A c (val xs)):=by
 have hl:=nl_val h.ok;have hu:=fun W (hW:Nums W A c xs)=>used_any A c xs W hW hs;have HU:=zh hu;have hle:=h.le;by_cases h0:val xs=0
 ·have h1:(((nl (val xs):Nat):Int)==0)=true:=by simp[h0,nl_zero]
  have HT:Hid (TidyPost w A c (val xs) (.returned (.slice none 0 0)) w):=⟨none,0,by rw[h0];rfl,.inl ⟨h0,rfl,rfl⟩,rfl⟩;clear h0 hu;go_enter Tryz.func99,Tryz.ntmps99
  go_wp2_with (go_at_call 95;refine(HU.out _ h).mono ?_;rintro e w' ⟨rfl,rfl⟩)
  go_ret
  exact HT.out
 ·have h1:(((nl (val xs):Nat):Int)==0)=false:=by simp[nl_eq_zero,h0]
  have hp:0<nl (val xs):=by rcases qC (nl (val xs)) with e | e;exact absurd (nl_eq_zero.1 e) h0;exact e
  have HT:Hid (TidyPost w A c (val xs) (.returned (.slice A (nl (val xs)) c)) w):=⟨A,c,rfl,.inr ⟨h0,rfl,rfl⟩,rfl⟩;obtain⟨b,off,rfl,hcell⟩:=h.cells zo;clear h0 hu hcell;go_enter Tryz.func99,Tryz.ntmps99
  go_wp2_with (go_at_call 95;refine(HU.out _ h).mono ?_;rintro e w' ⟨rfl,rfl⟩)
  go_ret
  exact HT.out
theorem tidy_at (g k:Nat) (zs:List Nat) (w:World) (h:Row w g zs) (ho:Ok zs) (hk:k≤zs.length) (hs:k≤4000000000000) (n:Nat) (hn:val (zs.take k)=n) :
  Calls Tryz.prog 99 #[.slice (some ⟨g,0,none⟩) k zs.length] w fun e w'=>∃A c,e=.returned (.slice A (nl n) c)∧OwnAt w g A c n∧w=w':=by
 have hlen:(zs.take k).length=k:=by rw[mB];omega
 have hN:=(h.nums ho).front k;have ht:=tidy_any _ _ _ _ hN (by rw[hlen];omega);rw[hlen,hn] at ht;refine ht.mono fun e w' ⟨A,c,he,hT,hw⟩=>⟨A,c,he,?_,hw⟩;have hln:nl n≤k:=by rw[←hn];have:=nl_val (ho.take k);omega
 rcases hT with⟨h0,rfl,rfl⟩ | ⟨h0,rfl,rfl⟩
 ·exact .inl ⟨h0,rfl,rfl⟩
 ·refine .inr ⟨h0,rfl,zs,h,rfl,zo,?_,ho⟩;have:=limbs_take (ho.take k);rw[hn,List.take_take,sC hln] at this;exact this
theorem tidy_row (g k:Nat) (zs:List Nat) (w:World) (h:Row w g zs) (ho:Ok zs) (hk:k≤zs.length) (hs:k≤4000000000000) (B n:Nat) (hB:B≤g) (hn:val (zs.take k)=n) :
  Calls Tryz.prog 99 #[.slice (some ⟨g,0,none⟩) k zs.length] w fun e w'=>∃A c,e=.returned (.slice A (nl n) c)∧Own w B A c n∧w=w' :=
 (tidy_at g k zs w h ho hk hs n hn).mono fun _ _ ⟨A,c,he,ha,hw⟩=>⟨A,c,he,ha.own hB,hw⟩
theorem u64_info:(Tryz.prog.info? 114).map (fun i=>(i.zero,i.size,i.bytes))=some (some (.int .u64 0),1,8):=by kernel_rfl
theorem u64_size:(Tryz.prog.info? 114).map (·.size)=some 1:=by kernel_rfl
theorem und_words:Tryz.prog.underlying 43=some (.slice 114):=Tryz.underlying43
theorem make_words (n:Nat) (hn:n≤8000000000000) (w:World) :
  (Instr.makeSlice 43 (.int .i64 (n:Int)) (.int .i64 (n:Int))).run Tryz.prog w=.ok (.slice (some ⟨w.heap.size,0,none⟩) n n) (w.alloc (.cells (cellsOf (List.replicate n 0)) 114)):=by
 rw[←cells_zero];exact run_make_row' 43 114 (.int .u64 0) 8 und_words u64_info rfl .i64 .i64 n zo zo w
theorem splice_all (n:Nat) (xs:List Nat) (h:xs.length=n):splice (cellsOf (List.replicate n 0)).toList 0 (cellsOf xs).toList=(cellsOf xs).toList:=by
 unfold splice cellsOf
 simp[h]
theorem oneCell_cellsOf (xs:List Nat):∀v∈(cellsOf xs).toList,v.oneCell'=true:=by
 intro v hv;simp only[cellsOf,xC] at hv
 obtain⟨y,_,rfl⟩:=hv;rfl
theorem src_cells {w W:World} {A:Option Addr} {c:Nat} {xs:List Nat} (h:Nums w A c xs) (hW:Below w.heap.size w W) (hp:0<xs.length) :
  ∃ad,A=some ad∧∀j v,(cellsOf (limbs (val xs))).toList[j]?=some v→W.cell? (ad.add j)=some v:=by
 obtain⟨b,off,rfl,hcell⟩:=(h.below hW).cells hp;refine⟨_,rfl,fun j v hv=>?_⟩;have hl:=nl_val h.ok;have hj:j<nl (val xs):=by
  rcases eB j (nl (val xs)) with hj | hj
  ·exact hj
  ·rw[cB (by simpa [cellsOf,nl] using hj)] at hv;cases hv
 have hd:dg xs j=dg (limbs (val xs)) j:=getD_limbs h.ok j;have hadd:(⟨b,off,none⟩:Addr).add j=⟨b,off+j,none⟩:=by unfold Addr.add;split<;>simp_all
 rw[hadd,hcell j zo,hd];simp only[cellsOf,mA,dg_get (show j<(limbs (val xs)).length from hj)] at hv
 exact hv
theorem trim_any (A:Option Addr) (c:Nat) (xs:List Nat) (w:World) (h:Nums w A c xs) (hs:xs.length≤4000000000000) :
  Calls Tryz.prog 80 #[.slice A xs.length c] w (Ret w (val xs)):=by
 have hl:=nl_val h.ok;have HU:=zh (fun W (hW:Nums W A c xs)=>used_any A c xs W hW hs);by_cases h0:val xs=0
 ·have h1:(((nl (val xs):Nat):Int)==0)=true:=by simp[h0,nl_zero]
  have HT:Hid (Ret w (val xs) (.returned (.slice none 0 0)) w):=⟨none,0,by rw[h0];rfl,.inl ⟨h0,rfl,rfl⟩,Below.refl _ _⟩;clear h0;go_enter Tryz.func80,Tryz.ntmps80
  go_wp2_with (go_at_call 95;refine(HU.out _ h).mono ?_;rintro e w' ⟨rfl,rfl⟩)
  go_ret
  exact HT.out
 ·have h1:(((nl (val xs):Nat):Int)==0)=false:=by simp[nl_eq_zero,h0]
  have hp:0<nl (val xs):=by rcases qC (nl (val xs)) with e | e;exact absurd (nl_eq_zero.1 e) h0;exact e
  have HT:Hid (∀w',w'.heap[w.heap.size]?=some (.cells (cellsOf (limbs (val xs))).toList.toArray 114 (0,0))→Below w.heap.size w w'→Ret w (val xs) (.returned (.slice (some ⟨w.heap.size,0,none⟩) (nl (val xs)) (nl (val xs)))) w'):=fun w' hr hb =>
   ⟨_,_,rfl,.inr ⟨h0,w.heap.size,limbs (val xs),rfl,aA _,hr,rfl,aA _,fA (aA _),ok_limbs _⟩,hb⟩
  have hmk:=make_words (nl (val xs)) zo;have HS:=zh (splice_all (nl (val xs)) (limbs (val xs)) rfl);have hb1:Below w.heap.size w (w.alloc (.cells (cellsOf (List.replicate (nl (val xs)) 0)) 114)):=(Below.refl _ _).alloc (aA _) _;have HC:=zh (src_cells h hb1 zo);have HN:Hid ((cellsOf (limbs (val xs))).toList.length=Nat.min xs.length (nl (val xs))):=by
   show(cellsOf (limbs (val xs))).toList.length=_
   rw[show Nat.min xs.length (nl (val xs))=nl (val xs) from dG hl];simp[cellsOf,nl]
  have HF:Hid (0+(cellsOf (limbs (val xs))).toList.length≤(cellsOf (List.replicate (nl (val xs)) 0)).toList.length):=by
   show 0+(cellsOf (limbs (val xs))).toList.length≤_
   simp[cellsOf,nl]
  have HG:=zh (heap_alloc_new w (.cells (cellsOf (List.replicate (nl (val xs)) 0)) 114));clear h0;go_enter Tryz.func80,Tryz.ntmps80
  go_wp2_with (first | (go_at_call 95;refine(HU.out _ h).mono ?_;rintro e w' ⟨rfl,rfl⟩) | (with_reducible refine wpList_copy_splice rfl (.tmp 11) (.tmp 12) 43 43 rfl 114 und_words u64_size (some ⟨w.heap.size,0,none⟩) A (nl (val xs)) (nl (val xs)) xs.length c rfl rfl w.heap.size 0 (cellsOf (List.replicate (nl (val xs)) 0)).toList 114 HG.out (cellsOf (limbs (val xs))).toList HN.out (fun _=>⟨rfl,HC.out⟩) HF.out (oneCell_cellsOf _) w.heap.size w hb1 (aA _) ?_;intro w1 hr1 hbb1))
  go_ret
  have hr:=hr1.out;rw[HS.out] at hr;exact HT.out _ hr hbb1
def CmpPost (w:World) (a b:Nat) (e:Ending) (w':World):Prop:=e=.returned (.int .i64 (cmpI a b))∧∃n,w'=w.drewN n
theorem cmp_any (A A':Option Addr) (c c':Nat) (xs ys:List Nat) (w:World) (h:Nums w A c xs) (h':Nums w A' c' ys) (hs:xs.length≤4000000000000) (hs':ys.length≤4000000000000) :
  Calls Tryz.prog 65 #[.slice A xs.length c,.slice A' ys.length c'] w (CmpPost w (val xs) (val ys)):=by
 have hl:=nl_val h.ok;have hl':=nl_val h'.ok;have HU:=zh (fun W (hW:Nums W A c xs)=>used_any A c xs W hW hs);have HU':=zh (fun W (hW:Nums W A' c' ys)=>used_any A' c' ys W hW hs');by_cases hn:nl (val xs)=nl (val ys)
 ·have h1:(((nl (val xs):Nat):Int) !=((nl (val ys):Nat):Int))=false:=by simp[hn]
  have HA:=zh (Agree.start h.ok h'.ok hn);have HN:=zh hn;have hle:nl (val xs)≤nl (val ys):=zo;have hle':nl (val ys)≤nl (val xs):=zo;clear hn;go_enter Tryz.func65,Tryz.ntmps65
  go_wp2_with fail
  refine(HU.out _ h).mono ?_;rintro e w' ⟨rfl,rfl⟩;go_wp2_with fail
  refine(HU'.out _ h').mono ?_;rintro e w' ⟨rfl,rfl⟩;go_wp2_with fail
  go_loopw [20] (fun i wr=>∃k n:Nat,k≤nl (val xs)∧i=.int .i64 k∧wr=w.drewN n∧Agree xs ys (nl (val xs)-k)) (fun i _=>nl (val xs)-(intOf i).toNat)
  case atStart=>exact⟨0,0,uA _,rfl,rfl,HA.out⟩
  case round =>
   obtain⟨k,n,hk,rfl,rfl,hag⟩:=hrel;by_cases hlt:k<nl (val xs)
   ·obtain⟨j,hj⟩:∃j,j+k+1=nl (val xs):=⟨nl (val xs)-1-k,zo⟩;obtain⟨b,off,rfl,hcell⟩:=h.cells zo;obtain⟨b',off',rfl,hcell'⟩:=h'.cells zo;have c1:=hcell (nl (val xs)-1-k) zo;have c2:=hcell' (nl (val xs)-1-k) zo;clear hcell hcell';have i1:0≤((nl (val xs):Nat):Int)-1-k:=zo;have i2:((nl (val xs):Nat):Int)-1-k<xs.length:=zo;have i3:((nl (val xs):Nat):Int)-1-k<ys.length:=zo;rcases Nat.lt_trichotomy (dg xs (nl (val xs)-1-k)) (dg ys (nl (val xs)-1-k)) with hd | hd | hd
    ·have t1:(((dg xs (nl (val xs)-1-k):Nat):Int) !=((dg ys (nl (val xs)-1-k):Nat):Int))=true:=by rw[bne_iff_ne];omega
     have HD:=zh hd;clear hd;go_wp2_with fail
     go_quiet (fail)
     go_wp2_with fail
     go_quiet ((go_at_call 96;first | exact quiet_at (compare_u64 _ _ _) | exact quiet_at2 (compare_u64 _ _ _)))
     go_wp2_with fail
     go_ret
     have e1:Agree xs ys (nl (val xs)-1-k+1):=by rw[show nl (val xs)-1-k+1=nl (val xs)-k from by omega];exact hag
     have e2:=Agree.less h.ok e1 HD.out;have e3:=HD.out;refine⟨ret_int ?_,_,by rw[World.drewN_drewN,World.drewN_drewN]⟩;rw[cmpI_lt zo,cmpI_lt zo]
    ·have t1:(((dg xs (nl (val xs)-1-k):Nat):Int) !=((dg ys (nl (val xs)-1-k):Nat):Int))=false:=by simp[hd]
     have HD:=zh hd;clear hd;go_wp2_with fail
     go_quiet (fail)
     go_wp2_with fail
     go_roundw
     case rel =>
      refine⟨k+1,n+nq,zo,by go_num,rfl,?_⟩;rw[show nl (val xs)-(k+1)=nl (val xs)-1-k from by omega];exact Agree.down (by rw[show nl (val xs)-1-k+1=nl (val xs)-k from by omega];exact hag) HD.out
     case measure=>simp[intOf];omega
    ·have t1:(((dg xs (nl (val xs)-1-k):Nat):Int) !=((dg ys (nl (val xs)-1-k):Nat):Int))=true:=by rw[bne_iff_ne];omega
     have HD:=zh hd;clear hd;go_wp2_with fail
     go_quiet (fail)
     go_wp2_with fail
     go_quiet ((go_at_call 96;first | exact quiet_at (compare_u64 _ _ _) | exact quiet_at2 (compare_u64 _ _ _)))
     go_wp2_with fail
     go_ret
     have e1:Agree xs ys (nl (val xs)-1-k+1):=by rw[show nl (val xs)-1-k+1=nl (val xs)-k from by omega];exact hag
     have e2:=Agree.less h'.ok e1.symm HD.out;have e3:=HD.out;refine⟨ret_int ?_,_,by rw[World.drewN_drewN,World.drewN_drewN]⟩;rw[cmpI_gt zo,cmpI_gt zo]
   ·go_wp2_with fail
    go_ret
    have e1:nl (val xs)-k=0:=zo;rw[e1] at hag;exact⟨ret_int (by rw[hag.all,cmpI_eq]),n,rfl⟩
 ·have h1:(((nl (val xs):Nat):Int) !=((nl (val ys):Nat):Int))=true:=by rw[bne_iff_ne];omega
  have HE:Hid (cmpI ((nl (val xs):Nat):Int) ((nl (val ys):Nat):Int)=cmpI ((val xs:Nat):Int) ((val ys:Nat):Int)):=by
   show _=_
   rcases Nat.lt_or_gt_of_ne hn with hn | hn
   ·have:=lt_of_nl hn;rw[cmpI_lt zo,cmpI_lt zo]
   ·have:=lt_of_nl hn;rw[cmpI_gt zo,cmpI_gt zo]
  have HN:=zh hn;clear hn;go_enter Tryz.func65,Tryz.ntmps65
  go_wp2_with fail
  refine(HU.out _ h).mono ?_;rintro e w' ⟨rfl,rfl⟩;go_wp2_with fail
  refine(HU'.out _ h').mono ?_;rintro e w' ⟨rfl,rfl⟩;go_wp2_with fail
  refine(compare_int _ _ _).mono ?_;rintro e w' ⟨rfl,rfl⟩;go_wp2_with fail
  go_ret
  exact⟨ret_int HE.out,0,rfl⟩
end Go.Proofs.YtiondclbdgijbaaGreatDoor
