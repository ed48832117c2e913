/-
  What the walk of ShapesNumbers wants: picture with its blocks; a fraction in no one form; kernel and bias as rows of numbers. Written by wip/gen/sn1.py.
-/
import Derived.Test.YtfgbiccpecldfaaDoorYSh10
import Derived.Laws.MakeOwn
set_option maxHeartbeats 16000000
set_option maxRecDepth 100000
namespace Go.Proofs.YtfgbiccpecldfaaDoor
open Go.RowKit Tw
theorem Bx.nums {w:World} {b d:Nat} {t:TypeId} (h:Bx w b #[.int .u64 (d:Int)] t) (h0:0<d) (hd:d<18446744073709551616):Nums w (some ⟨b,0,none⟩) 1 [d] :=
 ⟨fun x hx=>by obtain rfl:=List.mem_singleton.1 hx;exact hd,Nat.le_refl _,fun _=>⟨b,0,rfl,fun k hk=>by
  obtain rfl:k=0:=by simpa using hk
  exact h.cell 0 _ rfl⟩⟩
def rawFr (a b:Nat):Fr:=⟨false,some ⟨a,0,none⟩,1,1,false,some ⟨b,0,none⟩,1,1,qof 2 4,false⟩
theorem raw_ok {w:World} {a b:Nat} {t:TypeId} (h:Bx w a #[.int .u64 2] t) (h':Bx w b #[.int .u64 4] t):FrOk w 1 (rawFr a b):=by
 have n1:=Bx.nums (d:=2) h (by decide) (by decide)
 have n2:=Bx.nums (d:=4) h' (by decide) (by decide)
 refine⟨⟨2,4,⟨2,⟨[2],n1,rfl,rfl⟩,rfl⟩,⟨4,⟨[4],n2,rfl,rfl⟩,rfl⟩,rfl,Nat.le_refl _,Nat.le_refl _⟩,[2],[4],⟨n1,rfl⟩,⟨n2,rfl⟩,?_⟩
 show exB false [2] false [4] (qof 2 4)=false
 have e:decide ([2]=limbs (qof 2 4).num.natAbs)=false:=decide_eq_false fun e=>by
  have h1:=congrArg val e
  rw[val_limbs] at h1
  revert h1
  decide
 unfold exB
 rw[e]
 simp
def PicB (w:World) (e:Ending) (w':World):Prop :=
 ∃lb kb bb:Nat,e=.returned (.agg #[.int .i64 4,.slice (some ⟨lb,0,none⟩) 1 1])∧Bx w' lb #[.int .u8 2,.slice none 0 0,.slice (some ⟨bb,0,none⟩) 1 1,.int .i64 1,.int .i64 2,.int .i64 2,.int .i64 1,.int .i64 2,.int .i64 2,.int .i64 1,.int .i64 1,.slice (some ⟨kb,0,none⟩) 4 4,.slice none 0 0] 38∧Bx w' kb #[.bool false,.slice none 0 0,.bool false,.slice none 0 0,.bool false,.slice none 0 0,.bool false,.slice none 0 0,.bool false,.slice none 0 0,.bool false,.slice none 0 0,.bool false,.slice none 0 0,.bool false,.slice none 0 0] 27∧Bx w' bb #[.bool false,.slice none 0 0,.bool false,.slice none 0 0] 27∧(w.heap.size<lb∧w.heap.size<kb∧w.heap.size<bb∧lb≠kb∧lb≠bb∧kb≠bb)∧Below w.heap.size w w'
theorem picture_b {w:World}:Calls Tryd.prog 4 #[] w (PicB w):=by
 have hm4:=make4 4 (.inl rfl)
 have hm1:=make4 1 (.inr rfl)
 simp only[Int.cast_ofNat_Int] at hm4 hm1
 go_enter Tryd.func4,Tryd.ntmps4
 go_upto_region 1 with(fail)
 go_region_with (fail)
 ·obtain⟨W,hW,x0,x1,x2,x3,hB⟩:=boxes4 w (#[.int .i64 4,.slice (some ⟨w.heap.size+1+1+1,0,none⟩) 1 1]) 30 ((flat Fr.cs [⟨false,none,0,0,false,none,0,0,0,true⟩,⟨false,none,0,0,false,none,0,0,0,true⟩,⟨false,none,0,0,false,none,0,0,0,true⟩,⟨false,none,0,0,false,none,0,0,0,true⟩]).toArray) 27 ((flat Fr.cs [⟨false,none,0,0,false,none,0,0,0,true⟩]).toArray) 27 (#[.int .u8 2,.slice none 0 0,.slice (some ⟨w.heap.size+1+1,0,none⟩) 1 1,.int .i64 1,.int .i64 2,.int .i64 2,.int .i64 1,.int .i64 2,.int .i64 2,.int .i64 1,.int .i64 1,.slice (some ⟨w.heap.size+1,0,none⟩) 4 4,.slice none 0 0]) 38
  rw[←hW]
  clear hW
  have p0_0:=x0.cell 0 (.int .i64 4) rfl
  have p0_1:=x0.cell 1 (.slice (some ⟨w.heap.size+1+1+1,0,none⟩) 1 1) rfl
  go_wp2_with fail
  (try simp only[Exit.inBlock,Exit.then])
  refine bodyPost_ret (by simp[results,Tryd.results4,go_sem,p0_0,p0_1];try rfl) rfl ?_
  exact⟨_,_,_,rfl,x3.drew,x1.drew,x2.drew,by omega,Below.drew hB⟩
 ·obtain⟨W,hW,x0,x1,x2,x3,hB⟩:=boxes4 w (#[.int .i64 4,.slice (some ⟨w.heap.size+1+1+1,0,none⟩) 1 1]) 30 ((flat Fr.cs [⟨false,none,0,0,false,none,0,0,0,true⟩]).toArray) 27 ((flat Fr.cs [⟨false,none,0,0,false,none,0,0,0,true⟩,⟨false,none,0,0,false,none,0,0,0,true⟩,⟨false,none,0,0,false,none,0,0,0,true⟩,⟨false,none,0,0,false,none,0,0,0,true⟩]).toArray) 27 (#[.int .u8 2,.slice none 0 0,.slice (some ⟨w.heap.size+1,0,none⟩) 1 1,.int .i64 1,.int .i64 2,.int .i64 2,.int .i64 1,.int .i64 2,.int .i64 2,.int .i64 1,.int .i64 1,.slice (some ⟨w.heap.size+1+1,0,none⟩) 4 4,.slice none 0 0]) 38
  rw[←hW]
  clear hW
  have p0_0:=x0.cell 0 (.int .i64 4) rfl
  have p0_1:=x0.cell 1 (.slice (some ⟨w.heap.size+1+1+1,0,none⟩) 1 1) rfl
  go_wp2_with fail
  (try simp only[Exit.inBlock,Exit.then])
  refine bodyPost_ret (by simp[results,Tryd.results4,go_sem,p0_0,p0_1];try rfl) rfl ?_
  exact⟨_,_,_,rfl,x3.drew,x2.drew,x1.drew,by omega,Below.drew hB⟩
theorem Sl.front {α:Type} {f:α→List Value} {k:Nat} {w:World} {a:Addr} {m n c:Nat} {L:List α} (h:Sl f k w (some a) m c L) (hk:∀x,(f x).length=k) (hn:n≤m):Sl f k w (some a) n c (L.take n):=by
 obtain⟨h1,h2,A,c',e,h3,h4⟩:=h
 cases e
 have h5:(L.take n).length=n:=by rw[List.length_take];omega
 refine⟨h5,by rw[flat_len hk,h5],_,_,rfl,(fun h=>(by cases h)),fun b hb j u hu=>h4 b hb j u ?_⟩
 have h6:flat f L=flat f (L.take n)++flat f (L.drop n):=by rw[←flat_append,List.take_append_drop]
 rw[h6,List.getElem?_append_left (List.getElem?_eq_some_iff.1 hu).1]
 exact hu
section
variable {α:Type} {f:α→List Value} {k:Nat} {t te:TypeId}
theorem Elt.makeEq (E:Elt f k t te) (z0:α) (hz0:∀i z,Tryd.prog.info? te=some i→i.zero=some z→z.cells.toList=f z0) (n:Nat) (hn:n≤100000000000) (m:Int) (hm:(n:Int)=m) :
  ∃Z:Array Value,Z.toList=flat f (List.replicate n z0)∧∀w:World,(Instr.makeSlice t (.int .i64 m) (.int .i64 m)).run Tryd.prog w=.ok (.slice (some ⟨w.heap.size,0,none⟩) n n) (w.alloc (.cells Z te)):=by
 subst hm
 obtain⟨i,z,h1,h2,h3,h4,h5,h6⟩:=E.info
 have hzc:=hz0 i z h1 h2
 have hb:(i.bytes:Int)*(n:Int)≤281474976710656:=by
  have h:=Nat.mul_le_mul h4 hn
  have h':((i.bytes*n:Nat):Int)≤281474976710656:=by omega
  rwa [Int.natCast_mul] at h'
 have hcells:(madeCells z.cells (n*i.size)).toList=flat f (List.replicate n z0):=by
  rw[h3]
  apply List.ext_getElem?
  intro j
  by_cases hj:j<n*k
  ·have k0:0<k:=by
    rcases Nat.eq_zero_or_pos k with h | h
    ·subst h;omega
    ·exact h
   have hi:j / k<n:=Nat.div_lt_of_lt_mul (by rw[Nat.mul_comm];exact hj)
   have hm:j % k<k:=Nat.mod_lt _ k0
   have e:j / k*k+j % k=j:=by rw[Nat.mul_comm];exact Nat.div_add_mod j k
   have h7:=flat_get E.len (List.replicate n z0) (j / k) z0 (by rw[List.getElem?_replicate,if_pos hi]) (j % k) hm
   rw[e] at h7
   rw[h7,←hzc,Array.getElem?_toList,Array.getElem?_toList]
   unfold madeCells
   rw[Array.getElem?_map,Array.getElem?_range,if_pos hj,Option.map_some,h5,getElem!_pos z.cells (j % k) (by omega),Array.getElem?_eq_getElem (by omega)]
  ·rw[List.getElem?_eq_none (by rw[Array.length_toList,size_madeCells];omega),List.getElem?_eq_none (by rw[flat_len E.len,List.length_replicate];omega)]
 refine⟨_,hcells,fun w=>?_⟩
 have hrun:=run_make (P:=Tryd.prog) w t te i z E.ut h1 h2 .i64 .i64 n n (by omega) (Int.le_refl _) hb (by omega)
 simpa only[Int.toNat_natCast] using hrun
end
theorem elt_vc1:Elt Vc.cs 1 34 54:=Elt.of (.slice none 0 0) 24 Tryd.underlying34 (by kernel_rfl) (by omega) (by kernel_rfl) (nou_list (by kernel_rfl)) Vc.cs_len
 (fun x u hu=>by simp[Vc.cs] at hu;subst hu;rfl) (fun x u hu n=>by simp[Vc.cs] at hu;subst hu;simp)
theorem elt_ly1:Elt Ly.cs 13 28 38:=Elt.of (.agg #[.int .u8 0,.slice none 0 0,.slice none 0 0,.int .i64 0,.int .i64 0,.int .i64 0,.int .i64 0,.int .i64 0,.int .i64 0,.int .i64 0,.int .i64 0,.slice none 0 0,.slice none 0 0]) 168 Tryd.underlying28 (by kernel_rfl) (by omega) (by kernel_rfl) (nou_list (by kernel_rfl)) Ly.cs_len
 (fun x u hu=>List.all_eq_true.1 (show(Ly.cs x).all (fun u=>u.oneCell')=true from rfl) u hu)
 (fun x u hu n e=>by have h:=List.all_eq_true.1 (show(Ly.cs x).all (fun u=>match u with | .int .u64 _=>false | _=>true)=true from rfl) u hu;rw[e] at h;cases h)
theorem fr_zero1 {i:TypeInfo} {z:Value} (h:Tryd.prog.info? 27=some i) (hz:i.zero=some z):z.cells.toList=Fr.cs zFr:=by
 have h1:(Tryd.prog.info? 27).map (fun i=>i.zero)=some (some (.agg #[.bool false,.slice none 0 0,.bool false,.slice none 0 0])):=by kernel_rfl
 rw[h,Option.map_some,hz] at h1
 obtain rfl:z=.agg #[.bool false,.slice none 0 0,.bool false,.slice none 0 0]:=by simpa using h1
 rfl
theorem vc_zero1 {i:TypeInfo} {z:Value} (h:Tryd.prog.info? 54=some i) (hz:i.zero=some z):z.cells.toList=Vc.cs ⟨none,0,0,[]⟩:=by
 have h1:(Tryd.prog.info? 54).map (fun i=>i.zero)=some (some (.slice none 0 0)):=by kernel_rfl
 rw[h,Option.map_some,hz] at h1
 obtain rfl:z=.slice none 0 0:=by simpa using h1
 rfl
theorem makeR (n:Nat) (m:Int) (hm:(n:Int)=m) (hn:n≤1000):∃Z:Array Value,Z.toList=flat Fr.cs (List.replicate n zFr)∧∀w:World,(Instr.makeSlice 35 (.int .i64 m) (.int .i64 m)).run Tryd.prog w=.ok (.slice (some ⟨w.heap.size,0,none⟩) n n) (w.alloc (.cells Z 27)) :=
 elt_rat.makeEq zFr (fun _ _ h1 h2=>fr_zero1 h1 h2) n (by omega) m hm
theorem makeV (n:Nat) (m:Int) (hm:(n:Int)=m) (hn:n≤1000):∃Z:Array Value,Z.toList=flat Vc.cs (List.replicate n ⟨none,0,0,[]⟩)∧∀w:World,(Instr.makeSlice 34 (.int .i64 m) (.int .i64 m)).run Tryd.prog w=.ok (.slice (some ⟨w.heap.size,0,none⟩) n n) (w.alloc (.cells Z 54)) :=
 elt_vc1.makeEq ⟨none,0,0,[]⟩ (fun _ _ h1 h2=>vc_zero1 h1 h2) n (by omega) m hm
theorem zR {w:World} {b n:Nat} {t:TypeId} {Z:Array Value} (h:Bx w b Z t) (hz:Z.toList=flat Fr.cs (List.replicate n zFr)):Sl Fr.cs 4 w (some ⟨b,0,none⟩) n n (List.replicate n zFr):=Sl.lit h hz List.length_replicate Fr.cs_len
theorem zV {w:World} {b n:Nat} {t:TypeId} {Z:Array Value} (h:Bx w b Z t) (hz:Z.toList=flat Vc.cs (List.replicate n ⟨none,0,0,[]⟩)):Sl Vc.cs 1 w (some ⟨b,0,none⟩) n n (List.replicate n ⟨none,0,0,[]⟩):=Sl.lit h hz List.length_replicate Vc.cs_len
theorem z_ok {w:World} {L:List Fr} (h:∀x∈L,x=zFr):∀x∈L,FrOk w 1 x:=fun x hx=>by rw[h x hx];exact zFr_ok w (Nat.le_refl _)
theorem nil_ok {w:World} {L:List Vc} (h:∀x∈L,x=⟨none,0,0,[]⟩):∀x∈L,VcOk w 1 x:=fun x hx=>by rw[h x hx];exact⟨Sl.nil _,(fun _ h=>(by cases h)),Nat.zero_le _⟩
theorem picY_ok {w:World} {kind:Int} {rA:Option Addr} {rn rc:Nat} {rows:List Vc} {bA:Option Addr} {bn bc:Nat} {bias:List Fr} {ch kh st pad:Int} {kA:Option Addr} {kn kc:Nat} {kern:List Fr}
  (hr:Sl Vc.cs 1 w rA rn rc rows) (hr':∀v∈rows,VcOk w 1 v) (hb:Sl Fr.cs 4 w bA bn bc bias) (hb':∀x∈bias,FrOk w 1 x) (hk:Sl Fr.cs 4 w kA kn kc kern) (hk':∀x∈kern,FrOk w 1 x) (hl:rn≤100000∧bn≤100000∧kn≤100000):LysOk w 1 [picY kind rA rn rc rows bA bn bc bias ch kh st pad kA kn kc kern]:=fun y hy=>by
 obtain rfl:=List.mem_singleton.1 hy
 exact⟨hr,hr',hb,hb',hk,hk',Sl.nil _,(fun _ h=>(by cases h)),⟨hl.1,hl.2.1,hl.2.2,Nat.zero_le _⟩⟩
theorem bareY_ok {w:World} {kind:Int} {rA:Option Addr} {rn rc:Nat} {rows:List Vc} {bA:Option Addr} {bn bc:Nat} {bias:List Fr} {gA:Option Addr} {gn gc:Nat} {groups:List Gp}
  (hr:Sl Vc.cs 1 w rA rn rc rows) (hr':∀v∈rows,VcOk w 1 v) (hb:Sl Fr.cs 4 w bA bn bc bias) (hb':∀x∈bias,FrOk w 1 x) (hg:Sl Gp.cs 1 w gA gn gc groups) (hg':∀v∈groups,GpOk w v) (hl:rn≤100000∧bn≤100000∧gn≤100000):LysOk w 1 [bareY kind rA rn rc rows bA bn bc bias gA gn gc groups]:=fun y hy=>by
 obtain rfl:=List.mem_singleton.1 hy
 exact⟨hr,hr',hb,hb',Sl.nil _,(fun _ h=>(by cases h)),hg,hg',⟨hl.1,hl.2.1,Nat.zero_le _,hl.2.2⟩⟩
def Lone (w:World) (lb:Nat) (inp:Int) (r:Except Int (List Int)):Prop:=∃y:Ly,Sl Ly.cs 13 w (some ⟨lb,0,none⟩) 1 1 [y]∧LysOk w 1 [y]∧zAc inp [y]=r
theorem Lone.of {w:World} {lb:Nat} {cs:Array Value} {t:TypeId} {inp:Int} {r:Except Int (List Int)} {y:Ly} (h:Bx w lb cs t) (hc:cs.toList=y.cs) (ho:LysOk w 1 [y]) (hs:zAc inp [y]=r):Lone w lb inp r :=
 ⟨y,Sl.lit h (by rw[hc];simp[flat]) rfl Ly.cs_len,ho,hs⟩
theorem Lone.below {w w':World} {lb:Nat} {inp:Int} {r:Except Int (List Int)} (h:Lone w lb inp r) (hb:Below w.heap.size w w'):Lone w' lb inp r:=by
 obtain⟨y,h1,h2,h3⟩:=h
 exact⟨y,h1.below hb,h2.below hb,h3⟩
theorem sizes_no {w:World} {m:Nat} {inp:Int} {lA:Option Addr} {ln lc:Nat} {L:List Ly} (h:Sl Ly.cs 13 w lA ln lc L) (hok:LysOk w m L) (hm:m≤20000) (hln:ln≤9223372036854775807) (hT:Hid (Tab w)) {z:Int} (hz:Hid (zAc inp L=.error z)) :
  Calls Tryd.prog 6 #[.agg #[.int .i64 inp,.slice lA ln lc]] w fun e w'=>∃A c,e=.returned (.slice A 0 c)∧Below w.heap.size w w' :=
 (sizes_is h hok hm hln hT [] (zh (by unfold listF;rw[hz.out]))).mono fun _ _ ⟨A,n,c,h1,h2,_,h3⟩=>by
  obtain rfl:0=n:=h2.1
  exact⟨A,c,h1,h3⟩
open Go.RowKit Tw
theorem OwnR.far3 {w W:World} {B n size b:Nat} {e:TypeId} {v:Value} {xs:List Value} (ho:OwnR w B e size v n xs) (far:∀b' cs t',b'≠b→Bx w b' cs t'→Bx W b' cs t') (hb:Option.some b≠v.ownBlock):OwnR W B e size v n xs:=by
 obtain⟨h1,h2 | ⟨g,cap,cur,rfl,a2,a3,a4⟩⟩:=ho
 ·exact⟨h1,.inl h2⟩
 ·exact⟨h1,.inr ⟨g,cap,cur,rfl,a2,far g cur e (fun h=>hb (by rw[h];rfl)) a3,a4⟩⟩
theorem elt_tm1:Elt Tm.cs 5 54 57:=Elt.of (.agg #[.int .i64 0,.bool false,.slice none 0 0,.bool false,.slice none 0 0]) 72 Tryd.underlying54 (by kernel_rfl) (by omega) (by kernel_rfl) (nou_list (by kernel_rfl)) Tm.cs_len
 (fun x u hu=>by simp[Tm.cs] at hu;rcases hu with rfl | rfl | rfl | rfl | rfl<;>rfl) (fun x u hu n=>by simp[Tm.cs] at hu;rcases hu with rfl | rfl | rfl | rfl | rfl<;>simp)
def Ones (w:World) (L:List Tm):Prop:=∀(k:Nat) (t:Tm),L[k]?=some t→t.at_=(k:Int)∧FrOk w 1 t.x∧t.x.q=1∧t.x.ex=true
theorem Ones.below {w w':World} {L:List Tm} (h:Ones w L) (hb:Below w.heap.size w w'):Ones w' L:=fun k t ht=>⟨(h k t ht).1,(h k t ht).2.1.below hb,(h k t ht).2.2⟩
theorem Ones.k {w w':World} {L:List Tm} (h:Ones w L) (hb:K64 w w'):Ones w' L:=fun k t ht=>⟨(h k t ht).1,(h k t ht).2.1.k hb,(h k t ht).2.2⟩
theorem Ones.nil (w:World):Ones w []:=fun k t h=>by simp at h
theorem Ones.snoc {w:World} {L:List Tm} {t:Tm} (h:Ones w L) (n:Nat) (hl:L.length=n) (ha:t.at_=(n:Int)) (hf:FrOk w 1 t.x) (hq:t.x.q=1) (he:t.x.ex=true):Ones w (L++[t]):=fun k u hu=>by
 subst hl
 rcases Nat.lt_trichotomy k L.length with h1 | h1 | h1
 ·rw[List.getElem?_append_left h1] at hu;exact h k u hu
 ·subst h1
  rw[List.getElem?_append_right (Nat.le_refl _),Nat.sub_self] at hu
  obtain rfl:t=u:=by simpa using hu
  exact⟨ha,hf,hq,he⟩
 ·rw[List.getElem?_eq_none (by simp;omega)] at hu;cases hu
theorem Ones.right {w:World} {L:List Tm} (h:Ones w L) (hl:L.length=64):rightB L 64=true:=by
 unfold rightB
 refine List.all_eq_true.2 fun i hi=>?_
 have hi':i<L.length:=List.mem_range.1 hi
 have e:=List.getElem?_eq_getElem hi'
 obtain⟨h1,_,h3,h4⟩:=h i _ e
 unfold rightAt
 rw[e]
 simp only
 have hq:decide (L[i].x.q≠0)=true:=decide_eq_true (by rw[h3];decide)
 rw[hq,h4,h1,decide_eq_true (by omega),decide_eq_true (by omega)]
 cases i with
 | zero=>rfl
 | succ j =>
  have e2:=List.getElem?_eq_getElem (l:=L) (i:=j) (by omega)
  obtain⟨h5,_⟩:=h j _ e2
  simp only
  rw[e2]
  simp only
  rw[h5,decide_eq_true (by omega)]
  rfl
def MN1 (w:World) (gk:Nat) (s1 s2:Value) (wr:World):Prop:=∃(i:Nat) (A:Option Addr) (c:Nat) (L:List Tm),i≤64∧64-i=gk∧s1=.slice A i c∧s2=.int .i64 (i:Int)∧Below w.heap.size w wr∧OwnR wr w.heap.size 57 5 (.slice A i c) i (flat Tm.cs L)∧L.length=i∧Ones wr L
def MN2 (w wb:World) (bq:Nat) (A:Option Addr) (c:Nat) (L:List Tm) (gk:Nat) (s:Value) (wr:World):Prop:=∃(i:Nat) (rA bA:Option Addr) (rc bc:Nat),i≤256∧256-i=gk∧s=.int .i64 (i:Int)∧Below w.heap.size w wr∧Bx wr bq #[.int .u8 1,.slice rA i rc,.slice bA i bc,.int .i64 0,.int .i64 0,.int .i64 0,.int .i64 0,.int .i64 0,.int .i64 0,.int .i64 0,.int .i64 0,.slice none 0 0,.slice none 0 0] 38∧
 OwnR wr (bq+1) 54 1 (.slice rA i rc) i (flat Vc.cs (List.replicate i ⟨A,64,c,L⟩))∧OwnR wr (bq+1) 27 4 (.slice bA i bc) i (flat Fr.cs (List.replicate i zFr))∧Ap (.slice rA i rc) (.slice bA i bc)∧Below wb.heap.size wb wr
theorem rep_snoc {α:Type} (x:α) (i:Nat):List.replicate i x++[x]=List.replicate (i+1) x:=(List.replicate_succ' (n:=i) (a:=x)).symm
def manyN (n:Nat) (rA:Option Addr) (rc:Nat) (bA:Option Addr) (bc:Nat) (v:Vc):Ly:=bareY 1 rA n rc (List.replicate n v) bA n bc (List.replicate n zFr) none 0 0 []
def manyY (rA:Option Addr) (rc:Nat) (bA:Option Addr) (bc:Nat) (A:Option Addr) (c:Nat) (L:List Tm):Ly:=manyN 256 rA rc bA bc ⟨A,64,c,L⟩
theorem manyN_behind (n:Nat) (hn:0<n) {rA bA:Option Addr} {rc bc:Nat} {v:Vc} {k:Int} (h:rightB v.L k=true):zAe (manyN n rA rc bA bc v) k=some ((n:Int),((n*v.n:Nat):Int)):=by
 have e1:((List.replicate n v).all fun v=>rightB v.L k)=true:=List.all_eq_true.2 fun u hu=>by rw[List.eq_of_mem_replicate hu];exact h
 have e2:((List.replicate n zFr).all fun x=>x.ex)=true:=List.all_eq_true.2 fun v hv=>by rw[List.eq_of_mem_replicate hv];rfl
 have e3:lens (List.replicate n v)=n*v.n:=by unfold lens;rw[List.map_replicate];simp
 have e4:affineF (manyN n rA rc bA bc v) k=some ((n:Int),((n*v.n:Nat):Int)):=by
  unfold affineF manyN
  rw[if_neg (by simp[plainB,nums,bareY]),if_neg (by simp[bareY]),if_neg (by simp[bareY];omega),if_neg (by simp[bareY]),if_neg (by simp only[bareY];rw[e1];simp),if_neg (by simp only[bareY];rw[e2];simp)]
  simp only[bareY]
  rw[e3]
 unfold zAe
 simpa [manyN,bareY] using e4
theorem many_behind {w:World} {rA bA A:Option Addr} {rc bc c:Nat} {L:List Tm} (h:Ones w L) (hl:L.length=64):zAe (manyY rA rc bA bc A c L) 64=some (256,16384) :=
 manyN_behind 256 (by decide) (v:=⟨A,64,c,L⟩) (h.right hl)
theorem many_sizes {w:World} {rA bA A:Option Addr} {rc bc c:Nat} {L:List Tm} (h:Ones w L) (hl:L.length=64):zAc 64 [manyY rA rc bA bc A c L]=.ok [64,256]:=by
 unfold zAc
 rw[if_neg (by decide),if_neg (by decide),if_neg (by simp)]
 unfold stepsF
 rw[many_behind h hl]
 simp[stepsF,Except.map]
theorem many_more {w:World} {rA bA A gA a:Option Addr} {rc bc c:Nat} {L:List Tm} (h:Ones w L) (hl:L.length=64):zAc 64 ([manyY rA rc bA bc A c L]++[bareY 4 none 0 0 [] none 0 0 [] gA 1 1 [⟨a,1,1,[0]⟩]])=.error 25:=by
 unfold zAc
 rw[if_neg (by decide),if_neg (by decide),if_neg (by simp)]
 simp only[List.cons_append,List.nil_append]
 unfold stepsF
 rw[many_behind h hl]
 simp[stepsF,zAe,bareY,poolF,plainB,nums,groupB,risesB,glens,Except.map]
theorem many_ok {w:World} {rA bA A:Option Addr} {rc bc c:Nat} {L:List Tm} (h:Ones w L) (hs:Sl Tm.cs 5 w A 64 c L) (hR:Sl Vc.cs 1 w rA 256 rc (List.replicate 256 ⟨A,64,c,L⟩)) (hB:Sl Fr.cs 4 w bA 256 bc (List.replicate 256 zFr)):LysOk w 1 [manyY rA rc bA bc A c L] :=
 bareY_ok hR (fun v hv=>by rw[List.eq_of_mem_replicate hv];exact⟨hs,fun t ht=>by obtain⟨k,hk⟩:=List.mem_iff_getElem?.1 ht;exact(h k t hk).2.1,by show(64:Nat)≤1000000;decide⟩) hB (z_ok fun x hx=>List.eq_of_mem_replicate hx) (Sl.nil _) (fun _ h=>(by cases h)) (by decide)
theorem many_ok2 {w:World} {y:Ly} {g a:Nat} {cg ca:Array Value} {tg ta:TypeId} (h:LysOk w 1 [y]) (hg:Bx w g cg tg) (ha:Bx w a ca ta) (eg:cg.toList=flat Gp.cs [⟨some ⟨a,0,none⟩,1,1,[0]⟩]) (ea:ca.toList=flat ics [0]):LysOk w 1 ([y]++[bareY 4 none 0 0 [] none 0 0 [] (some ⟨g,0,none⟩) 1 1 [⟨some ⟨a,0,none⟩,1,1,[0]⟩]]):=fun z hz=>by
 rcases List.mem_append.1 hz with hz | hz
 ·exact h z hz
 ·exact bareY_ok (Sl.nil _) (fun _ h=>(by cases h)) (Sl.nil _) (fun _ h=>(by cases h)) (Sl.lit hg eg rfl Gp.cs_len) (fun v hv=>by obtain rfl:=List.mem_singleton.1 hv;exact⟨Sl.lit ha ea rfl ics_len,by simp⟩) (by simp) z hz
theorem st2_1_1 {w:World} {b:Nat} {t:TypeId} {u0 u1:Value} (v1:Value) (h0:Bx w b #[u0,u1] t) (n1:∀n,u1≠.int .u64 n) :
  ∃W,W=w.setCell ⟨b,1,none⟩ v1∧Bx W b #[u0,v1] t∧K64 w W∧(∀b' cs t',b'≠b→Bx w b' cs t'→Bx W b' cs t')∧(∀B w0,B≤b→Below B w0 w→Below B w0 W):=by
 have h2:Bx (w.setCell ⟨b,1,none⟩ v1) b #[u0,v1] t:=h0.set 1 v1
 have k1:K64 (w) (w.setCell ⟨b,1,none⟩ v1):=K64.box h0 (i:=1) rfl n1 v1
 exact⟨_,rfl,h2,k1,fun b' cs t' hb hx=>(hx.far hb v1),fun B w0 hB hb=>(hb.setCell hB v1)⟩
theorem st13_1_1 {w:World} {b:Nat} {t:TypeId} {u0 u1 u2 u3 u4 u5 u6 u7 u8 u9 u10 u11 u12:Value} (v1:Value) (h0:Bx w b #[u0,u1,u2,u3,u4,u5,u6,u7,u8,u9,u10,u11,u12] t) (n1:∀n,u1≠.int .u64 n) :
  ∃W,W=w.setCell ⟨b,1,none⟩ v1∧Bx W b #[u0,v1,u2,u3,u4,u5,u6,u7,u8,u9,u10,u11,u12] t∧K64 w W∧(∀b' cs t',b'≠b→Bx w b' cs t'→Bx W b' cs t')∧(∀B w0,B≤b→Below B w0 w→Below B w0 W):=by
 have h2:Bx (w.setCell ⟨b,1,none⟩ v1) b #[u0,v1,u2,u3,u4,u5,u6,u7,u8,u9,u10,u11,u12] t:=h0.set 1 v1
 have k1:K64 (w) (w.setCell ⟨b,1,none⟩ v1):=K64.box h0 (i:=1) rfl n1 v1
 exact⟨_,rfl,h2,k1,fun b' cs t' hb hx=>(hx.far hb v1),fun B w0 hB hb=>(hb.setCell hB v1)⟩
theorem st13_2_1 {w:World} {b:Nat} {t:TypeId} {u0 u1 u2 u3 u4 u5 u6 u7 u8 u9 u10 u11 u12:Value} (v2:Value) (h0:Bx w b #[u0,u1,u2,u3,u4,u5,u6,u7,u8,u9,u10,u11,u12] t) (n2:∀n,u2≠.int .u64 n) :
  ∃W,W=w.setCell ⟨b,2,none⟩ v2∧Bx W b #[u0,u1,v2,u3,u4,u5,u6,u7,u8,u9,u10,u11,u12] t∧K64 w W∧(∀b' cs t',b'≠b→Bx w b' cs t'→Bx W b' cs t')∧(∀B w0,B≤b→Below B w0 w→Below B w0 W):=by
 have h3:Bx (w.setCell ⟨b,2,none⟩ v2) b #[u0,u1,v2,u3,u4,u5,u6,u7,u8,u9,u10,u11,u12] t:=h0.set 2 v2
 have k2:K64 (w) (w.setCell ⟨b,2,none⟩ v2):=K64.box h0 (i:=2) rfl n2 v2
 exact⟨_,rfl,h3,k2,fun b' cs t' hb hx=>(hx.far hb v2),fun B w0 hB hb=>(hb.setCell hB v2)⟩
theorem many_q {w:World} (hT:Hid (Tab w)):Calls Tryd.prog 8 #[] w fun e w'=>e=.returned (.bool true)∧Below w.heap.size w w':=by
 have hsz:sz (qof 1 1)≤1:=sz_one (by omega) (by decide) (by decide)
 go_enter Tryd.func8,Tryd.ntmps8
 go_wp2_with fail
 go_loopg [1,2] 64 (fun gk s1 s2 wr=>MN1 w gk s1 s2 wr)
 case atStart=>exact⟨0,none,0,[],Nat.zero_le _,rfl,rfl,rfl,Below.refl _ _,OwnR.nil _ _ _ _,rfl,Ones.nil _⟩
 case round =>
  obtain⟨i,A,c,L,hi,hgk,rfl,rfl,hB,ho,hln,hone⟩:=hrel
  have HGK:=zh hgk
  have HLN:=zh hln
  clear hgk hln
  by_cases hlt:i<64
  ·have i1:(i:Int)<64:=by omega
   have Bz:=Below.refl wr.heap.size wr
   go_wp2_with fail
   with_reducible refine(of_q 1 1 (zh (by omega)) (zh (by omega)) (zh (Tab.below hT.out (zAa hB (zAa (b:=wr) Bz (by go_grown)))))).mono ?_
   rintro e w1 ⟨s1,A1,c1,l1,s1r,A1r,c1r,l1r,rfl,h1,b1⟩
   replace b1:=zAa (a:=wr) (by go_grown) b1
   replace hone:=hone.below b1
   replace ho:=ho.below b1
   replace Bz:=zAa Bz b1
   clear b1
   go_wp2_with (at_builtin;refine And.left (b:=True) ?_)
   refine⟨?_,trivial⟩
   obtain⟨V1,hW,x0,hN⟩:=zAb w1 #[.int .i64 (i:Int),.bool s1,.slice A1 l1 c1,.bool s1r,.slice A1r l1r c1r] 57
   rw[←hW]
   clear hW
   obtain⟨v0,hb0⟩:∃b,b=w1.heap.size:=⟨_,rfl⟩
   rw[←hb0] at x0 ⊢
   have ow_0:w.heap.size≤v0:=by have:=zw hB Bz;omega
   replace h1:=h1.below hN
   replace hone:=hone.below hN
   replace ho:=ho.below hN
   replace hB:=zAa (zAa hB Bz) hN
   have HX0:=zh x0
   clear x0 hN Bz hb0
   have Bz:=Below.refl V1.heap.size V1
   have hdr:V1.drew.heap.size=V1.heap.size:=rfl
   have hdr2:V1.drew.drew.heap.size=V1.heap.size:=rfl
   refine Elt.app elt_tm1 rfl _ _ rfl (w.heap.size) (.slice A i c) (i) (L) rfl ho (.slice (some ⟨v0,0,none⟩) 1 1) (1) ([⟨(i:Int),⟨s1,A1,c1,l1,s1r,A1r,c1r,l1r,qof 1 1,true⟩⟩]) rfl (From.one (HX0.out.below (zAa Bz (by go_grown))) (⟨(i:Int),⟨s1,A1,c1,l1,s1r,A1r,c1r,l1r,qof 1 1,true⟩⟩) rfl (elt_tm1.len _)) (by omega) (by have:=zw hB Bz;omega) ?_
   intro H2 c2 w2 ho2 hg2
   replace hB:=(zAa (zAa hB Bz) (by go_grown)).trans (hg2.below (by have:=zw hB Bz;omega) (fun g hg=>by have:=ho.base g hg;omega))
   clear HX0
   clear hdr hdr2
   replace h1:=h1.k hg2.k
   replace hone:=hone.k hg2.k
   clear hg2 Bz
   have Bz:=Below.refl w2.heap.size w2
   go_wp2_with fail
   go_roundg (64-(i+1))
   case measure=>have:=HGK.out;omega
   case rel=>exact⟨i+1,_,_,_,by omega,rfl,rfl,by go_num,zAa hB (zAa Bz (by go_grown)),ho2.below (zAa Bz (by go_grown)),by have:=HLN.out;simp;omega,(hone.snoc i HLN.out rfl ((h1).fr hsz) (by show qof 1 1=1;decide) rfl).below (zAa Bz (by go_grown))⟩
  ·obtain rfl:i=64:=by omega
   have i1:¬((64:Nat):Int)<64:=by decide
   obtain⟨wb,hwb⟩:∃x:World,x=wr:=⟨wr,rfl⟩
   subst hwb
   have HSV:=zh (ho.sl' elt_tm1 HLN.out)
   have HON:=zh hone
   have hB2:=Below.refl wb.heap.size wb
   clear ho hone
   have Bz:=Below.refl wb.heap.size wb
   go_wp2_with fail
   go_upto_region 7 with(fail)
   obtain⟨V11,hW,x0,hN⟩:=zAb wb #[.int .u8 1,.slice none 0 0,.slice none 0 0,.int .i64 0,.int .i64 0,.int .i64 0,.int .i64 0,.int .i64 0,.int .i64 0,.int .i64 0,.int .i64 0,.slice none 0 0,.slice none 0 0] 38
   rw[←hW]
   clear hW
   obtain⟨v0,hb0⟩:∃b,b=wb.heap.size:=⟨_,rfl⟩
   rw[←hb0] at x0 ⊢
   have ow_0:w.heap.size≤v0:=by have:=zw hB Bz;omega
   have ow_0_hB2:wb.heap.size≤v0:=by have:=hB2.size;have:=Bz.size;omega
   replace hB:=zAa (zAa hB Bz) hN
   replace hB2:=zAa (zAa hB2 Bz) hN
   have HX0:=zh x0
   clear x0 hN Bz hb0
   have Bz:=Below.refl V11.heap.size V11
   go_wp2_with fail
   have HX0':=zh (zx HX0 Bz)
   have HB1:=zh (zAa hB Bz)
   have HB2:=zh (zAa hB2 Bz)
   clear hB hB2 Bz HX0
   go_loopg [4] 256 (fun gk s wr=>MN2 w wb v0 A c L gk s wr)
   case atStart=>exact⟨0,none,none,0,0,Nat.zero_le _,rfl,rfl,HB1.out,HX0'.out,OwnR.nil _ _ _ _,OwnR.nil _ _ _ _,Ap.nil _,HB2.out⟩
   case round =>
    clear HB1 HB2 HX0'
    obtain⟨i,rA,bA,rc,bc,hi,hgk2,rfl,hB,hx0,hoR,hoB,apRB,hB2⟩:=hrel
    have HGK:=zh hgk2
    have HX0:=zh hx0
    have apBR:=apRB.symm
    clear hgk2 hx0
    by_cases hlt:i<256
    ·have i1:(i:Int)<256:=by omega
     have Bz:=Below.refl wr.heap.size wr
     have p0_1:=(zx HX0 Bz).cell 1 (.slice rA i rc) rfl
     go_wp2_with (at_builtin;refine And.left (b:=True) ?_)
     refine⟨?_,trivial⟩
     obtain⟨V21,hW,x1,hN⟩:=zAb wr #[.slice A 64 c] 54
     rw[←hW]
     clear hW
     obtain⟨v1,hb1⟩:∃b,b=wr.heap.size:=⟨_,rfl⟩
     rw[←hb1] at x1 ⊢
     have o0_1:v0<v1:=by have:=(zx HX0 Bz).lt;omega
     have ow_1:w.heap.size≤v1:=by have:=zw hB Bz;omega
     replace hoB:=hoB.below hN
     replace hoR:=hoR.below hN
     replace hB:=zAa (zAa hB Bz) hN
     replace hB2:=zAa (zAa hB2 Bz) hN
     replace HX0:=zh ((zx HX0 Bz).below hN)
     have HX1:=zh x1
     clear x1 hN Bz hb1
     have Bz:=Below.refl V21.heap.size V21
     clear p0_1
     have hdr:V21.drew.heap.size=V21.heap.size:=rfl
     have hdr2:V21.drew.drew.heap.size=V21.heap.size:=rfl
     refine Elt.app elt_vc1 rfl _ _ rfl (v0+1) (.slice rA i rc) (i) (List.replicate i ⟨A,64,c,L⟩) rfl hoR (.slice (some ⟨v1,0,none⟩) 1 1) (1) ([⟨A,64,c,L⟩]) rfl (From.one (HX1.out.below (zAa Bz (by go_grown))) (⟨A,64,c,L⟩) rfl (elt_vc1.len _)) (by omega) (by have:=(zx HX0 Bz).lt;omega) ?_
     intro H21 c21 w21 ho21 hg21
     replace hB:=(zAa (zAa hB Bz) (by go_grown)).trans (hg21.below (by have:=zw hB Bz;omega) (fun g hg=>by have:=hoR.base g hg;omega))
     replace hB2:=(zAa (zAa hB2 Bz) (by go_grown)).trans (hg21.below (by have:=hB2.size;have:=Bz.size;omega) (fun g hg=>by have:=hoR.base g hg;omega))
     replace HX0:=zh (hg21.bx (zx HX0 Bz) (hoR.off (by omega)))
     clear HX1
     have apBR':=hg21.ap hoB apBR
     have apRB':=apBR'.symm
     replace hoB:=hoB.grown hg21 apBR
     clear apBR apRB
     have apBR:=apBR'
     have apRB:=apRB'
     clear apBR' apRB'
     clear hdr hdr2
     clear hg21 Bz
     have Bz:=Below.refl w21.heap.size w21
     have p0_1:=(zx HX0 Bz).cell 1 (.slice rA i rc) rfl
     have f0_1:=(zx HX0 Bz).frozen 1
     have y0:=(zx HX0 Bz).lt
     go_upto_region 11 with(fail)
     obtain⟨V22,hW,x,kk,far,bel⟩:=st13_1_1 (.slice H21 (i+1) c21) (zx HX0 Bz) nofun
     rw[←hW]
     clear hW
     replace ho21:=ho21.far far (by omega)
     replace hoB:=hoB.far far (by omega)
     replace hB:=bel w.heap.size w (by omega) (zAa hB Bz)
     replace hB2:=bel wb.heap.size wb (by omega) (zAa hB2 Bz)
     replace HX0:=zh x
     clear x kk far bel Bz
     have Bz:=Below.refl V22.heap.size V22
     clear p0_1 f0_1 y0
     have p0_2:=(zx HX0 Bz).cell 2 (.slice bA i bc) rfl
     go_wp2_with (at_builtin;refine And.left (b:=True) ?_)
     refine⟨?_,trivial⟩
     obtain⟨V23,hW,x1,hN⟩:=zAb V22 #[.bool false,.slice none 0 0,.bool false,.slice none 0 0] 27
     rw[←hW]
     clear hW
     obtain⟨v1,hb1⟩:∃b,b=V22.heap.size:=⟨_,rfl⟩
     rw[←hb1] at x1 ⊢
     have o0_1:v0<v1:=by have:=(zx HX0 Bz).lt;omega
     have ow_1:w.heap.size≤v1:=by have:=zw hB Bz;omega
     replace ho21:=ho21.below hN
     replace hoB:=hoB.below hN
     replace hB:=zAa (zAa hB Bz) hN
     replace hB2:=zAa (zAa hB2 Bz) hN
     replace HX0:=zh ((zx HX0 Bz).below hN)
     have HX1:=zh x1
     clear x1 hN Bz hb1
     have Bz:=Below.refl V23.heap.size V23
     clear p0_2
     have hdr:V23.drew.heap.size=V23.heap.size:=rfl
     have hdr2:V23.drew.drew.heap.size=V23.heap.size:=rfl
     refine Elt.app elt_rat rfl _ _ rfl (v0+1) (.slice bA i bc) (i) (List.replicate i zFr) rfl hoB (.slice (some ⟨v1,0,none⟩) 1 1) (1) ([zFr]) rfl (From.one (HX1.out.below (zAa Bz (by go_grown))) (zFr) rfl (elt_rat.len _)) (by omega) (by have:=(zx HX0 Bz).lt;omega) ?_
     intro H22 c22 w22 ho22 hg22
     replace hB:=(zAa (zAa hB Bz) (by go_grown)).trans (hg22.below (by have:=zw hB Bz;omega) (fun g hg=>by have:=hoB.base g hg;omega))
     replace hB2:=(zAa (zAa hB2 Bz) (by go_grown)).trans (hg22.below (by have:=hB2.size;have:=Bz.size;omega) (fun g hg=>by have:=hoB.base g hg;omega))
     replace HX0:=zh (hg22.bx (zx HX0 Bz) (hoB.off (by omega)))
     clear HX1
     have apRB':=hg22.ap ho21 apRB
     have apBR':=apRB'.symm
     replace ho21:=ho21.grown hg22 apRB
     clear apRB apBR
     have apRB:=apRB'
     have apBR:=apBR'
     clear apRB' apBR'
     clear hdr hdr2
     clear hg22 Bz
     have Bz:=Below.refl w22.heap.size w22
     have p0_2:=(zx HX0 Bz).cell 2 (.slice bA i bc) rfl
     have f0_2:=(zx HX0 Bz).frozen 2
     have y0:=(zx HX0 Bz).lt
     go_upto_region 9 with(fail)
     obtain⟨V24,hW,x,kk,far,bel⟩:=st13_2_1 (.slice H22 (i+1) c22) (zx HX0 Bz) nofun
     rw[←hW]
     clear hW
     replace ho21:=ho21.far far (by omega)
     replace ho22:=ho22.far far (by omega)
     replace hB:=bel w.heap.size w (by omega) (zAa hB Bz)
     replace hB2:=bel wb.heap.size wb (by omega) (zAa hB2 Bz)
     replace HX0:=zh x
     clear x kk far bel Bz
     have Bz:=Below.refl V24.heap.size V24
     clear p0_2 f0_2 y0
     go_wp2_with fail
     go_roundg (256-(i+1))
     case measure=>have:=HGK.out;omega
     case rel=>exact⟨i+1,_,_,_,_,by omega,rfl,by go_num,zAa hB (zAa Bz (by go_grown)),HX0.out.below (zAa Bz (by go_grown)),(rep_snoc _ i) ▸ ho21.below (zAa Bz (by go_grown)),(rep_snoc _ i) ▸ ho22.below (zAa Bz (by go_grown)),apRB,zAa hB2 (zAa Bz (by go_grown))⟩
    ·obtain rfl:i=256:=by omega
     have i1:¬((256:Nat):Int)<256:=by decide
     have hly:LysOk wr 1 [manyY rA rc bA bc A c L]:=many_ok (HON.out.below hB2) (HSV.out.below hB2) (hoR.sl' elt_vc1 List.length_replicate) (hoB.sl' elt_rat List.length_replicate)
     have hB3:=Below.refl wr.heap.size wr
     have Bz:=Below.refl wr.heap.size wr
     obtain⟨p0_0,p0_1,p0_2,p0_3,p0_4,p0_5,p0_6,p0_7,p0_8,p0_9,p0_10,p0_11,p0_12,-⟩:=(zx HX0 Bz).cz
     go_upto_region 13 with(fail)
     obtain⟨V31,hW,x1,hN⟩:=zAb wr #[.int .u8 1,.slice rA 256 rc,.slice bA 256 bc,.int .i64 0,.int .i64 0,.int .i64 0,.int .i64 0,.int .i64 0,.int .i64 0,.int .i64 0,.int .i64 0,.slice none 0 0,.slice none 0 0] 38
     have hs1:V31.heap.size=wr.heap.size+1:=by rw[hW];simp
     rw[←hW]
     clear hW
     obtain⟨v1,hb1⟩:∃b,b=wr.heap.size:=⟨_,rfl⟩
     rw[←hb1] at x1 hs1 ⊢
     have o0_1:v0<v1:=by have:=(zx HX0 Bz).lt;omega
     have ow_1:w.heap.size≤v1:=by have:=zw hB Bz;omega
     have ow_1_hB3:wr.heap.size≤v1:=by have:=hB3.size;have:=Bz.size;omega
     replace hB:=zAa (zAa hB Bz) hN
     replace hB3:=zAa (zAa hB3 Bz) hN
     replace HX0:=zh ((zx HX0 Bz).below hN)
     have HX1:=zh x1
     clear x1 hN Bz hb1
     have Bz:=Below.refl V31.heap.size V31
     clear p0_0 p0_1 p0_2 p0_3 p0_4 p0_5 p0_6 p0_7 p0_8 p0_9 p0_10 p0_11 p0_12
     obtain⟨V32,hW,x2,hN⟩:=zAb V31 #[.int .i64 64,.slice (some ⟨v1,0,none⟩) 1 1] 30
     have hs2:V32.heap.size=V31.heap.size+1:=by rw[hW];simp
     rw[←hW]
     clear hW
     rw[hs1] at x2 hs2
     obtain⟨v2,hb2⟩:∃b,b=v1+1:=⟨_,rfl⟩
     rw[←hb2] at x2 hs2  ⊢
     have o0_2:v0<v2:=by have:=(zx HX0 Bz).lt;omega
     have o1_2:v1<v2:=by have:=(zx HX1 Bz).lt;omega
     have ow_2:w.heap.size≤v2:=by have:=zw hB Bz;omega
     have ow_2_hB3:wr.heap.size≤v2:=by have:=hB3.size;have:=Bz.size;omega
     replace hB:=zAa (zAa hB Bz) hN
     replace hB3:=zAa (zAa hB3 Bz) hN
     replace HX0:=zh ((zx HX0 Bz).below hN)
     replace HX1:=zh ((zx HX1 Bz).below hN)
     have HX2:=zh x2
     clear x2 hN Bz hb2
     have Bz:=Below.refl V32.heap.size V32
     clear hs1
     obtain⟨p2_0,p2_1,-⟩:=(zx HX2 Bz).cz
     have how:=OwnR.lit1 elt_ly1 (zx HX1 Bz) (Nat.le_refl _) (manyY rA rc bA bc A c L) rfl
     have ne_own:=OwnR.off (b:=v0) how (by omega)
     have ne2_own:some v2≠(Value.slice (some ⟨v1,0,none⟩) 1 1).ownBlock:=by simp[Value.ownBlock];omega
     go_wp2_with fail
     with_reducible refine(check_is ((how.below (by go_grown)).sl' elt_ly1 rfl) (hly.below (zAa hB3 (zAa Bz (by go_grown)))) (m:=1) (by omega) (by omega) (zh (Tab.below hT.out (zAa hB (zAa (b:=V32) Bz (by go_grown))))) 0 (zh (check_of (many_sizes HON.out HLN.out)))).mono ?_
     rintro e w31 ⟨rfl,b31⟩
     replace b31:=zAa (a:=V32) (by go_grown) b31
     replace how:=how.below b31
     replace Bz:=zAa Bz b31
     clear b31
     clear p2_0 p2_1
     have p2_1:=(zx HX2 Bz).cell 1 (.slice (some ⟨v1,0,none⟩) 1 1) rfl
     go_wp2_with (at_builtin;refine And.left (b:=True) ?_)
     refine⟨?_,trivial⟩
     obtain⟨V33,hW,x3,hN⟩:=zAb w31 #[.int .i64 0] 3
     have hs3:V33.heap.size=w31.heap.size+1:=by rw[hW];simp
     rw[←hW]
     clear hW
     obtain⟨v3,hb3⟩:∃b,b=w31.heap.size:=⟨_,rfl⟩
     rw[←hb3] at x3 hs3 ⊢
     have o0_3:v0<v3:=by have:=(zx HX0 Bz).lt;omega
     have o1_3:v1<v3:=by have:=(zx HX1 Bz).lt;omega
     have o2_3:v2<v3:=by have:=(zx HX2 Bz).lt;omega
     have ow_3:w.heap.size≤v3:=by have:=zw hB Bz;omega
     have ow_3_hB3:wr.heap.size≤v3:=by have:=hB3.size;have:=Bz.size;omega
     have nv3_own:=OwnR.off' (b:=v3) how (by omega)
     replace how:=how.below hN
     replace hB:=zAa (zAa hB Bz) hN
     replace hB3:=zAa (zAa hB3 Bz) hN
     replace HX0:=zh ((zx HX0 Bz).below hN)
     replace HX1:=zh ((zx HX1 Bz).below hN)
     replace HX2:=zh ((zx HX2 Bz).below hN)
     have HX3:=zh x3
     clear x3 hN Bz hb3
     have Bz:=Below.refl V33.heap.size V33
     clear p2_1
     obtain⟨V34,hW,x4,hN⟩:=zAb V33 #[.slice (some ⟨v3,0,none⟩) 1 1] 39
     have hs4:V34.heap.size=V33.heap.size+1:=by rw[hW];simp
     rw[←hW]
     clear hW
     rw[hs3] at x4 hs4
     obtain⟨v4,hb4⟩:∃b,b=v3+1:=⟨_,rfl⟩
     rw[←hb4] at x4 hs4  ⊢
     have o0_4:v0<v4:=by have:=(zx HX0 Bz).lt;omega
     have o1_4:v1<v4:=by have:=(zx HX1 Bz).lt;omega
     have o2_4:v2<v4:=by have:=(zx HX2 Bz).lt;omega
     have o3_4:v3<v4:=by have:=(zx HX3 Bz).lt;omega
     have ow_4:w.heap.size≤v4:=by have:=zw hB Bz;omega
     have ow_4_hB3:wr.heap.size≤v4:=by have:=hB3.size;have:=Bz.size;omega
     have nv4_own:=OwnR.off' (b:=v4) how (by omega)
     replace how:=how.below hN
     replace hB:=zAa (zAa hB Bz) hN
     replace hB3:=zAa (zAa hB3 Bz) hN
     replace HX0:=zh ((zx HX0 Bz).below hN)
     replace HX1:=zh ((zx HX1 Bz).below hN)
     replace HX2:=zh ((zx HX2 Bz).below hN)
     replace HX3:=zh ((zx HX3 Bz).below hN)
     have HX4:=zh x4
     clear x4 hN Bz hb4
     have Bz:=Below.refl V34.heap.size V34
     clear hs3
     obtain⟨V35,hW,x5,hN⟩:=zAb V34 #[.int .u8 4,.slice none 0 0,.slice none 0 0,.int .i64 0,.int .i64 0,.int .i64 0,.int .i64 0,.int .i64 0,.int .i64 0,.int .i64 0,.int .i64 0,.slice none 0 0,.slice (some ⟨v4,0,none⟩) 1 1] 38
     have hs5:V35.heap.size=V34.heap.size+1:=by rw[hW];simp
     rw[←hW]
     clear hW
     rw[hs4] at x5 hs5
     obtain⟨v5,hb5⟩:∃b,b=v4+1:=⟨_,rfl⟩
     rw[←hb5] at x5 hs5  ⊢
     have o0_5:v0<v5:=by have:=(zx HX0 Bz).lt;omega
     have o1_5:v1<v5:=by have:=(zx HX1 Bz).lt;omega
     have o2_5:v2<v5:=by have:=(zx HX2 Bz).lt;omega
     have o3_5:v3<v5:=by have:=(zx HX3 Bz).lt;omega
     have o4_5:v4<v5:=by have:=(zx HX4 Bz).lt;omega
     have ow_5:w.heap.size≤v5:=by have:=zw hB Bz;omega
     have ow_5_hB3:wr.heap.size≤v5:=by have:=hB3.size;have:=Bz.size;omega
     have nv5_own:=OwnR.off' (b:=v5) how (by omega)
     replace how:=how.below hN
     replace hB:=zAa (zAa hB Bz) hN
     replace hB3:=zAa (zAa hB3 Bz) hN
     replace HX0:=zh ((zx HX0 Bz).below hN)
     replace HX1:=zh ((zx HX1 Bz).below hN)
     replace HX2:=zh ((zx HX2 Bz).below hN)
     replace HX3:=zh ((zx HX3 Bz).below hN)
     replace HX4:=zh ((zx HX4 Bz).below hN)
     have HX5:=zh x5
     clear x5 hN Bz hb5
     have Bz:=Below.refl V35.heap.size V35
     clear hs4
     have hdr:V35.drew.heap.size=V35.heap.size:=rfl
     have hdr2:V35.drew.drew.heap.size=V35.heap.size:=rfl
     refine Elt.app elt_ly1 rfl _ _ rfl (v1) (.slice (some ⟨v1,0,none⟩) 1 1) (1) ([manyY rA rc bA bc A c L]) rfl how (.slice (some ⟨v5,0,none⟩) 1 1) (1) ([bareY 4 none 0 0 [] none 0 0 [] (some ⟨v4,0,none⟩) 1 1 [⟨some ⟨v3,0,none⟩,1,1,[0]⟩]]) rfl (From.one (HX5.out.below (zAa Bz (by go_grown))) (bareY 4 none 0 0 [] none 0 0 [] (some ⟨v4,0,none⟩) 1 1 [⟨some ⟨v3,0,none⟩,1,1,[0]⟩]) rfl (elt_ly1.len _)) (by omega) (by have:=hB.size;have:=Bz.size;have:=hB3.size;omega) ?_
     intro H32 c32 w32 ho32 hg32
     replace hB:=(zAa (zAa hB Bz) (by go_grown)).trans (hg32.below (by have:=zw hB Bz;omega) (fun g hg=>by have:=how.base g hg;omega))
     replace hB3:=(zAa (zAa hB3 Bz) (by go_grown)).trans (hg32.below (by have:=hB3.size;have:=Bz.size;omega) (fun g hg=>by have:=how.base g hg;omega))
     clear HX0
     clear HX1
     have nv2_own32:=hg32.ne (zx HX2 Bz).lt ne2_own
     replace HX2:=zh (hg32.bx (zx HX2 Bz) ne2_own)
     have nv3_own32:=hg32.ne (zx HX3 Bz).lt nv3_own
     replace HX3:=zh (hg32.bx (zx HX3 Bz) nv3_own)
     have nv4_own32:=hg32.ne (zx HX4 Bz).lt nv4_own
     replace HX4:=zh (hg32.bx (zx HX4 Bz) nv4_own)
     clear HX5
     clear hdr hdr2
     clear hg32 Bz
     have Bz:=Below.refl w32.heap.size w32
     have p2_1:=(zx HX2 Bz).cell 1 (.slice (some ⟨v1,0,none⟩) 1 1) rfl
     have f2_1:=(zx HX2 Bz).frozen 1
     have y2:=(zx HX2 Bz).lt
     go_upto_region 15 with(fail)
     obtain⟨V36,hW,x,kk,far,bel⟩:=st2_1_1 (.slice H32 (1+1) c32) (zx HX2 Bz) nofun
     rw[←hW]
     clear hW
     replace ho32:=ho32.far3 far nv2_own32
     replace hB:=bel w.heap.size w (by omega) (zAa hB Bz)
     replace hB3:=bel wr.heap.size wr (by omega) (zAa hB3 Bz)
     replace HX3:=zh (far _ _ _ (by omega) (zx HX3 Bz))
     replace HX4:=zh (far _ _ _ (by omega) (zx HX4 Bz))
     replace HX2:=zh x
     clear x kk far bel Bz
     have Bz:=Below.refl V36.heap.size V36
     clear p2_1 f2_1 y2
     obtain⟨p2_0,p2_1,-⟩:=(zx HX2 Bz).cz
     go_wp2_with fail
     with_reducible refine(check_is ((ho32.below (by go_grown)).sl' elt_ly1 rfl) (many_ok2 (hly.below (zAa hB3 (zAa Bz (by go_grown)))) (HX4.out.below (zAa Bz (by go_grown))) (HX3.out.below (zAa Bz (by go_grown))) rfl rfl) (m:=1) (by omega) (by omega) (zh (Tab.below hT.out (zAa hB (zAa (b:=V36) Bz (by go_grown))))) 25 (zh (check_of (many_more HON.out HLN.out)))).mono ?_
     rintro e w33 ⟨rfl,b33⟩
     replace b33:=zAa (a:=V36) (by go_grown) b33
     replace Bz:=zAa Bz b33
     clear b33
     clear p2_0 p2_1
     go_wp2_with fail
     go_ret
     have hF:=zAa (c:=w33) hB Bz
     exact⟨rfl,zAa hF (by go_grown)⟩
open Go.RowKit Tw
theorem lone_sizes {w:World} {lb:Nat} {inp:Int} {l:List Int} (h:Lone w lb inp (.ok l)) (hT:Hid (Tab w)) :
  Calls Tryd.prog 6 #[.agg #[.int .i64 inp,.slice (some ⟨lb,0,none⟩) 1 1]] w (TellsL w l):=by
 obtain⟨y,h1,h2,h3⟩:=h
 exact sizes_is h1 h2 (by omega) (by omega) hT l (zh (list_of h3))
theorem lone_check {w:World} {lb:Nat} {inp:Int} {r:Except Int (List Int)} (h:Lone w lb inp r) (hT:Hid (Tab w)) (z:Int) (hz:Hid (codeF r=z)) :
  Calls Tryd.prog 5 #[.agg #[.int .i64 inp,.slice (some ⟨lb,0,none⟩) 1 1]] w fun e w'=>e=.returned (.int .i64 z)∧Below w.heap.size w w':=by
 obtain⟨y,h1,h2,h3⟩:=h
 exact check_is h1 h2 (by omega) (by omega) hT z (zh ((check_of h3).trans hz.out))
theorem query_err {inp:Int} {L:List Ly} {q:Qy} {z:Int} (h:zAc inp L=.error z):queryF inp L q=z:=by unfold queryF;rw[h]
theorem query_bad {inp:Int} {L:List Ly} {l:List Int} {q:Qy} (h:zAc inp L=.ok l) (ho:okQ inp q=false):queryF inp L q=22:=by unfold queryF;rw[h];simp only;rw[if_pos ho]
theorem query_norm {inp:Int} {L:List Ly} {l:List Int} {q:Qy} (h:zAc inp L=.ok l) (hn:q.norm=3):queryF inp L q=22:=by
 unfold queryF;rw[h];simp only
 by_cases ho:okQ inp q=false
 ·rw[if_pos ho]
 ·rw[if_neg ho,if_pos ⟨by rw[hn];decide,by rw[hn];decide⟩]
theorem okQ_count {inp:Int} {q:Qy} (h:¬(q.xn:Int)=inp):okQ inp q=false:=by unfold okQ okV;rw[show q.x.n=q.xn from rfl,decide_eq_false h];rfl
theorem okQ_raw {inp:Int} {q:Qy} {x:Fr} (hx:x∈q.X) (he:x.ex=false):okQ inp q=false:=by
 have h1:(q.x.L.all fun x=>x.ex)=false:=List.all_eq_false.2 ⟨x,hx,by simp[he]⟩
 unfold okQ okV
 rw[h1];simp
theorem QyOk.norm {w:World} {m:Nat} {q:Qy} (h:QyOk w m q) (k:Int):QyOk w m { q with norm:=k }:=⟨h.x,h.o,h.h⟩
theorem AllQ.fr {w:World} {a:Rat} {L:List Fr} (h:AllQ w a L):∀x∈L,FrOk w 1 x:=fun x hx=>(h x hx).1
theorem exQuery_two {w:World} (lo hi label:Int) (hlo:-1000≤lo∧lo≤1000) (hhi:-1000≤hi∧hi≤1000) (hT:Hid (Tab w)) :
  Calls Tryd.prog 9 #[.int .i64 2,.int .i64 lo,.int .i64 hi,.int .i64 label] w fun e w'=>∃(g xc:Nat) (oA:Option Addr) (oc:Nat) (hA:Option Addr) (hc:Nat) (X O H:List Fr),
   e=.returned (.agg #[.slice (some ⟨g,0,none⟩) 2 xc,.int .i64 label,.slice oA 2 oc,.slice hA 2 hc,.int .u8 1])∧OwnR w' w.heap.size 27 4 (.slice (some ⟨g,0,none⟩) 2 xc) 2 (flat Fr.cs X)∧OwnR w' w.heap.size 27 4 (.slice oA 2 oc) 2 (flat Fr.cs O)∧OwnR w' w.heap.size 27 4 (.slice hA 2 hc) 2 (flat Fr.cs H)∧
   Ap (.slice oA 2 oc) (.slice (some ⟨g,0,none⟩) 2 xc)∧Ap (.slice hA 2 hc) (.slice (some ⟨g,0,none⟩) 2 xc)∧AllQ w' 0 X∧AllQ w' (qof lo 1) O∧AllQ w' (qof hi 1) H∧Hid (X.length=2∧O.length=2∧H.length=2)∧Below w.heap.size w w' :=
 (exQuery_own 2 (by decide) lo hi label hlo hhi hT).mono fun e w' ⟨q,h1,h2,h3,h4,h5,h6,h7,h8,h9,h10,h11,⟨h12,h13,h14⟩,h15,h16⟩=>by
  obtain⟨xA,xn,xc,X,lb,oA,on,oc,O,hA,hn,hc,H,nm⟩:=q
  dsimp only at h1 h3 h4 h5 h6 h7 h8 h9 h10 h12 h13 h14 h15 h16
  subst h3 h4 h5 h6 h7
  obtain⟨g,rfl⟩:=h12.some (by decide)
  exact⟨g,xc,oA,oc,hA,hc,X,O,H,h1,h12,h13,h14,h15.symm,h16.symm,h8,h9,h10,zh ⟨h2.x.1.1,h2.o.1.1,h2.h.1.1⟩,h11⟩
theorem fr_store1 {w:World} {B g n cap:Nat} {L:List Fr} (h:OwnR w B 27 4 (.slice (some ⟨g,0,none⟩) n cap) n (flat Fr.cs L)) {y:Fr} (hy:L[1]?=some y) (x:Fr) :
  ∃V,V=(((w.setCell ⟨g,4,none⟩ (.bool x.s)).setCell ⟨g,5,none⟩ (.slice x.A x.l x.c)).setCell ⟨g,6,none⟩ (.bool x.s')).setCell ⟨g,7,none⟩ (.slice x.A' x.l' x.c')∧
   OwnR V B 27 4 (.slice (some ⟨g,0,none⟩) n cap) n (flat Fr.cs (L.set 1 x))∧Grew w V (.slice (some ⟨g,0,none⟩) n cap) (.slice (some ⟨g,0,none⟩) n cap):=by
 have:=elt_rat.sets h hy (y:=x) [(0,.bool x.s),(1,.slice x.A x.l x.c),(2,.bool x.s'),(3,.slice x.A' x.l' x.c')] (fun p hp=>by simp at hp;rcases hp with rfl | rfl | rfl | rfl<;>exact⟨by simp,by simp⟩) rfl
 exact⟨_,rfl,this⟩
theorem qy_set {w:World} {B1 B2 B3 g xc oc hc:Nat} {oA hA:Option Addr} {X O H:List Fr} {a b c:Rat} {r:Fr} {label:Int} (hX:OwnR w B1 27 4 (.slice (some ⟨g,0,none⟩) 2 xc) 2 (flat Fr.cs (X.set 1 r))) (hO:OwnR w B2 27 4 (.slice oA 2 oc) 2 (flat Fr.cs O)) (hH:OwnR w B3 27 4 (.slice hA 2 hc) 2 (flat Fr.cs H))
  (aX:AllQ w a X) (aO:AllQ w b O) (aH:AllQ w c H) (hr:FrOk w 1 r) (hl:Hid (X.length=2∧O.length=2∧H.length=2)):QyOk w 1 ⟨some ⟨g,0,none⟩,2,xc,X.set 1 r,label,oA,2,oc,O,hA,2,hc,H,1⟩ :=
 ⟨⟨hX.sl' elt_rat (by rw[List.length_set];exact hl.out.1),fun x hx=>by rcases List.mem_or_eq_of_mem_set hx with hx | rfl;exact aX.fr x hx;exact hr,(by show(2:Nat)≤100000;decide)⟩,⟨hO.sl' elt_rat hl.out.2.1,aO.fr,(by show(2:Nat)≤100000;decide)⟩,⟨hH.sl' elt_rat hl.out.2.2,aH.fr,(by show(2:Nat)≤100000;decide)⟩⟩
def wideR (n:Nat):Except Int (List Int):=if 256<n then .error 25 else .ok [1,n]
theorem wide_lone {w:World} {r b l n:Nat} {ZV ZR:Array Value} {tV tR tL:TypeId} (hn:0<n∧n≤1000) (h1:Bx w r ZV tV) (h2:Bx w b ZR tR) (h3:Bx w l #[.int .u8 1,.slice (some ⟨r,0,none⟩) n n,.slice (some ⟨b,0,none⟩) n n,.int .i64 0,.int .i64 0,.int .i64 0,.int .i64 0,.int .i64 0,.int .i64 0,.int .i64 0,.int .i64 0,.slice none 0 0,.slice none 0 0] tL)
  (hV:ZV.toList=flat Vc.cs (List.replicate n ⟨none,0,0,[]⟩)) (hR:ZR.toList=flat Fr.cs (List.replicate n zFr)):Lone w l 1 (wideR n) :=
 Lone.of h3 rfl (bareY_ok (zV h1 hV) (nil_ok fun v hv=>List.eq_of_mem_replicate hv) (zR h2 hR) (z_ok fun x hx=>List.eq_of_mem_replicate hx) (Sl.nil _) (fun _ h=>(by cases h)) (by omega)) (sn_wide n hn.1)
theorem mk_wp {t te:TypeId} {m:Int} {n:Nat} {Z:Array Value} (hr:∀w:World,(Instr.makeSlice t (.int .i64 m) (.int .i64 m)).run Tryd.prog w=.ok (.slice (some ⟨w.heap.size,0,none⟩) n n) (w.alloc (.cells Z te))) {w:World} {o:Oper} {a:Act} {K:Act→World→Prop} {Q:Exit→Act→World→Prop} (l c:Operand) (ho:o.op=.makeSlice t l c) (hl:a.eval l=.int .i64 m) (hc:a.eval c=.int .i64 m)
  (h:K (a.put o.dst (.slice (some ⟨w.heap.size,0,none⟩) n n)) (w.alloc (.cells Z te))):o.wp Tryd.prog a w K Q:=by
 unfold Oper.wp
 simp[execOp,ho,hl,hc,hr,Result.andThen]
 exact h
theorem qyIs_cnt {q:Qy} {n:Nat} {a b:Rat} {l:Int} (h:QyIs q n a b l):q.xn=n:=h.2.2.1
theorem lys_nil (w:World) {m:Nat}:LysOk w m []:=fun _ h=>(by cases h)
def reluY:Ly:=bareY 3 none 0 0 [] none 0 0 [] none 0 0 []
theorem relu_ok {w:World} {n:Nat}:LysOk w 1 (List.replicate n reluY):=fun y hy=>by
 rw[List.eq_of_mem_replicate hy]
 exact bareY_ok (w:=w) (kind:=3) (Sl.nil _) (fun _ h=>(by cases h)) (Sl.nil _) (fun _ h=>(by cases h)) (Sl.nil _) (fun _ h=>(by cases h)) (by decide) _ (List.mem_singleton.2 rfl)
def DP17 (w wq:World) (bq gk:Nat) (s:Value) (wr:World):Prop:=∃(i:Nat) (H:Option Addr) (hc:Nat),i≤17∧17-i=gk∧s=.int .i64 (i:Int)∧Below w.heap.size w wr∧Bx wr bq #[.int .i64 1,.slice H i hc] 30∧OwnR wr (bq+1) 38 13 (.slice H i hc) i (flat Ly.cs (List.replicate i reluY))∧Below wq.heap.size wq wr
open Go.RowKit Tw
theorem Act.put_swap {a:Act} {d e:Nat} {x y:Value} (h:d≠e):(a.put (some d) x).put (some e) y=(a.put (some e) y).put (some d) x:=by
 unfold Act.put
 simp only
 rw[Array.setIfInBounds_comm _ _ h]
theorem bd_run {t:TypeId} {parts:Array (Nat×Operand)} {o:Oper} {v:Value} (a:Act) (w:World) (ho:o.op=.build t parts) (h:(Instr.build t (parts.map fun(i,x)=>(i,a.eval x))).run Tryd.prog w=.ok v w):(execOp a.eval o).run Tryd.prog w=.ok (.value v) w:=by
 simp[execOp,ho,h]
theorem bs_wp {t:TypeId} {n:Nat} {parts:Array (Nat×Operand)} {w W:World} {o:Oper} {a:Act} {v:Value} {K:Act→World→Prop} {Q:Exit→Act→World→Prop} (ho:o.op=.buildSlice t n parts) (hr:(Instr.buildSlice t n (parts.map fun(i,x)=>(i,a.eval x))).run Tryd.prog w=.ok v W) (h:K (a.put o.dst v) W):o.wp Tryd.prog a w K Q:=by
 unfold Oper.wp
 simp[execOp,ho,hr,Result.andThen]
 exact h
theorem al_wp {t:TypeId} {w W:World} {o:Oper} {a:Act} {v:Value} {K:Act→World→Prop} {Q:Exit→Act→World→Prop} (ho:o.op=.alloc t) (hr:(Instr.alloc t true (.tuple #[])).run Tryd.prog w=.ok v W) (h:K (a.put o.dst v) W):o.wp Tryd.prog a w K Q:=by
 unfold Oper.wp
 simp[execOp,ho,hr,Result.andThen]
 exact h
theorem st_wp {t:TypeId} {w W:World} {o:Oper} {a:Act} {x y:Operand} {p v:Value} {K:Act→World→Prop} {Q:Exit→Act→World→Prop} (ho:o.op=.store t x y) (hx:a.eval x=p) (hy:a.eval y=v) (hr:(Instr.storeAt t p v).run Tryd.prog w=.ok () W) (h:K (a.put o.dst undef) W):o.wp Tryd.prog a w K Q:=by
 unfold Oper.wp
 simp[execOp,ho,hx,hy,hr,Result.andThen]
 exact h
theorem zAf (a:Act) (d:Option Tmp) (v:Value):(a.put d v).tmps.size=a.tmps.size:=by
 cases d<;>simp[Act.put]
theorem zAd (a:Act) (d:Nat) (v:Value) (h:d<a.tmps.size):(a.put (some d) v).eval (.tmp d)=v:=by
 simp[Act.put,Act.eval,Array.getD,h]
theorem ev_ne (a:Act) (d j:Nat) (v:Value) (h:d≠j):(a.put (some d) v).eval (.tmp j)=a.eval (.tmp j):=by
 simp only[Act.put,Act.eval,Array.getD_eq_getD_getElem?]
 rw[Array.getElem?_setIfInBounds_ne h]
theorem ev_const {a:Act} {v:Value}:a.eval (.const v)=v:=rfl
theorem put_none {a:Act} {v:Value}:a.put none v=a:=rfl
theorem below_drew (w:World):Below w.heap.size w w.drew:=by go_grown
theorem ly_build (x y:Option Addr) (n m:Nat) (w:World):(Instr.build 38 #[(0,.int .u8 1),(1,.slice x n n),(2,.slice y m m)]).run Tryd.prog w=.ok (.agg #[.int .u8 1,.slice x n n,.slice y m m,.int .i64 0,.int .i64 0,.int .i64 0,.int .i64 0,.int .i64 0,.int .i64 0,.int .i64 0,.int .i64 0,.slice none 0 0,.slice none 0 0]) w:=by
 go_simp<;>with_reducible rfl
theorem net_build (x:Option Addr) (w:World):(Instr.build 30 #[(0,.int .i64 1),(1,.slice x 1 1)]).run Tryd.prog w=.ok (.agg #[.int .i64 1,.slice x 1 1]) w:=by
 go_simp<;>with_reducible rfl
theorem ly_make (x y:Value) (w:World):(Instr.buildSlice 28 1 #[(0,.agg #[.int .u8 1,x,y,.int .i64 0,.int .i64 0,.int .i64 0,.int .i64 0,.int .i64 0,.int .i64 0,.int .i64 0,.int .i64 0,.slice none 0 0,.slice none 0 0])]).run Tryd.prog w=.ok (.slice (some ⟨w.heap.size,0,none⟩) 1 1) (w.alloc (.cells #[.int .u8 1,x,y,.int .i64 0,.int .i64 0,.int .i64 0,.int .i64 0,.int .i64 0,.int .i64 0,.int .i64 0,.int .i64 0,.slice none 0 0,.slice none 0 0] 38)):=by
 go_simp<;>with_reducible rfl
theorem net_make (w:World):(Instr.alloc 30 true (.tuple #[])).run Tryd.prog w=.ok (.pointer (some ⟨w.heap.size,0,none⟩)) (w.alloc (.cells #[.int .i64 0,.slice none 0 0] 30)):=by
 go_simp<;>with_reducible rfl
theorem net_put {w:World} {b:Nat} (h:Bx w b #[.int .i64 0,.slice none 0 0] 30) (A:Option Addr):(Instr.storeAt 30 (.pointer (some ⟨b,0,none⟩)) (.agg #[.int .i64 1,.slice A 1 1])).run Tryd.prog w=.ok () ((w.setCell ⟨b,0,none⟩ (.int .i64 1)).setCell ⟨b,1,none⟩ (.slice A 1 1)):=by
 have p0:=h.cell 0 (.int .i64 0) rfl
 have p1:=h.cell 1 (.slice none 0 0) rfl
 have f0:=h.frozen 0
 have f1:=h.frozen 1
 have y0:=h.lt
 go_simp<;>with_reducible rfl
theorem wide_47 {w:World} {a:Act} {Q:Exit→Act→World→Prop} (hs:168<a.tmps.size)
  (hQ:∀(x1 x2 x3 x4 x5:Value) (nb lb:Nat) (W:World),Bx W nb #[.int .i64 1,.slice (some ⟨lb,0,none⟩) 1 1] 30→Lone W lb 1 (wideR 256)→Below w.heap.size w W→Q .normal (((((((a.put (some 164) x1).put (some 165) x2).put (some 166) x3).put (some 167) x4).put (some 168) x5).put (some 7) (.pointer (some ⟨nb,0,none⟩)))) W) :
  (Code.region 47 #[{ dst := some 164, op := Op.makeSlice 34 (Operand.const (Value.int IntKind.i64 256)) (Operand.const (Value.int IntKind.i64 256)), type := 34, pos := "law.go:89", after := #[], guard := none }, { dst := some 165, op := Op.makeSlice 35 (Operand.const (Value.int IntKind.i64 256)) (Operand.const (Value.int IntKind.i64 256)), type := 35, pos := "law.go:89", after := #[], guard := none }, { dst := some 166, op := Op.build 38 #[(0, Operand.const (Value.int IntKind.u8 1)), (1, Operand.tmp 164), (2, Operand.tmp 165)], type := 38, pos := "law.go:89", after := #[{ on := 0, ground := Ground.data }, { on := 1, ground := Ground.data }], guard := none }, { dst := some 167, op := Op.buildSlice 28 1 #[(0, Operand.tmp 166)], type := 28, pos := "law.go:89", after := #[{ on := 2, ground := Ground.data }], guard := none }, { dst := some 168, op := Op.build 30 #[(0, Operand.const (Value.int IntKind.i64 1)), (1, Operand.tmp 167)], type := 30, pos := "law.go:89", after := #[{ on := 3, ground := Ground.data }], guard := none }, { dst := some 7, op := Op.alloc 30, type := 0, pos := "law.go:89", after := #[], guard := none }, { dst := none, op := Op.store 30 (Operand.tmp 7) (Operand.tmp 168), type := 0, pos := "law.go:89", after := #[{ on := 5, ground := Ground.data }, { on := 4, ground := Ground.data }, { on := 0, ground := Ground.phase }, { on := 1, ground := Ground.phase }, { on := 2, ground := Ground.phase }, { on := 3, ground := Ground.phase }, { on := 4, ground := Ground.phase }, { on := 5, ground := Ground.phase }], guard := none }] true).wp Tryd.prog Q a w := by
 obtain⟨ZV,hZV,hmV⟩:=makeV 256 256 rfl (by decide)
 obtain⟨ZR,hZR,hmR⟩:=makeR 256 256 rfl (by decide)
 refine P3.wp_region_plan (.three 0 (.two 1 (.pure 2 (.two 3 (.pure 4 (.only 5 (.only 6 (.done)))) 5 (.only 3 (.pure 4 (.only 6 (.done)))))) 5 (.only 1 (.pure 2 (.only 3 (.pure 4 (.only 6 (.done))))))) 1 (.two 0 (.pure 2 (.two 3 (.pure 4 (.only 5 (.only 6 (.done)))) 5 (.only 3 (.pure 4 (.only 6 (.done)))))) 5 (.only 0 (.pure 2 (.only 3 (.pure 4 (.only 6 (.done))))))) 5 (.two 0 (.only 1 (.pure 2 (.only 3 (.pure 4 (.only 6 (.done)))))) 1 (.only 0 (.pure 2 (.only 3 (.pure 4 (.only 6 (.done)))))))) [6] (fun _=>True) rfl (by decide +kernel) trivial ?_
 have z0:Below w.heap.size w w.drew:=below_drew w
 refine P3.wpPlan_three (o:=⟨some 164,_,_,_,_,_⟩) (o':=⟨some 165,_,_,_,_,_⟩) (o'':=⟨some 7,_,_,_,_,_⟩) rfl rfl rfl rfl rfl rfl  (fun K hK=>?_) (fun K hK=>?_) (fun K hK=>?_) 
 ·refine mk_wp hmV _ _ rfl rfl rfl ?_
  refine hK.out _ _ trivial (fun _=>?_)
  clear hK K
  obtain⟨W1,hW,x1,hN1⟩:=zAb w.drew ZV 54
  rw[←hW]
  clear hW
  obtain⟨b1,hb1⟩:∃b,b=w.drew.heap.size:=⟨_,rfl⟩
  rw[←hb1] at x1 ⊢
  have z1:=zAa z0 hN1
  have s1:=z1.size
  have u1:=(z0).size
  obtain⟨a1,ha1⟩:∃x,x=(a.put (some 164) (.slice (some ⟨b1,0,none⟩) 256 256)):=⟨_,rfl⟩
  change P3.wpPlan _ _ _ _ _ _ (a.put (some 164) (.slice (some ⟨b1,0,none⟩) 256 256)) _
  rw[←ha1]
  have hs1:168<a1.tmps.size:=by rw[ha1,zAf];exact hs
  have e1_164:a1.eval (.tmp 164)=.slice (some ⟨b1,0,none⟩) 256 256:=by rw[ha1];exact zAd _ _ _ (by omega)
  refine P3.wpPlan_two (o:=⟨some 165,_,_,_,_,_⟩) (o':=⟨some 7,_,_,_,_,_⟩) rfl rfl rfl rfl  (fun K hK=>?_) (fun K hK=>?_) 
  ·refine mk_wp hmR _ _ rfl rfl rfl ?_
   refine hK.out _ _ trivial (fun _=>?_)
   clear hK K
   obtain⟨W2,hW,x2,hN2⟩:=zAb W1 ZR 27
   rw[←hW]
   clear hW
   obtain⟨b2,hb2⟩:∃b,b=W1.heap.size:=⟨_,rfl⟩
   rw[←hb2] at x2 ⊢
   have y2_v:=x1.below hN2
   have o2_v:=x1.lt
   have z2:=zAa z1 hN2
   have s2:=z2.size
   have u2:=(z1).size
   obtain⟨a2,ha2⟩:∃x,x=(a1.put (some 165) (.slice (some ⟨b2,0,none⟩) 256 256)):=⟨_,rfl⟩
   change P3.wpPlan _ _ _ _ _ _ (a1.put (some 165) (.slice (some ⟨b2,0,none⟩) 256 256)) _
   rw[←ha2]
   have hs2:168<a2.tmps.size:=by rw[ha2,zAf];exact hs1
   have e2_164:a2.eval (.tmp 164)=.slice (some ⟨b1,0,none⟩) 256 256:=by rw[ha2];exact(ev_ne _ _ _ _ (by decide)).trans e1_164
   have e2_165:a2.eval (.tmp 165)=.slice (some ⟨b2,0,none⟩) 256 256:=by rw[ha2];exact zAd _ _ _ (by omega)
   refine P3.wpPlan_pure (o:=⟨some 166,_,_,_,_,_⟩) (v:=.agg #[.int .u8 1,.slice (some ⟨b1,0,none⟩) 256 256,.slice (some ⟨b2,0,none⟩) 256 256,.int .i64 0,.int .i64 0,.int .i64 0,.int .i64 0,.int .i64 0,.int .i64 0,.int .i64 0,.int .i64 0,.slice none 0 0,.slice none 0 0]) rfl rfl (fun w'=>bd_run _ w' rfl (by simp only[List.map_toArray,List.map_cons,List.map_nil,ev_const,e2_164,e2_165];exact ly_build _ _ _ _ _)) ?_
   obtain⟨a3,ha3⟩:∃x,x=(a2.put (some 166) (.agg #[.int .u8 1,.slice (some ⟨b1,0,none⟩) 256 256,.slice (some ⟨b2,0,none⟩) 256 256,.int .i64 0,.int .i64 0,.int .i64 0,.int .i64 0,.int .i64 0,.int .i64 0,.int .i64 0,.int .i64 0,.slice none 0 0,.slice none 0 0])):=⟨_,rfl⟩
   change P3.wpPlan _ _ _ _ _ _ (a2.put (some 166) (.agg #[.int .u8 1,.slice (some ⟨b1,0,none⟩) 256 256,.slice (some ⟨b2,0,none⟩) 256 256,.int .i64 0,.int .i64 0,.int .i64 0,.int .i64 0,.int .i64 0,.int .i64 0,.int .i64 0,.int .i64 0,.slice none 0 0,.slice none 0 0])) _
   rw[←ha3]
   have hs3:168<a3.tmps.size:=by rw[ha3,zAf];exact hs2
   have e3_164:a3.eval (.tmp 164)=.slice (some ⟨b1,0,none⟩) 256 256:=by rw[ha3];exact(ev_ne _ _ _ _ (by decide)).trans e2_164
   have e3_165:a3.eval (.tmp 165)=.slice (some ⟨b2,0,none⟩) 256 256:=by rw[ha3];exact(ev_ne _ _ _ _ (by decide)).trans e2_165
   have e3_166:a3.eval (.tmp 166)=.agg #[.int .u8 1,.slice (some ⟨b1,0,none⟩) 256 256,.slice (some ⟨b2,0,none⟩) 256 256,.int .i64 0,.int .i64 0,.int .i64 0,.int .i64 0,.int .i64 0,.int .i64 0,.int .i64 0,.int .i64 0,.slice none 0 0,.slice none 0 0]:=by rw[ha3];exact zAd _ _ _ (by omega)
   refine P3.wpPlan_two (o:=⟨some 167,_,_,_,_,_⟩) (o':=⟨some 7,_,_,_,_,_⟩) rfl rfl rfl rfl  (fun K hK=>?_) (fun K hK=>?_) 
   ·refine bs_wp (v:=.slice (some ⟨W2.heap.size,0,none⟩) 1 1) (W:=W2.alloc (.cells #[.int .u8 1,.slice (some ⟨b1,0,none⟩) 256 256,.slice (some ⟨b2,0,none⟩) 256 256,.int .i64 0,.int .i64 0,.int .i64 0,.int .i64 0,.int .i64 0,.int .i64 0,.int .i64 0,.int .i64 0,.slice none 0 0,.slice none 0 0] 38)) rfl (by simp only[List.map_toArray,List.map_cons,List.map_nil,e3_166];exact ly_make _ _ _) ?_
    refine hK.out _ _ trivial (fun _=>?_)
    clear hK K
    obtain⟨W3,hW,x3,hN3⟩:=zAb W2 #[.int .u8 1,.slice (some ⟨b1,0,none⟩) 256 256,.slice (some ⟨b2,0,none⟩) 256 256,.int .i64 0,.int .i64 0,.int .i64 0,.int .i64 0,.int .i64 0,.int .i64 0,.int .i64 0,.int .i64 0,.slice none 0 0,.slice none 0 0] 38
    rw[←hW]
    clear hW
    obtain⟨b3,hb3⟩:∃b,b=W2.heap.size:=⟨_,rfl⟩
    rw[←hb3] at x3 ⊢
    have y3_v:=y2_v.below hN3
    have o3_v:=y2_v.lt
    have y3_r:=x2.below hN3
    have o3_r:=x2.lt
    have z3:=zAa z2 hN3
    have s3:=z3.size
    have u3:=(z2).size
    obtain⟨a4,ha4⟩:∃x,x=(a3.put (some 167) (.slice (some ⟨b3,0,none⟩) 1 1)):=⟨_,rfl⟩
    change P3.wpPlan _ _ _ _ _ _ (a3.put (some 167) (.slice (some ⟨b3,0,none⟩) 1 1)) _
    rw[←ha4]
    have hs4:168<a4.tmps.size:=by rw[ha4,zAf];exact hs3
    have e4_164:a4.eval (.tmp 164)=.slice (some ⟨b1,0,none⟩) 256 256:=by rw[ha4];exact(ev_ne _ _ _ _ (by decide)).trans e3_164
    have e4_165:a4.eval (.tmp 165)=.slice (some ⟨b2,0,none⟩) 256 256:=by rw[ha4];exact(ev_ne _ _ _ _ (by decide)).trans e3_165
    have e4_166:a4.eval (.tmp 166)=.agg #[.int .u8 1,.slice (some ⟨b1,0,none⟩) 256 256,.slice (some ⟨b2,0,none⟩) 256 256,.int .i64 0,.int .i64 0,.int .i64 0,.int .i64 0,.int .i64 0,.int .i64 0,.int .i64 0,.int .i64 0,.slice none 0 0,.slice none 0 0]:=by rw[ha4];exact(ev_ne _ _ _ _ (by decide)).trans e3_166
    have e4_167:a4.eval (.tmp 167)=.slice (some ⟨b3,0,none⟩) 1 1:=by rw[ha4];exact zAd _ _ _ (by omega)
    refine P3.wpPlan_pure (o:=⟨some 168,_,_,_,_,_⟩) (v:=.agg #[.int .i64 1,.slice (some ⟨b3,0,none⟩) 1 1]) rfl rfl (fun w'=>bd_run _ w' rfl (by simp only[List.map_toArray,List.map_cons,List.map_nil,ev_const,e4_167];exact net_build _ _)) ?_
    obtain⟨a5,ha5⟩:∃x,x=(a4.put (some 168) (.agg #[.int .i64 1,.slice (some ⟨b3,0,none⟩) 1 1])):=⟨_,rfl⟩
    change P3.wpPlan _ _ _ _ _ _ (a4.put (some 168) (.agg #[.int .i64 1,.slice (some ⟨b3,0,none⟩) 1 1])) _
    rw[←ha5]
    have hs5:168<a5.tmps.size:=by rw[ha5,zAf];exact hs4
    have e5_164:a5.eval (.tmp 164)=.slice (some ⟨b1,0,none⟩) 256 256:=by rw[ha5];exact(ev_ne _ _ _ _ (by decide)).trans e4_164
    have e5_165:a5.eval (.tmp 165)=.slice (some ⟨b2,0,none⟩) 256 256:=by rw[ha5];exact(ev_ne _ _ _ _ (by decide)).trans e4_165
    have e5_166:a5.eval (.tmp 166)=.agg #[.int .u8 1,.slice (some ⟨b1,0,none⟩) 256 256,.slice (some ⟨b2,0,none⟩) 256 256,.int .i64 0,.int .i64 0,.int .i64 0,.int .i64 0,.int .i64 0,.int .i64 0,.int .i64 0,.int .i64 0,.slice none 0 0,.slice none 0 0]:=by rw[ha5];exact(ev_ne _ _ _ _ (by decide)).trans e4_166
    have e5_167:a5.eval (.tmp 167)=.slice (some ⟨b3,0,none⟩) 1 1:=by rw[ha5];exact(ev_ne _ _ _ _ (by decide)).trans e4_167
    have e5_168:a5.eval (.tmp 168)=.agg #[.int .i64 1,.slice (some ⟨b3,0,none⟩) 1 1]:=by rw[ha5];exact zAd _ _ _ (by omega)
    refine P3.wpPlan_call (o:=⟨some 7,_,_,_,_,_⟩)  rfl rfl ?_
    intro K hK
    refine al_wp rfl (net_make _) ?_
    refine hK.out _ _ trivial (fun _=>?_)
    clear hK K
    obtain⟨W4,hW,x4,hN4⟩:=zAb W3 #[.int .i64 0,.slice none 0 0] 30
    rw[←hW]
    clear hW
    obtain⟨b4,hb4⟩:∃b,b=W3.heap.size:=⟨_,rfl⟩
    rw[←hb4] at x4 ⊢
    have y4_v:=y3_v.below hN4
    have o4_v:=y3_v.lt
    have y4_r:=y3_r.below hN4
    have o4_r:=y3_r.lt
    have y4_l:=x3.below hN4
    have o4_l:=x3.lt
    have z4:=zAa z3 hN4
    have s4:=z4.size
    have u4:=(z3).size
    obtain⟨a6,ha6⟩:∃x,x=(a5.put (some 7) (.pointer (some ⟨b4,0,none⟩))):=⟨_,rfl⟩
    change P3.wpPlan _ _ _ _ _ _ (a5.put (some 7) (.pointer (some ⟨b4,0,none⟩))) _
    rw[←ha6]
    have hs6:168<a6.tmps.size:=by rw[ha6,zAf];exact hs5
    have e6_164:a6.eval (.tmp 164)=.slice (some ⟨b1,0,none⟩) 256 256:=by rw[ha6];exact(ev_ne _ _ _ _ (by decide)).trans e5_164
    have e6_165:a6.eval (.tmp 165)=.slice (some ⟨b2,0,none⟩) 256 256:=by rw[ha6];exact(ev_ne _ _ _ _ (by decide)).trans e5_165
    have e6_166:a6.eval (.tmp 166)=.agg #[.int .u8 1,.slice (some ⟨b1,0,none⟩) 256 256,.slice (some ⟨b2,0,none⟩) 256 256,.int .i64 0,.int .i64 0,.int .i64 0,.int .i64 0,.int .i64 0,.int .i64 0,.int .i64 0,.int .i64 0,.slice none 0 0,.slice none 0 0]:=by rw[ha6];exact(ev_ne _ _ _ _ (by decide)).trans e5_166
    have e6_167:a6.eval (.tmp 167)=.slice (some ⟨b3,0,none⟩) 1 1:=by rw[ha6];exact(ev_ne _ _ _ _ (by decide)).trans e5_167
    have e6_168:a6.eval (.tmp 168)=.agg #[.int .i64 1,.slice (some ⟨b3,0,none⟩) 1 1]:=by rw[ha6];exact(ev_ne _ _ _ _ (by decide)).trans e5_168
    have e6_7:a6.eval (.tmp 7)=.pointer (some ⟨b4,0,none⟩):=by rw[ha6];exact zAd _ _ _ (by omega)
    refine P3.wpPlan_late (o:=⟨none,_,_,_,_,_⟩)  rfl rfl (List.mem_singleton.2 rfl) ?_
    intro K hK
    refine st_wp rfl e6_7 e6_168 (net_put x4 _) ?_
    refine hK.out _ _ ?_
    clear hK K
    refine P3.wpPlan_done ?_
    rw[put_none]
    obtain⟨W5,hW,x,kk,far,bel⟩:=store2 (.int .i64 1) (.slice (some ⟨b3,0,none⟩) 1 1) x4 nofun nofun
    rw[←hW]
    clear hW
    rw[ha6,ha5,ha4,ha3,ha2,ha1]
    exact hQ _ _ _ _ _ _ _ _ x (wide_lone (by decide) (far _ _ _ (by omega) y4_v) (far _ _ _ (by omega) y4_r) (far _ _ _ (by omega) y4_l) hZV hZR) (bel _ _ (by omega) z4)
   ·refine al_wp rfl (net_make _) ?_
    refine hK.out _ _ trivial (fun _=>?_)
    clear hK K
    obtain⟨W3,hW,x3,hN3⟩:=zAb W2 #[.int .i64 0,.slice none 0 0] 30
    rw[←hW]
    clear hW
    obtain⟨b3,hb3⟩:∃b,b=W2.heap.size:=⟨_,rfl⟩
    rw[←hb3] at x3 ⊢
    have y3_v:=y2_v.below hN3
    have o3_v:=y2_v.lt
    have y3_r:=x2.below hN3
    have o3_r:=x2.lt
    have z3:=zAa z2 hN3
    have s3:=z3.size
    have u3:=(z2).size
    obtain⟨a4,ha4⟩:∃x,x=(a3.put (some 7) (.pointer (some ⟨b3,0,none⟩))):=⟨_,rfl⟩
    change P3.wpPlan _ _ _ _ _ _ (a3.put (some 7) (.pointer (some ⟨b3,0,none⟩))) _
    rw[←ha4]
    have hs4:168<a4.tmps.size:=by rw[ha4,zAf];exact hs3
    have e4_164:a4.eval (.tmp 164)=.slice (some ⟨b1,0,none⟩) 256 256:=by rw[ha4];exact(ev_ne _ _ _ _ (by decide)).trans e3_164
    have e4_165:a4.eval (.tmp 165)=.slice (some ⟨b2,0,none⟩) 256 256:=by rw[ha4];exact(ev_ne _ _ _ _ (by decide)).trans e3_165
    have e4_166:a4.eval (.tmp 166)=.agg #[.int .u8 1,.slice (some ⟨b1,0,none⟩) 256 256,.slice (some ⟨b2,0,none⟩) 256 256,.int .i64 0,.int .i64 0,.int .i64 0,.int .i64 0,.int .i64 0,.int .i64 0,.int .i64 0,.int .i64 0,.slice none 0 0,.slice none 0 0]:=by rw[ha4];exact(ev_ne _ _ _ _ (by decide)).trans e3_166
    have e4_7:a4.eval (.tmp 7)=.pointer (some ⟨b3,0,none⟩):=by rw[ha4];exact zAd _ _ _ (by omega)
    refine P3.wpPlan_call (o:=⟨some 167,_,_,_,_,_⟩)  rfl rfl ?_
    intro K hK
    refine bs_wp (v:=.slice (some ⟨W3.heap.size,0,none⟩) 1 1) (W:=W3.alloc (.cells #[.int .u8 1,.slice (some ⟨b1,0,none⟩) 256 256,.slice (some ⟨b2,0,none⟩) 256 256,.int .i64 0,.int .i64 0,.int .i64 0,.int .i64 0,.int .i64 0,.int .i64 0,.int .i64 0,.int .i64 0,.slice none 0 0,.slice none 0 0] 38)) rfl (by simp only[List.map_toArray,List.map_cons,List.map_nil,e4_166];exact ly_make _ _ _) ?_
    refine hK.out _ _ trivial (fun _=>?_)
    clear hK K
    obtain⟨W4,hW,x4,hN4⟩:=zAb W3 #[.int .u8 1,.slice (some ⟨b1,0,none⟩) 256 256,.slice (some ⟨b2,0,none⟩) 256 256,.int .i64 0,.int .i64 0,.int .i64 0,.int .i64 0,.int .i64 0,.int .i64 0,.int .i64 0,.int .i64 0,.slice none 0 0,.slice none 0 0] 38
    rw[←hW]
    clear hW
    obtain⟨b4,hb4⟩:∃b,b=W3.heap.size:=⟨_,rfl⟩
    rw[←hb4] at x4 ⊢
    have y4_v:=y3_v.below hN4
    have o4_v:=y3_v.lt
    have y4_r:=y3_r.below hN4
    have o4_r:=y3_r.lt
    have y4_net:=x3.below hN4
    have o4_net:=x3.lt
    have z4:=zAa z3 hN4
    have s4:=z4.size
    have u4:=(z3).size
    obtain⟨a5,ha5⟩:∃x,x=(a4.put (some 167) (.slice (some ⟨b4,0,none⟩) 1 1)):=⟨_,rfl⟩
    change P3.wpPlan _ _ _ _ _ _ (a4.put (some 167) (.slice (some ⟨b4,0,none⟩) 1 1)) _
    rw[←ha5]
    have hs5:168<a5.tmps.size:=by rw[ha5,zAf];exact hs4
    have e5_164:a5.eval (.tmp 164)=.slice (some ⟨b1,0,none⟩) 256 256:=by rw[ha5];exact(ev_ne _ _ _ _ (by decide)).trans e4_164
    have e5_165:a5.eval (.tmp 165)=.slice (some ⟨b2,0,none⟩) 256 256:=by rw[ha5];exact(ev_ne _ _ _ _ (by decide)).trans e4_165
    have e5_166:a5.eval (.tmp 166)=.agg #[.int .u8 1,.slice (some ⟨b1,0,none⟩) 256 256,.slice (some ⟨b2,0,none⟩) 256 256,.int .i64 0,.int .i64 0,.int .i64 0,.int .i64 0,.int .i64 0,.int .i64 0,.int .i64 0,.int .i64 0,.slice none 0 0,.slice none 0 0]:=by rw[ha5];exact(ev_ne _ _ _ _ (by decide)).trans e4_166
    have e5_7:a5.eval (.tmp 7)=.pointer (some ⟨b3,0,none⟩):=by rw[ha5];exact(ev_ne _ _ _ _ (by decide)).trans e4_7
    have e5_167:a5.eval (.tmp 167)=.slice (some ⟨b4,0,none⟩) 1 1:=by rw[ha5];exact zAd _ _ _ (by omega)
    refine P3.wpPlan_pure (o:=⟨some 168,_,_,_,_,_⟩) (v:=.agg #[.int .i64 1,.slice (some ⟨b4,0,none⟩) 1 1]) rfl rfl (fun w'=>bd_run _ w' rfl (by simp only[List.map_toArray,List.map_cons,List.map_nil,ev_const,e5_167];exact net_build _ _)) ?_
    obtain⟨a6,ha6⟩:∃x,x=(a5.put (some 168) (.agg #[.int .i64 1,.slice (some ⟨b4,0,none⟩) 1 1])):=⟨_,rfl⟩
    change P3.wpPlan _ _ _ _ _ _ (a5.put (some 168) (.agg #[.int .i64 1,.slice (some ⟨b4,0,none⟩) 1 1])) _
    rw[←ha6]
    have hs6:168<a6.tmps.size:=by rw[ha6,zAf];exact hs5
    have e6_164:a6.eval (.tmp 164)=.slice (some ⟨b1,0,none⟩) 256 256:=by rw[ha6];exact(ev_ne _ _ _ _ (by decide)).trans e5_164
    have e6_165:a6.eval (.tmp 165)=.slice (some ⟨b2,0,none⟩) 256 256:=by rw[ha6];exact(ev_ne _ _ _ _ (by decide)).trans e5_165
    have e6_166:a6.eval (.tmp 166)=.agg #[.int .u8 1,.slice (some ⟨b1,0,none⟩) 256 256,.slice (some ⟨b2,0,none⟩) 256 256,.int .i64 0,.int .i64 0,.int .i64 0,.int .i64 0,.int .i64 0,.int .i64 0,.int .i64 0,.int .i64 0,.slice none 0 0,.slice none 0 0]:=by rw[ha6];exact(ev_ne _ _ _ _ (by decide)).trans e5_166
    have e6_7:a6.eval (.tmp 7)=.pointer (some ⟨b3,0,none⟩):=by rw[ha6];exact(ev_ne _ _ _ _ (by decide)).trans e5_7
    have e6_167:a6.eval (.tmp 167)=.slice (some ⟨b4,0,none⟩) 1 1:=by rw[ha6];exact(ev_ne _ _ _ _ (by decide)).trans e5_167
    have e6_168:a6.eval (.tmp 168)=.agg #[.int .i64 1,.slice (some ⟨b4,0,none⟩) 1 1]:=by rw[ha6];exact zAd _ _ _ (by omega)
    refine P3.wpPlan_late (o:=⟨none,_,_,_,_,_⟩)  rfl rfl (List.mem_singleton.2 rfl) ?_
    intro K hK
    refine st_wp rfl e6_7 e6_168 (net_put y4_net _) ?_
    refine hK.out _ _ ?_
    clear hK K
    refine P3.wpPlan_done ?_
    rw[put_none]
    obtain⟨W5,hW,x,kk,far,bel⟩:=store2 (.int .i64 1) (.slice (some ⟨b4,0,none⟩) 1 1) y4_net nofun nofun
    rw[←hW]
    clear hW
    rw[ha6,ha5,ha4,ha3,ha2,ha1]
    rw[Act.put_swap (d:=7) (e:=167) (by decide)]
    rw[Act.put_swap (d:=7) (e:=168) (by decide)]
    exact hQ _ _ _ _ _ _ _ _ x (wide_lone (by decide) (far _ _ _ (by omega) y4_v) (far _ _ _ (by omega) y4_r) (far _ _ _ (by omega) x4) hZV hZR) (bel _ _ (by omega) z4)
  ·refine al_wp rfl (net_make _) ?_
   refine hK.out _ _ trivial (fun _=>?_)
   clear hK K
   obtain⟨W2,hW,x2,hN2⟩:=zAb W1 #[.int .i64 0,.slice none 0 0] 30
   rw[←hW]
   clear hW
   obtain⟨b2,hb2⟩:∃b,b=W1.heap.size:=⟨_,rfl⟩
   rw[←hb2] at x2 ⊢
   have y2_v:=x1.below hN2
   have o2_v:=x1.lt
   have z2:=zAa z1 hN2
   have s2:=z2.size
   have u2:=(z1).size
   obtain⟨a2,ha2⟩:∃x,x=(a1.put (some 7) (.pointer (some ⟨b2,0,none⟩))):=⟨_,rfl⟩
   change P3.wpPlan _ _ _ _ _ _ (a1.put (some 7) (.pointer (some ⟨b2,0,none⟩))) _
   rw[←ha2]
   have hs2:168<a2.tmps.size:=by rw[ha2,zAf];exact hs1
   have e2_164:a2.eval (.tmp 164)=.slice (some ⟨b1,0,none⟩) 256 256:=by rw[ha2];exact(ev_ne _ _ _ _ (by decide)).trans e1_164
   have e2_7:a2.eval (.tmp 7)=.pointer (some ⟨b2,0,none⟩):=by rw[ha2];exact zAd _ _ _ (by omega)
   refine P3.wpPlan_call (o:=⟨some 165,_,_,_,_,_⟩)  rfl rfl ?_
   intro K hK
   refine mk_wp hmR _ _ rfl rfl rfl ?_
   refine hK.out _ _ trivial (fun _=>?_)
   clear hK K
   obtain⟨W3,hW,x3,hN3⟩:=zAb W2 ZR 27
   rw[←hW]
   clear hW
   obtain⟨b3,hb3⟩:∃b,b=W2.heap.size:=⟨_,rfl⟩
   rw[←hb3] at x3 ⊢
   have y3_v:=y2_v.below hN3
   have o3_v:=y2_v.lt
   have y3_net:=x2.below hN3
   have o3_net:=x2.lt
   have z3:=zAa z2 hN3
   have s3:=z3.size
   have u3:=(z2).size
   obtain⟨a3,ha3⟩:∃x,x=(a2.put (some 165) (.slice (some ⟨b3,0,none⟩) 256 256)):=⟨_,rfl⟩
   change P3.wpPlan _ _ _ _ _ _ (a2.put (some 165) (.slice (some ⟨b3,0,none⟩) 256 256)) _
   rw[←ha3]
   have hs3:168<a3.tmps.size:=by rw[ha3,zAf];exact hs2
   have e3_164:a3.eval (.tmp 164)=.slice (some ⟨b1,0,none⟩) 256 256:=by rw[ha3];exact(ev_ne _ _ _ _ (by decide)).trans e2_164
   have e3_7:a3.eval (.tmp 7)=.pointer (some ⟨b2,0,none⟩):=by rw[ha3];exact(ev_ne _ _ _ _ (by decide)).trans e2_7
   have e3_165:a3.eval (.tmp 165)=.slice (some ⟨b3,0,none⟩) 256 256:=by rw[ha3];exact zAd _ _ _ (by omega)
   refine P3.wpPlan_pure (o:=⟨some 166,_,_,_,_,_⟩) (v:=.agg #[.int .u8 1,.slice (some ⟨b1,0,none⟩) 256 256,.slice (some ⟨b3,0,none⟩) 256 256,.int .i64 0,.int .i64 0,.int .i64 0,.int .i64 0,.int .i64 0,.int .i64 0,.int .i64 0,.int .i64 0,.slice none 0 0,.slice none 0 0]) rfl rfl (fun w'=>bd_run _ w' rfl (by simp only[List.map_toArray,List.map_cons,List.map_nil,ev_const,e3_164,e3_165];exact ly_build _ _ _ _ _)) ?_
   obtain⟨a4,ha4⟩:∃x,x=(a3.put (some 166) (.agg #[.int .u8 1,.slice (some ⟨b1,0,none⟩) 256 256,.slice (some ⟨b3,0,none⟩) 256 256,.int .i64 0,.int .i64 0,.int .i64 0,.int .i64 0,.int .i64 0,.int .i64 0,.int .i64 0,.int .i64 0,.slice none 0 0,.slice none 0 0])):=⟨_,rfl⟩
   change P3.wpPlan _ _ _ _ _ _ (a3.put (some 166) (.agg #[.int .u8 1,.slice (some ⟨b1,0,none⟩) 256 256,.slice (some ⟨b3,0,none⟩) 256 256,.int .i64 0,.int .i64 0,.int .i64 0,.int .i64 0,.int .i64 0,.int .i64 0,.int .i64 0,.int .i64 0,.slice none 0 0,.slice none 0 0])) _
   rw[←ha4]
   have hs4:168<a4.tmps.size:=by rw[ha4,zAf];exact hs3
   have e4_164:a4.eval (.tmp 164)=.slice (some ⟨b1,0,none⟩) 256 256:=by rw[ha4];exact(ev_ne _ _ _ _ (by decide)).trans e3_164
   have e4_7:a4.eval (.tmp 7)=.pointer (some ⟨b2,0,none⟩):=by rw[ha4];exact(ev_ne _ _ _ _ (by decide)).trans e3_7
   have e4_165:a4.eval (.tmp 165)=.slice (some ⟨b3,0,none⟩) 256 256:=by rw[ha4];exact(ev_ne _ _ _ _ (by decide)).trans e3_165
   have e4_166:a4.eval (.tmp 166)=.agg #[.int .u8 1,.slice (some ⟨b1,0,none⟩) 256 256,.slice (some ⟨b3,0,none⟩) 256 256,.int .i64 0,.int .i64 0,.int .i64 0,.int .i64 0,.int .i64 0,.int .i64 0,.int .i64 0,.int .i64 0,.slice none 0 0,.slice none 0 0]:=by rw[ha4];exact zAd _ _ _ (by omega)
   refine P3.wpPlan_call (o:=⟨some 167,_,_,_,_,_⟩)  rfl rfl ?_
   intro K hK
   refine bs_wp (v:=.slice (some ⟨W3.heap.size,0,none⟩) 1 1) (W:=W3.alloc (.cells #[.int .u8 1,.slice (some ⟨b1,0,none⟩) 256 256,.slice (some ⟨b3,0,none⟩) 256 256,.int .i64 0,.int .i64 0,.int .i64 0,.int .i64 0,.int .i64 0,.int .i64 0,.int .i64 0,.int .i64 0,.slice none 0 0,.slice none 0 0] 38)) rfl (by simp only[List.map_toArray,List.map_cons,List.map_nil,e4_166];exact ly_make _ _ _) ?_
   refine hK.out _ _ trivial (fun _=>?_)
   clear hK K
   obtain⟨W4,hW,x4,hN4⟩:=zAb W3 #[.int .u8 1,.slice (some ⟨b1,0,none⟩) 256 256,.slice (some ⟨b3,0,none⟩) 256 256,.int .i64 0,.int .i64 0,.int .i64 0,.int .i64 0,.int .i64 0,.int .i64 0,.int .i64 0,.int .i64 0,.slice none 0 0,.slice none 0 0] 38
   rw[←hW]
   clear hW
   obtain⟨b4,hb4⟩:∃b,b=W3.heap.size:=⟨_,rfl⟩
   rw[←hb4] at x4 ⊢
   have y4_v:=y3_v.below hN4
   have o4_v:=y3_v.lt
   have y4_r:=x3.below hN4
   have o4_r:=x3.lt
   have y4_net:=y3_net.below hN4
   have o4_net:=y3_net.lt
   have z4:=zAa z3 hN4
   have s4:=z4.size
   have u4:=(z3).size
   obtain⟨a5,ha5⟩:∃x,x=(a4.put (some 167) (.slice (some ⟨b4,0,none⟩) 1 1)):=⟨_,rfl⟩
   change P3.wpPlan _ _ _ _ _ _ (a4.put (some 167) (.slice (some ⟨b4,0,none⟩) 1 1)) _
   rw[←ha5]
   have hs5:168<a5.tmps.size:=by rw[ha5,zAf];exact hs4
   have e5_164:a5.eval (.tmp 164)=.slice (some ⟨b1,0,none⟩) 256 256:=by rw[ha5];exact(ev_ne _ _ _ _ (by decide)).trans e4_164
   have e5_7:a5.eval (.tmp 7)=.pointer (some ⟨b2,0,none⟩):=by rw[ha5];exact(ev_ne _ _ _ _ (by decide)).trans e4_7
   have e5_165:a5.eval (.tmp 165)=.slice (some ⟨b3,0,none⟩) 256 256:=by rw[ha5];exact(ev_ne _ _ _ _ (by decide)).trans e4_165
   have e5_166:a5.eval (.tmp 166)=.agg #[.int .u8 1,.slice (some ⟨b1,0,none⟩) 256 256,.slice (some ⟨b3,0,none⟩) 256 256,.int .i64 0,.int .i64 0,.int .i64 0,.int .i64 0,.int .i64 0,.int .i64 0,.int .i64 0,.int .i64 0,.slice none 0 0,.slice none 0 0]:=by rw[ha5];exact(ev_ne _ _ _ _ (by decide)).trans e4_166
   have e5_167:a5.eval (.tmp 167)=.slice (some ⟨b4,0,none⟩) 1 1:=by rw[ha5];exact zAd _ _ _ (by omega)
   refine P3.wpPlan_pure (o:=⟨some 168,_,_,_,_,_⟩) (v:=.agg #[.int .i64 1,.slice (some ⟨b4,0,none⟩) 1 1]) rfl rfl (fun w'=>bd_run _ w' rfl (by simp only[List.map_toArray,List.map_cons,List.map_nil,ev_const,e5_167];exact net_build _ _)) ?_
   obtain⟨a6,ha6⟩:∃x,x=(a5.put (some 168) (.agg #[.int .i64 1,.slice (some ⟨b4,0,none⟩) 1 1])):=⟨_,rfl⟩
   change P3.wpPlan _ _ _ _ _ _ (a5.put (some 168) (.agg #[.int .i64 1,.slice (some ⟨b4,0,none⟩) 1 1])) _
   rw[←ha6]
   have hs6:168<a6.tmps.size:=by rw[ha6,zAf];exact hs5
   have e6_164:a6.eval (.tmp 164)=.slice (some ⟨b1,0,none⟩) 256 256:=by rw[ha6];exact(ev_ne _ _ _ _ (by decide)).trans e5_164
   have e6_7:a6.eval (.tmp 7)=.pointer (some ⟨b2,0,none⟩):=by rw[ha6];exact(ev_ne _ _ _ _ (by decide)).trans e5_7
   have e6_165:a6.eval (.tmp 165)=.slice (some ⟨b3,0,none⟩) 256 256:=by rw[ha6];exact(ev_ne _ _ _ _ (by decide)).trans e5_165
   have e6_166:a6.eval (.tmp 166)=.agg #[.int .u8 1,.slice (some ⟨b1,0,none⟩) 256 256,.slice (some ⟨b3,0,none⟩) 256 256,.int .i64 0,.int .i64 0,.int .i64 0,.int .i64 0,.int .i64 0,.int .i64 0,.int .i64 0,.int .i64 0,.slice none 0 0,.slice none 0 0]:=by rw[ha6];exact(ev_ne _ _ _ _ (by decide)).trans e5_166
   have e6_167:a6.eval (.tmp 167)=.slice (some ⟨b4,0,none⟩) 1 1:=by rw[ha6];exact(ev_ne _ _ _ _ (by decide)).trans e5_167
   have e6_168:a6.eval (.tmp 168)=.agg #[.int .i64 1,.slice (some ⟨b4,0,none⟩) 1 1]:=by rw[ha6];exact zAd _ _ _ (by omega)
   refine P3.wpPlan_late (o:=⟨none,_,_,_,_,_⟩)  rfl rfl (List.mem_singleton.2 rfl) ?_
   intro K hK
   refine st_wp rfl e6_7 e6_168 (net_put y4_net _) ?_
   refine hK.out _ _ ?_
   clear hK K
   refine P3.wpPlan_done ?_
   rw[put_none]
   obtain⟨W5,hW,x,kk,far,bel⟩:=store2 (.int .i64 1) (.slice (some ⟨b4,0,none⟩) 1 1) y4_net nofun nofun
   rw[←hW]
   clear hW
   rw[ha6,ha5,ha4,ha3,ha2,ha1]
   rw[Act.put_swap (d:=7) (e:=165) (by decide)]
   rw[Act.put_swap (d:=7) (e:=166) (by decide)]
   rw[Act.put_swap (d:=7) (e:=167) (by decide)]
   rw[Act.put_swap (d:=7) (e:=168) (by decide)]
   exact hQ _ _ _ _ _ _ _ _ x (wide_lone (by decide) (far _ _ _ (by omega) y4_v) (far _ _ _ (by omega) y4_r) (far _ _ _ (by omega) x4) hZV hZR) (bel _ _ (by omega) z4)
 ·refine mk_wp hmR _ _ rfl rfl rfl ?_
  refine hK.out _ _ trivial (fun _=>?_)
  clear hK K
  obtain⟨W1,hW,x1,hN1⟩:=zAb w.drew ZR 27
  rw[←hW]
  clear hW
  obtain⟨b1,hb1⟩:∃b,b=w.drew.heap.size:=⟨_,rfl⟩
  rw[←hb1] at x1 ⊢
  have z1:=zAa z0 hN1
  have s1:=z1.size
  have u1:=(z0).size
  obtain⟨a1,ha1⟩:∃x,x=(a.put (some 165) (.slice (some ⟨b1,0,none⟩) 256 256)):=⟨_,rfl⟩
  change P3.wpPlan _ _ _ _ _ _ (a.put (some 165) (.slice (some ⟨b1,0,none⟩) 256 256)) _
  rw[←ha1]
  have hs1:168<a1.tmps.size:=by rw[ha1,zAf];exact hs
  have e1_165:a1.eval (.tmp 165)=.slice (some ⟨b1,0,none⟩) 256 256:=by rw[ha1];exact zAd _ _ _ (by omega)
  refine P3.wpPlan_two (o:=⟨some 164,_,_,_,_,_⟩) (o':=⟨some 7,_,_,_,_,_⟩) rfl rfl rfl rfl  (fun K hK=>?_) (fun K hK=>?_) 
  ·refine mk_wp hmV _ _ rfl rfl rfl ?_
   refine hK.out _ _ trivial (fun _=>?_)
   clear hK K
   obtain⟨W2,hW,x2,hN2⟩:=zAb W1 ZV 54
   rw[←hW]
   clear hW
   obtain⟨b2,hb2⟩:∃b,b=W1.heap.size:=⟨_,rfl⟩
   rw[←hb2] at x2 ⊢
   have y2_r:=x1.below hN2
   have o2_r:=x1.lt
   have z2:=zAa z1 hN2
   have s2:=z2.size
   have u2:=(z1).size
   obtain⟨a2,ha2⟩:∃x,x=(a1.put (some 164) (.slice (some ⟨b2,0,none⟩) 256 256)):=⟨_,rfl⟩
   change P3.wpPlan _ _ _ _ _ _ (a1.put (some 164) (.slice (some ⟨b2,0,none⟩) 256 256)) _
   rw[←ha2]
   have hs2:168<a2.tmps.size:=by rw[ha2,zAf];exact hs1
   have e2_165:a2.eval (.tmp 165)=.slice (some ⟨b1,0,none⟩) 256 256:=by rw[ha2];exact(ev_ne _ _ _ _ (by decide)).trans e1_165
   have e2_164:a2.eval (.tmp 164)=.slice (some ⟨b2,0,none⟩) 256 256:=by rw[ha2];exact zAd _ _ _ (by omega)
   refine P3.wpPlan_pure (o:=⟨some 166,_,_,_,_,_⟩) (v:=.agg #[.int .u8 1,.slice (some ⟨b2,0,none⟩) 256 256,.slice (some ⟨b1,0,none⟩) 256 256,.int .i64 0,.int .i64 0,.int .i64 0,.int .i64 0,.int .i64 0,.int .i64 0,.int .i64 0,.int .i64 0,.slice none 0 0,.slice none 0 0]) rfl rfl (fun w'=>bd_run _ w' rfl (by simp only[List.map_toArray,List.map_cons,List.map_nil,ev_const,e2_164,e2_165];exact ly_build _ _ _ _ _)) ?_
   obtain⟨a3,ha3⟩:∃x,x=(a2.put (some 166) (.agg #[.int .u8 1,.slice (some ⟨b2,0,none⟩) 256 256,.slice (some ⟨b1,0,none⟩) 256 256,.int .i64 0,.int .i64 0,.int .i64 0,.int .i64 0,.int .i64 0,.int .i64 0,.int .i64 0,.int .i64 0,.slice none 0 0,.slice none 0 0])):=⟨_,rfl⟩
   change P3.wpPlan _ _ _ _ _ _ (a2.put (some 166) (.agg #[.int .u8 1,.slice (some ⟨b2,0,none⟩) 256 256,.slice (some ⟨b1,0,none⟩) 256 256,.int .i64 0,.int .i64 0,.int .i64 0,.int .i64 0,.int .i64 0,.int .i64 0,.int .i64 0,.int .i64 0,.slice none 0 0,.slice none 0 0])) _
   rw[←ha3]
   have hs3:168<a3.tmps.size:=by rw[ha3,zAf];exact hs2
   have e3_165:a3.eval (.tmp 165)=.slice (some ⟨b1,0,none⟩) 256 256:=by rw[ha3];exact(ev_ne _ _ _ _ (by decide)).trans e2_165
   have e3_164:a3.eval (.tmp 164)=.slice (some ⟨b2,0,none⟩) 256 256:=by rw[ha3];exact(ev_ne _ _ _ _ (by decide)).trans e2_164
   have e3_166:a3.eval (.tmp 166)=.agg #[.int .u8 1,.slice (some ⟨b2,0,none⟩) 256 256,.slice (some ⟨b1,0,none⟩) 256 256,.int .i64 0,.int .i64 0,.int .i64 0,.int .i64 0,.int .i64 0,.int .i64 0,.int .i64 0,.int .i64 0,.slice none 0 0,.slice none 0 0]:=by rw[ha3];exact zAd _ _ _ (by omega)
   refine P3.wpPlan_two (o:=⟨some 167,_,_,_,_,_⟩) (o':=⟨some 7,_,_,_,_,_⟩) rfl rfl rfl rfl  (fun K hK=>?_) (fun K hK=>?_) 
   ·refine bs_wp (v:=.slice (some ⟨W2.heap.size,0,none⟩) 1 1) (W:=W2.alloc (.cells #[.int .u8 1,.slice (some ⟨b2,0,none⟩) 256 256,.slice (some ⟨b1,0,none⟩) 256 256,.int .i64 0,.int .i64 0,.int .i64 0,.int .i64 0,.int .i64 0,.int .i64 0,.int .i64 0,.int .i64 0,.slice none 0 0,.slice none 0 0] 38)) rfl (by simp only[List.map_toArray,List.map_cons,List.map_nil,e3_166];exact ly_make _ _ _) ?_
    refine hK.out _ _ trivial (fun _=>?_)
    clear hK K
    obtain⟨W3,hW,x3,hN3⟩:=zAb W2 #[.int .u8 1,.slice (some ⟨b2,0,none⟩) 256 256,.slice (some ⟨b1,0,none⟩) 256 256,.int .i64 0,.int .i64 0,.int .i64 0,.int .i64 0,.int .i64 0,.int .i64 0,.int .i64 0,.int .i64 0,.slice none 0 0,.slice none 0 0] 38
    rw[←hW]
    clear hW
    obtain⟨b3,hb3⟩:∃b,b=W2.heap.size:=⟨_,rfl⟩
    rw[←hb3] at x3 ⊢
    have y3_v:=x2.below hN3
    have o3_v:=x2.lt
    have y3_r:=y2_r.below hN3
    have o3_r:=y2_r.lt
    have z3:=zAa z2 hN3
    have s3:=z3.size
    have u3:=(z2).size
    obtain⟨a4,ha4⟩:∃x,x=(a3.put (some 167) (.slice (some ⟨b3,0,none⟩) 1 1)):=⟨_,rfl⟩
    change P3.wpPlan _ _ _ _ _ _ (a3.put (some 167) (.slice (some ⟨b3,0,none⟩) 1 1)) _
    rw[←ha4]
    have hs4:168<a4.tmps.size:=by rw[ha4,zAf];exact hs3
    have e4_165:a4.eval (.tmp 165)=.slice (some ⟨b1,0,none⟩) 256 256:=by rw[ha4];exact(ev_ne _ _ _ _ (by decide)).trans e3_165
    have e4_164:a4.eval (.tmp 164)=.slice (some ⟨b2,0,none⟩) 256 256:=by rw[ha4];exact(ev_ne _ _ _ _ (by decide)).trans e3_164
    have e4_166:a4.eval (.tmp 166)=.agg #[.int .u8 1,.slice (some ⟨b2,0,none⟩) 256 256,.slice (some ⟨b1,0,none⟩) 256 256,.int .i64 0,.int .i64 0,.int .i64 0,.int .i64 0,.int .i64 0,.int .i64 0,.int .i64 0,.int .i64 0,.slice none 0 0,.slice none 0 0]:=by rw[ha4];exact(ev_ne _ _ _ _ (by decide)).trans e3_166
    have e4_167:a4.eval (.tmp 167)=.slice (some ⟨b3,0,none⟩) 1 1:=by rw[ha4];exact zAd _ _ _ (by omega)
    refine P3.wpPlan_pure (o:=⟨some 168,_,_,_,_,_⟩) (v:=.agg #[.int .i64 1,.slice (some ⟨b3,0,none⟩) 1 1]) rfl rfl (fun w'=>bd_run _ w' rfl (by simp only[List.map_toArray,List.map_cons,List.map_nil,ev_const,e4_167];exact net_build _ _)) ?_
    obtain⟨a5,ha5⟩:∃x,x=(a4.put (some 168) (.agg #[.int .i64 1,.slice (some ⟨b3,0,none⟩) 1 1])):=⟨_,rfl⟩
    change P3.wpPlan _ _ _ _ _ _ (a4.put (some 168) (.agg #[.int .i64 1,.slice (some ⟨b3,0,none⟩) 1 1])) _
    rw[←ha5]
    have hs5:168<a5.tmps.size:=by rw[ha5,zAf];exact hs4
    have e5_165:a5.eval (.tmp 165)=.slice (some ⟨b1,0,none⟩) 256 256:=by rw[ha5];exact(ev_ne _ _ _ _ (by decide)).trans e4_165
    have e5_164:a5.eval (.tmp 164)=.slice (some ⟨b2,0,none⟩) 256 256:=by rw[ha5];exact(ev_ne _ _ _ _ (by decide)).trans e4_164
    have e5_166:a5.eval (.tmp 166)=.agg #[.int .u8 1,.slice (some ⟨b2,0,none⟩) 256 256,.slice (some ⟨b1,0,none⟩) 256 256,.int .i64 0,.int .i64 0,.int .i64 0,.int .i64 0,.int .i64 0,.int .i64 0,.int .i64 0,.int .i64 0,.slice none 0 0,.slice none 0 0]:=by rw[ha5];exact(ev_ne _ _ _ _ (by decide)).trans e4_166
    have e5_167:a5.eval (.tmp 167)=.slice (some ⟨b3,0,none⟩) 1 1:=by rw[ha5];exact(ev_ne _ _ _ _ (by decide)).trans e4_167
    have e5_168:a5.eval (.tmp 168)=.agg #[.int .i64 1,.slice (some ⟨b3,0,none⟩) 1 1]:=by rw[ha5];exact zAd _ _ _ (by omega)
    refine P3.wpPlan_call (o:=⟨some 7,_,_,_,_,_⟩)  rfl rfl ?_
    intro K hK
    refine al_wp rfl (net_make _) ?_
    refine hK.out _ _ trivial (fun _=>?_)
    clear hK K
    obtain⟨W4,hW,x4,hN4⟩:=zAb W3 #[.int .i64 0,.slice none 0 0] 30
    rw[←hW]
    clear hW
    obtain⟨b4,hb4⟩:∃b,b=W3.heap.size:=⟨_,rfl⟩
    rw[←hb4] at x4 ⊢
    have y4_v:=y3_v.below hN4
    have o4_v:=y3_v.lt
    have y4_r:=y3_r.below hN4
    have o4_r:=y3_r.lt
    have y4_l:=x3.below hN4
    have o4_l:=x3.lt
    have z4:=zAa z3 hN4
    have s4:=z4.size
    have u4:=(z3).size
    obtain⟨a6,ha6⟩:∃x,x=(a5.put (some 7) (.pointer (some ⟨b4,0,none⟩))):=⟨_,rfl⟩
    change P3.wpPlan _ _ _ _ _ _ (a5.put (some 7) (.pointer (some ⟨b4,0,none⟩))) _
    rw[←ha6]
    have hs6:168<a6.tmps.size:=by rw[ha6,zAf];exact hs5
    have e6_165:a6.eval (.tmp 165)=.slice (some ⟨b1,0,none⟩) 256 256:=by rw[ha6];exact(ev_ne _ _ _ _ (by decide)).trans e5_165
    have e6_164:a6.eval (.tmp 164)=.slice (some ⟨b2,0,none⟩) 256 256:=by rw[ha6];exact(ev_ne _ _ _ _ (by decide)).trans e5_164
    have e6_166:a6.eval (.tmp 166)=.agg #[.int .u8 1,.slice (some ⟨b2,0,none⟩) 256 256,.slice (some ⟨b1,0,none⟩) 256 256,.int .i64 0,.int .i64 0,.int .i64 0,.int .i64 0,.int .i64 0,.int .i64 0,.int .i64 0,.int .i64 0,.slice none 0 0,.slice none 0 0]:=by rw[ha6];exact(ev_ne _ _ _ _ (by decide)).trans e5_166
    have e6_167:a6.eval (.tmp 167)=.slice (some ⟨b3,0,none⟩) 1 1:=by rw[ha6];exact(ev_ne _ _ _ _ (by decide)).trans e5_167
    have e6_168:a6.eval (.tmp 168)=.agg #[.int .i64 1,.slice (some ⟨b3,0,none⟩) 1 1]:=by rw[ha6];exact(ev_ne _ _ _ _ (by decide)).trans e5_168
    have e6_7:a6.eval (.tmp 7)=.pointer (some ⟨b4,0,none⟩):=by rw[ha6];exact zAd _ _ _ (by omega)
    refine P3.wpPlan_late (o:=⟨none,_,_,_,_,_⟩)  rfl rfl (List.mem_singleton.2 rfl) ?_
    intro K hK
    refine st_wp rfl e6_7 e6_168 (net_put x4 _) ?_
    refine hK.out _ _ ?_
    clear hK K
    refine P3.wpPlan_done ?_
    rw[put_none]
    obtain⟨W5,hW,x,kk,far,bel⟩:=store2 (.int .i64 1) (.slice (some ⟨b3,0,none⟩) 1 1) x4 nofun nofun
    rw[←hW]
    clear hW
    rw[ha6,ha5,ha4,ha3,ha2,ha1]
    rw[Act.put_swap (d:=165) (e:=164) (by decide)]
    exact hQ _ _ _ _ _ _ _ _ x (wide_lone (by decide) (far _ _ _ (by omega) y4_v) (far _ _ _ (by omega) y4_r) (far _ _ _ (by omega) y4_l) hZV hZR) (bel _ _ (by omega) z4)
   ·refine al_wp rfl (net_make _) ?_
    refine hK.out _ _ trivial (fun _=>?_)
    clear hK K
    obtain⟨W3,hW,x3,hN3⟩:=zAb W2 #[.int .i64 0,.slice none 0 0] 30
    rw[←hW]
    clear hW
    obtain⟨b3,hb3⟩:∃b,b=W2.heap.size:=⟨_,rfl⟩
    rw[←hb3] at x3 ⊢
    have y3_v:=x2.below hN3
    have o3_v:=x2.lt
    have y3_r:=y2_r.below hN3
    have o3_r:=y2_r.lt
    have z3:=zAa z2 hN3
    have s3:=z3.size
    have u3:=(z2).size
    obtain⟨a4,ha4⟩:∃x,x=(a3.put (some 7) (.pointer (some ⟨b3,0,none⟩))):=⟨_,rfl⟩
    change P3.wpPlan _ _ _ _ _ _ (a3.put (some 7) (.pointer (some ⟨b3,0,none⟩))) _
    rw[←ha4]
    have hs4:168<a4.tmps.size:=by rw[ha4,zAf];exact hs3
    have e4_165:a4.eval (.tmp 165)=.slice (some ⟨b1,0,none⟩) 256 256:=by rw[ha4];exact(ev_ne _ _ _ _ (by decide)).trans e3_165
    have e4_164:a4.eval (.tmp 164)=.slice (some ⟨b2,0,none⟩) 256 256:=by rw[ha4];exact(ev_ne _ _ _ _ (by decide)).trans e3_164
    have e4_166:a4.eval (.tmp 166)=.agg #[.int .u8 1,.slice (some ⟨b2,0,none⟩) 256 256,.slice (some ⟨b1,0,none⟩) 256 256,.int .i64 0,.int .i64 0,.int .i64 0,.int .i64 0,.int .i64 0,.int .i64 0,.int .i64 0,.int .i64 0,.slice none 0 0,.slice none 0 0]:=by rw[ha4];exact(ev_ne _ _ _ _ (by decide)).trans e3_166
    have e4_7:a4.eval (.tmp 7)=.pointer (some ⟨b3,0,none⟩):=by rw[ha4];exact zAd _ _ _ (by omega)
    refine P3.wpPlan_call (o:=⟨some 167,_,_,_,_,_⟩)  rfl rfl ?_
    intro K hK
    refine bs_wp (v:=.slice (some ⟨W3.heap.size,0,none⟩) 1 1) (W:=W3.alloc (.cells #[.int .u8 1,.slice (some ⟨b2,0,none⟩) 256 256,.slice (some ⟨b1,0,none⟩) 256 256,.int .i64 0,.int .i64 0,.int .i64 0,.int .i64 0,.int .i64 0,.int .i64 0,.int .i64 0,.int .i64 0,.slice none 0 0,.slice none 0 0] 38)) rfl (by simp only[List.map_toArray,List.map_cons,List.map_nil,e4_166];exact ly_make _ _ _) ?_
    refine hK.out _ _ trivial (fun _=>?_)
    clear hK K
    obtain⟨W4,hW,x4,hN4⟩:=zAb W3 #[.int .u8 1,.slice (some ⟨b2,0,none⟩) 256 256,.slice (some ⟨b1,0,none⟩) 256 256,.int .i64 0,.int .i64 0,.int .i64 0,.int .i64 0,.int .i64 0,.int .i64 0,.int .i64 0,.int .i64 0,.slice none 0 0,.slice none 0 0] 38
    rw[←hW]
    clear hW
    obtain⟨b4,hb4⟩:∃b,b=W3.heap.size:=⟨_,rfl⟩
    rw[←hb4] at x4 ⊢
    have y4_v:=y3_v.below hN4
    have o4_v:=y3_v.lt
    have y4_r:=y3_r.below hN4
    have o4_r:=y3_r.lt
    have y4_net:=x3.below hN4
    have o4_net:=x3.lt
    have z4:=zAa z3 hN4
    have s4:=z4.size
    have u4:=(z3).size
    obtain⟨a5,ha5⟩:∃x,x=(a4.put (some 167) (.slice (some ⟨b4,0,none⟩) 1 1)):=⟨_,rfl⟩
    change P3.wpPlan _ _ _ _ _ _ (a4.put (some 167) (.slice (some ⟨b4,0,none⟩) 1 1)) _
    rw[←ha5]
    have hs5:168<a5.tmps.size:=by rw[ha5,zAf];exact hs4
    have e5_165:a5.eval (.tmp 165)=.slice (some ⟨b1,0,none⟩) 256 256:=by rw[ha5];exact(ev_ne _ _ _ _ (by decide)).trans e4_165
    have e5_164:a5.eval (.tmp 164)=.slice (some ⟨b2,0,none⟩) 256 256:=by rw[ha5];exact(ev_ne _ _ _ _ (by decide)).trans e4_164
    have e5_166:a5.eval (.tmp 166)=.agg #[.int .u8 1,.slice (some ⟨b2,0,none⟩) 256 256,.slice (some ⟨b1,0,none⟩) 256 256,.int .i64 0,.int .i64 0,.int .i64 0,.int .i64 0,.int .i64 0,.int .i64 0,.int .i64 0,.int .i64 0,.slice none 0 0,.slice none 0 0]:=by rw[ha5];exact(ev_ne _ _ _ _ (by decide)).trans e4_166
    have e5_7:a5.eval (.tmp 7)=.pointer (some ⟨b3,0,none⟩):=by rw[ha5];exact(ev_ne _ _ _ _ (by decide)).trans e4_7
    have e5_167:a5.eval (.tmp 167)=.slice (some ⟨b4,0,none⟩) 1 1:=by rw[ha5];exact zAd _ _ _ (by omega)
    refine P3.wpPlan_pure (o:=⟨some 168,_,_,_,_,_⟩) (v:=.agg #[.int .i64 1,.slice (some ⟨b4,0,none⟩) 1 1]) rfl rfl (fun w'=>bd_run _ w' rfl (by simp only[List.map_toArray,List.map_cons,List.map_nil,ev_const,e5_167];exact net_build _ _)) ?_
    obtain⟨a6,ha6⟩:∃x,x=(a5.put (some 168) (.agg #[.int .i64 1,.slice (some ⟨b4,0,none⟩) 1 1])):=⟨_,rfl⟩
    change P3.wpPlan _ _ _ _ _ _ (a5.put (some 168) (.agg #[.int .i64 1,.slice (some ⟨b4,0,none⟩) 1 1])) _
    rw[←ha6]
    have hs6:168<a6.tmps.size:=by rw[ha6,zAf];exact hs5
    have e6_165:a6.eval (.tmp 165)=.slice (some ⟨b1,0,none⟩) 256 256:=by rw[ha6];exact(ev_ne _ _ _ _ (by decide)).trans e5_165
    have e6_164:a6.eval (.tmp 164)=.slice (some ⟨b2,0,none⟩) 256 256:=by rw[ha6];exact(ev_ne _ _ _ _ (by decide)).trans e5_164
    have e6_166:a6.eval (.tmp 166)=.agg #[.int .u8 1,.slice (some ⟨b2,0,none⟩) 256 256,.slice (some ⟨b1,0,none⟩) 256 256,.int .i64 0,.int .i64 0,.int .i64 0,.int .i64 0,.int .i64 0,.int .i64 0,.int .i64 0,.int .i64 0,.slice none 0 0,.slice none 0 0]:=by rw[ha6];exact(ev_ne _ _ _ _ (by decide)).trans e5_166
    have e6_7:a6.eval (.tmp 7)=.pointer (some ⟨b3,0,none⟩):=by rw[ha6];exact(ev_ne _ _ _ _ (by decide)).trans e5_7
    have e6_167:a6.eval (.tmp 167)=.slice (some ⟨b4,0,none⟩) 1 1:=by rw[ha6];exact(ev_ne _ _ _ _ (by decide)).trans e5_167
    have e6_168:a6.eval (.tmp 168)=.agg #[.int .i64 1,.slice (some ⟨b4,0,none⟩) 1 1]:=by rw[ha6];exact zAd _ _ _ (by omega)
    refine P3.wpPlan_late (o:=⟨none,_,_,_,_,_⟩)  rfl rfl (List.mem_singleton.2 rfl) ?_
    intro K hK
    refine st_wp rfl e6_7 e6_168 (net_put y4_net _) ?_
    refine hK.out _ _ ?_
    clear hK K
    refine P3.wpPlan_done ?_
    rw[put_none]
    obtain⟨W5,hW,x,kk,far,bel⟩:=store2 (.int .i64 1) (.slice (some ⟨b4,0,none⟩) 1 1) y4_net nofun nofun
    rw[←hW]
    clear hW
    rw[ha6,ha5,ha4,ha3,ha2,ha1]
    rw[Act.put_swap (d:=165) (e:=164) (by decide)]
    rw[Act.put_swap (d:=7) (e:=167) (by decide)]
    rw[Act.put_swap (d:=7) (e:=168) (by decide)]
    exact hQ _ _ _ _ _ _ _ _ x (wide_lone (by decide) (far _ _ _ (by omega) y4_v) (far _ _ _ (by omega) y4_r) (far _ _ _ (by omega) x4) hZV hZR) (bel _ _ (by omega) z4)
  ·refine al_wp rfl (net_make _) ?_
   refine hK.out _ _ trivial (fun _=>?_)
   clear hK K
   obtain⟨W2,hW,x2,hN2⟩:=zAb W1 #[.int .i64 0,.slice none 0 0] 30
   rw[←hW]
   clear hW
   obtain⟨b2,hb2⟩:∃b,b=W1.heap.size:=⟨_,rfl⟩
   rw[←hb2] at x2 ⊢
   have y2_r:=x1.below hN2
   have o2_r:=x1.lt
   have z2:=zAa z1 hN2
   have s2:=z2.size
   have u2:=(z1).size
   obtain⟨a2,ha2⟩:∃x,x=(a1.put (some 7) (.pointer (some ⟨b2,0,none⟩))):=⟨_,rfl⟩
   change P3.wpPlan _ _ _ _ _ _ (a1.put (some 7) (.pointer (some ⟨b2,0,none⟩))) _
   rw[←ha2]
   have hs2:168<a2.tmps.size:=by rw[ha2,zAf];exact hs1
   have e2_165:a2.eval (.tmp 165)=.slice (some ⟨b1,0,none⟩) 256 256:=by rw[ha2];exact(ev_ne _ _ _ _ (by decide)).trans e1_165
   have e2_7:a2.eval (.tmp 7)=.pointer (some ⟨b2,0,none⟩):=by rw[ha2];exact zAd _ _ _ (by omega)
   refine P3.wpPlan_call (o:=⟨some 164,_,_,_,_,_⟩)  rfl rfl ?_
   intro K hK
   refine mk_wp hmV _ _ rfl rfl rfl ?_
   refine hK.out _ _ trivial (fun _=>?_)
   clear hK K
   obtain⟨W3,hW,x3,hN3⟩:=zAb W2 ZV 54
   rw[←hW]
   clear hW
   obtain⟨b3,hb3⟩:∃b,b=W2.heap.size:=⟨_,rfl⟩
   rw[←hb3] at x3 ⊢
   have y3_r:=y2_r.below hN3
   have o3_r:=y2_r.lt
   have y3_net:=x2.below hN3
   have o3_net:=x2.lt
   have z3:=zAa z2 hN3
   have s3:=z3.size
   have u3:=(z2).size
   obtain⟨a3,ha3⟩:∃x,x=(a2.put (some 164) (.slice (some ⟨b3,0,none⟩) 256 256)):=⟨_,rfl⟩
   change P3.wpPlan _ _ _ _ _ _ (a2.put (some 164) (.slice (some ⟨b3,0,none⟩) 256 256)) _
   rw[←ha3]
   have hs3:168<a3.tmps.size:=by rw[ha3,zAf];exact hs2
   have e3_165:a3.eval (.tmp 165)=.slice (some ⟨b1,0,none⟩) 256 256:=by rw[ha3];exact(ev_ne _ _ _ _ (by decide)).trans e2_165
   have e3_7:a3.eval (.tmp 7)=.pointer (some ⟨b2,0,none⟩):=by rw[ha3];exact(ev_ne _ _ _ _ (by decide)).trans e2_7
   have e3_164:a3.eval (.tmp 164)=.slice (some ⟨b3,0,none⟩) 256 256:=by rw[ha3];exact zAd _ _ _ (by omega)
   refine P3.wpPlan_pure (o:=⟨some 166,_,_,_,_,_⟩) (v:=.agg #[.int .u8 1,.slice (some ⟨b3,0,none⟩) 256 256,.slice (some ⟨b1,0,none⟩) 256 256,.int .i64 0,.int .i64 0,.int .i64 0,.int .i64 0,.int .i64 0,.int .i64 0,.int .i64 0,.int .i64 0,.slice none 0 0,.slice none 0 0]) rfl rfl (fun w'=>bd_run _ w' rfl (by simp only[List.map_toArray,List.map_cons,List.map_nil,ev_const,e3_164,e3_165];exact ly_build _ _ _ _ _)) ?_
   obtain⟨a4,ha4⟩:∃x,x=(a3.put (some 166) (.agg #[.int .u8 1,.slice (some ⟨b3,0,none⟩) 256 256,.slice (some ⟨b1,0,none⟩) 256 256,.int .i64 0,.int .i64 0,.int .i64 0,.int .i64 0,.int .i64 0,.int .i64 0,.int .i64 0,.int .i64 0,.slice none 0 0,.slice none 0 0])):=⟨_,rfl⟩
   change P3.wpPlan _ _ _ _ _ _ (a3.put (some 166) (.agg #[.int .u8 1,.slice (some ⟨b3,0,none⟩) 256 256,.slice (some ⟨b1,0,none⟩) 256 256,.int .i64 0,.int .i64 0,.int .i64 0,.int .i64 0,.int .i64 0,.int .i64 0,.int .i64 0,.int .i64 0,.slice none 0 0,.slice none 0 0])) _
   rw[←ha4]
   have hs4:168<a4.tmps.size:=by rw[ha4,zAf];exact hs3
   have e4_165:a4.eval (.tmp 165)=.slice (some ⟨b1,0,none⟩) 256 256:=by rw[ha4];exact(ev_ne _ _ _ _ (by decide)).trans e3_165
   have e4_7:a4.eval (.tmp 7)=.pointer (some ⟨b2,0,none⟩):=by rw[ha4];exact(ev_ne _ _ _ _ (by decide)).trans e3_7
   have e4_164:a4.eval (.tmp 164)=.slice (some ⟨b3,0,none⟩) 256 256:=by rw[ha4];exact(ev_ne _ _ _ _ (by decide)).trans e3_164
   have e4_166:a4.eval (.tmp 166)=.agg #[.int .u8 1,.slice (some ⟨b3,0,none⟩) 256 256,.slice (some ⟨b1,0,none⟩) 256 256,.int .i64 0,.int .i64 0,.int .i64 0,.int .i64 0,.int .i64 0,.int .i64 0,.int .i64 0,.int .i64 0,.slice none 0 0,.slice none 0 0]:=by rw[ha4];exact zAd _ _ _ (by omega)
   refine P3.wpPlan_call (o:=⟨some 167,_,_,_,_,_⟩)  rfl rfl ?_
   intro K hK
   refine bs_wp (v:=.slice (some ⟨W3.heap.size,0,none⟩) 1 1) (W:=W3.alloc (.cells #[.int .u8 1,.slice (some ⟨b3,0,none⟩) 256 256,.slice (some ⟨b1,0,none⟩) 256 256,.int .i64 0,.int .i64 0,.int .i64 0,.int .i64 0,.int .i64 0,.int .i64 0,.int .i64 0,.int .i64 0,.slice none 0 0,.slice none 0 0] 38)) rfl (by simp only[List.map_toArray,List.map_cons,List.map_nil,e4_166];exact ly_make _ _ _) ?_
   refine hK.out _ _ trivial (fun _=>?_)
   clear hK K
   obtain⟨W4,hW,x4,hN4⟩:=zAb W3 #[.int .u8 1,.slice (some ⟨b3,0,none⟩) 256 256,.slice (some ⟨b1,0,none⟩) 256 256,.int .i64 0,.int .i64 0,.int .i64 0,.int .i64 0,.int .i64 0,.int .i64 0,.int .i64 0,.int .i64 0,.slice none 0 0,.slice none 0 0] 38
   rw[←hW]
   clear hW
   obtain⟨b4,hb4⟩:∃b,b=W3.heap.size:=⟨_,rfl⟩
   rw[←hb4] at x4 ⊢
   have y4_v:=x3.below hN4
   have o4_v:=x3.lt
   have y4_r:=y3_r.below hN4
   have o4_r:=y3_r.lt
   have y4_net:=y3_net.below hN4
   have o4_net:=y3_net.lt
   have z4:=zAa z3 hN4
   have s4:=z4.size
   have u4:=(z3).size
   obtain⟨a5,ha5⟩:∃x,x=(a4.put (some 167) (.slice (some ⟨b4,0,none⟩) 1 1)):=⟨_,rfl⟩
   change P3.wpPlan _ _ _ _ _ _ (a4.put (some 167) (.slice (some ⟨b4,0,none⟩) 1 1)) _
   rw[←ha5]
   have hs5:168<a5.tmps.size:=by rw[ha5,zAf];exact hs4
   have e5_165:a5.eval (.tmp 165)=.slice (some ⟨b1,0,none⟩) 256 256:=by rw[ha5];exact(ev_ne _ _ _ _ (by decide)).trans e4_165
   have e5_7:a5.eval (.tmp 7)=.pointer (some ⟨b2,0,none⟩):=by rw[ha5];exact(ev_ne _ _ _ _ (by decide)).trans e4_7
   have e5_164:a5.eval (.tmp 164)=.slice (some ⟨b3,0,none⟩) 256 256:=by rw[ha5];exact(ev_ne _ _ _ _ (by decide)).trans e4_164
   have e5_166:a5.eval (.tmp 166)=.agg #[.int .u8 1,.slice (some ⟨b3,0,none⟩) 256 256,.slice (some ⟨b1,0,none⟩) 256 256,.int .i64 0,.int .i64 0,.int .i64 0,.int .i64 0,.int .i64 0,.int .i64 0,.int .i64 0,.int .i64 0,.slice none 0 0,.slice none 0 0]:=by rw[ha5];exact(ev_ne _ _ _ _ (by decide)).trans e4_166
   have e5_167:a5.eval (.tmp 167)=.slice (some ⟨b4,0,none⟩) 1 1:=by rw[ha5];exact zAd _ _ _ (by omega)
   refine P3.wpPlan_pure (o:=⟨some 168,_,_,_,_,_⟩) (v:=.agg #[.int .i64 1,.slice (some ⟨b4,0,none⟩) 1 1]) rfl rfl (fun w'=>bd_run _ w' rfl (by simp only[List.map_toArray,List.map_cons,List.map_nil,ev_const,e5_167];exact net_build _ _)) ?_
   obtain⟨a6,ha6⟩:∃x,x=(a5.put (some 168) (.agg #[.int .i64 1,.slice (some ⟨b4,0,none⟩) 1 1])):=⟨_,rfl⟩
   change P3.wpPlan _ _ _ _ _ _ (a5.put (some 168) (.agg #[.int .i64 1,.slice (some ⟨b4,0,none⟩) 1 1])) _
   rw[←ha6]
   have hs6:168<a6.tmps.size:=by rw[ha6,zAf];exact hs5
   have e6_165:a6.eval (.tmp 165)=.slice (some ⟨b1,0,none⟩) 256 256:=by rw[ha6];exact(ev_ne _ _ _ _ (by decide)).trans e5_165
   have e6_7:a6.eval (.tmp 7)=.pointer (some ⟨b2,0,none⟩):=by rw[ha6];exact(ev_ne _ _ _ _ (by decide)).trans e5_7
   have e6_164:a6.eval (.tmp 164)=.slice (some ⟨b3,0,none⟩) 256 256:=by rw[ha6];exact(ev_ne _ _ _ _ (by decide)).trans e5_164
   have e6_166:a6.eval (.tmp 166)=.agg #[.int .u8 1,.slice (some ⟨b3,0,none⟩) 256 256,.slice (some ⟨b1,0,none⟩) 256 256,.int .i64 0,.int .i64 0,.int .i64 0,.int .i64 0,.int .i64 0,.int .i64 0,.int .i64 0,.int .i64 0,.slice none 0 0,.slice none 0 0]:=by rw[ha6];exact(ev_ne _ _ _ _ (by decide)).trans e5_166
   have e6_167:a6.eval (.tmp 167)=.slice (some ⟨b4,0,none⟩) 1 1:=by rw[ha6];exact(ev_ne _ _ _ _ (by decide)).trans e5_167
   have e6_168:a6.eval (.tmp 168)=.agg #[.int .i64 1,.slice (some ⟨b4,0,none⟩) 1 1]:=by rw[ha6];exact zAd _ _ _ (by omega)
   refine P3.wpPlan_late (o:=⟨none,_,_,_,_,_⟩)  rfl rfl (List.mem_singleton.2 rfl) ?_
   intro K hK
   refine st_wp rfl e6_7 e6_168 (net_put y4_net _) ?_
   refine hK.out _ _ ?_
   clear hK K
   refine P3.wpPlan_done ?_
   rw[put_none]
   obtain⟨W5,hW,x,kk,far,bel⟩:=store2 (.int .i64 1) (.slice (some ⟨b4,0,none⟩) 1 1) y4_net nofun nofun
   rw[←hW]
   clear hW
   rw[ha6,ha5,ha4,ha3,ha2,ha1]
   rw[Act.put_swap (d:=7) (e:=164) (by decide)]
   rw[Act.put_swap (d:=7) (e:=166) (by decide)]
   rw[Act.put_swap (d:=7) (e:=167) (by decide)]
   rw[Act.put_swap (d:=7) (e:=168) (by decide)]
   rw[Act.put_swap (d:=165) (e:=164) (by decide)]
   exact hQ _ _ _ _ _ _ _ _ x (wide_lone (by decide) (far _ _ _ (by omega) y4_v) (far _ _ _ (by omega) y4_r) (far _ _ _ (by omega) x4) hZV hZR) (bel _ _ (by omega) z4)
 ·refine al_wp rfl (net_make _) ?_
  refine hK.out _ _ trivial (fun _=>?_)
  clear hK K
  obtain⟨W1,hW,x1,hN1⟩:=zAb w.drew #[.int .i64 0,.slice none 0 0] 30
  rw[←hW]
  clear hW
  obtain⟨b1,hb1⟩:∃b,b=w.drew.heap.size:=⟨_,rfl⟩
  rw[←hb1] at x1 ⊢
  have z1:=zAa z0 hN1
  have s1:=z1.size
  have u1:=(z0).size
  obtain⟨a1,ha1⟩:∃x,x=(a.put (some 7) (.pointer (some ⟨b1,0,none⟩))):=⟨_,rfl⟩
  change P3.wpPlan _ _ _ _ _ _ (a.put (some 7) (.pointer (some ⟨b1,0,none⟩))) _
  rw[←ha1]
  have hs1:168<a1.tmps.size:=by rw[ha1,zAf];exact hs
  have e1_7:a1.eval (.tmp 7)=.pointer (some ⟨b1,0,none⟩):=by rw[ha1];exact zAd _ _ _ (by omega)
  refine P3.wpPlan_two (o:=⟨some 164,_,_,_,_,_⟩) (o':=⟨some 165,_,_,_,_,_⟩) rfl rfl rfl rfl  (fun K hK=>?_) (fun K hK=>?_) 
  ·refine mk_wp hmV _ _ rfl rfl rfl ?_
   refine hK.out _ _ trivial (fun _=>?_)
   clear hK K
   obtain⟨W2,hW,x2,hN2⟩:=zAb W1 ZV 54
   rw[←hW]
   clear hW
   obtain⟨b2,hb2⟩:∃b,b=W1.heap.size:=⟨_,rfl⟩
   rw[←hb2] at x2 ⊢
   have y2_net:=x1.below hN2
   have o2_net:=x1.lt
   have z2:=zAa z1 hN2
   have s2:=z2.size
   have u2:=(z1).size
   obtain⟨a2,ha2⟩:∃x,x=(a1.put (some 164) (.slice (some ⟨b2,0,none⟩) 256 256)):=⟨_,rfl⟩
   change P3.wpPlan _ _ _ _ _ _ (a1.put (some 164) (.slice (some ⟨b2,0,none⟩) 256 256)) _
   rw[←ha2]
   have hs2:168<a2.tmps.size:=by rw[ha2,zAf];exact hs1
   have e2_7:a2.eval (.tmp 7)=.pointer (some ⟨b1,0,none⟩):=by rw[ha2];exact(ev_ne _ _ _ _ (by decide)).trans e1_7
   have e2_164:a2.eval (.tmp 164)=.slice (some ⟨b2,0,none⟩) 256 256:=by rw[ha2];exact zAd _ _ _ (by omega)
   refine P3.wpPlan_call (o:=⟨some 165,_,_,_,_,_⟩)  rfl rfl ?_
   intro K hK
   refine mk_wp hmR _ _ rfl rfl rfl ?_
   refine hK.out _ _ trivial (fun _=>?_)
   clear hK K
   obtain⟨W3,hW,x3,hN3⟩:=zAb W2 ZR 27
   rw[←hW]
   clear hW
   obtain⟨b3,hb3⟩:∃b,b=W2.heap.size:=⟨_,rfl⟩
   rw[←hb3] at x3 ⊢
   have y3_v:=x2.below hN3
   have o3_v:=x2.lt
   have y3_net:=y2_net.below hN3
   have o3_net:=y2_net.lt
   have z3:=zAa z2 hN3
   have s3:=z3.size
   have u3:=(z2).size
   obtain⟨a3,ha3⟩:∃x,x=(a2.put (some 165) (.slice (some ⟨b3,0,none⟩) 256 256)):=⟨_,rfl⟩
   change P3.wpPlan _ _ _ _ _ _ (a2.put (some 165) (.slice (some ⟨b3,0,none⟩) 256 256)) _
   rw[←ha3]
   have hs3:168<a3.tmps.size:=by rw[ha3,zAf];exact hs2
   have e3_7:a3.eval (.tmp 7)=.pointer (some ⟨b1,0,none⟩):=by rw[ha3];exact(ev_ne _ _ _ _ (by decide)).trans e2_7
   have e3_164:a3.eval (.tmp 164)=.slice (some ⟨b2,0,none⟩) 256 256:=by rw[ha3];exact(ev_ne _ _ _ _ (by decide)).trans e2_164
   have e3_165:a3.eval (.tmp 165)=.slice (some ⟨b3,0,none⟩) 256 256:=by rw[ha3];exact zAd _ _ _ (by omega)
   refine P3.wpPlan_pure (o:=⟨some 166,_,_,_,_,_⟩) (v:=.agg #[.int .u8 1,.slice (some ⟨b2,0,none⟩) 256 256,.slice (some ⟨b3,0,none⟩) 256 256,.int .i64 0,.int .i64 0,.int .i64 0,.int .i64 0,.int .i64 0,.int .i64 0,.int .i64 0,.int .i64 0,.slice none 0 0,.slice none 0 0]) rfl rfl (fun w'=>bd_run _ w' rfl (by simp only[List.map_toArray,List.map_cons,List.map_nil,ev_const,e3_164,e3_165];exact ly_build _ _ _ _ _)) ?_
   obtain⟨a4,ha4⟩:∃x,x=(a3.put (some 166) (.agg #[.int .u8 1,.slice (some ⟨b2,0,none⟩) 256 256,.slice (some ⟨b3,0,none⟩) 256 256,.int .i64 0,.int .i64 0,.int .i64 0,.int .i64 0,.int .i64 0,.int .i64 0,.int .i64 0,.int .i64 0,.slice none 0 0,.slice none 0 0])):=⟨_,rfl⟩
   change P3.wpPlan _ _ _ _ _ _ (a3.put (some 166) (.agg #[.int .u8 1,.slice (some ⟨b2,0,none⟩) 256 256,.slice (some ⟨b3,0,none⟩) 256 256,.int .i64 0,.int .i64 0,.int .i64 0,.int .i64 0,.int .i64 0,.int .i64 0,.int .i64 0,.int .i64 0,.slice none 0 0,.slice none 0 0])) _
   rw[←ha4]
   have hs4:168<a4.tmps.size:=by rw[ha4,zAf];exact hs3
   have e4_7:a4.eval (.tmp 7)=.pointer (some ⟨b1,0,none⟩):=by rw[ha4];exact(ev_ne _ _ _ _ (by decide)).trans e3_7
   have e4_164:a4.eval (.tmp 164)=.slice (some ⟨b2,0,none⟩) 256 256:=by rw[ha4];exact(ev_ne _ _ _ _ (by decide)).trans e3_164
   have e4_165:a4.eval (.tmp 165)=.slice (some ⟨b3,0,none⟩) 256 256:=by rw[ha4];exact(ev_ne _ _ _ _ (by decide)).trans e3_165
   have e4_166:a4.eval (.tmp 166)=.agg #[.int .u8 1,.slice (some ⟨b2,0,none⟩) 256 256,.slice (some ⟨b3,0,none⟩) 256 256,.int .i64 0,.int .i64 0,.int .i64 0,.int .i64 0,.int .i64 0,.int .i64 0,.int .i64 0,.int .i64 0,.slice none 0 0,.slice none 0 0]:=by rw[ha4];exact zAd _ _ _ (by omega)
   refine P3.wpPlan_call (o:=⟨some 167,_,_,_,_,_⟩)  rfl rfl ?_
   intro K hK
   refine bs_wp (v:=.slice (some ⟨W3.heap.size,0,none⟩) 1 1) (W:=W3.alloc (.cells #[.int .u8 1,.slice (some ⟨b2,0,none⟩) 256 256,.slice (some ⟨b3,0,none⟩) 256 256,.int .i64 0,.int .i64 0,.int .i64 0,.int .i64 0,.int .i64 0,.int .i64 0,.int .i64 0,.int .i64 0,.slice none 0 0,.slice none 0 0] 38)) rfl (by simp only[List.map_toArray,List.map_cons,List.map_nil,e4_166];exact ly_make _ _ _) ?_
   refine hK.out _ _ trivial (fun _=>?_)
   clear hK K
   obtain⟨W4,hW,x4,hN4⟩:=zAb W3 #[.int .u8 1,.slice (some ⟨b2,0,none⟩) 256 256,.slice (some ⟨b3,0,none⟩) 256 256,.int .i64 0,.int .i64 0,.int .i64 0,.int .i64 0,.int .i64 0,.int .i64 0,.int .i64 0,.int .i64 0,.slice none 0 0,.slice none 0 0] 38
   rw[←hW]
   clear hW
   obtain⟨b4,hb4⟩:∃b,b=W3.heap.size:=⟨_,rfl⟩
   rw[←hb4] at x4 ⊢
   have y4_v:=y3_v.below hN4
   have o4_v:=y3_v.lt
   have y4_r:=x3.below hN4
   have o4_r:=x3.lt
   have y4_net:=y3_net.below hN4
   have o4_net:=y3_net.lt
   have z4:=zAa z3 hN4
   have s4:=z4.size
   have u4:=(z3).size
   obtain⟨a5,ha5⟩:∃x,x=(a4.put (some 167) (.slice (some ⟨b4,0,none⟩) 1 1)):=⟨_,rfl⟩
   change P3.wpPlan _ _ _ _ _ _ (a4.put (some 167) (.slice (some ⟨b4,0,none⟩) 1 1)) _
   rw[←ha5]
   have hs5:168<a5.tmps.size:=by rw[ha5,zAf];exact hs4
   have e5_7:a5.eval (.tmp 7)=.pointer (some ⟨b1,0,none⟩):=by rw[ha5];exact(ev_ne _ _ _ _ (by decide)).trans e4_7
   have e5_164:a5.eval (.tmp 164)=.slice (some ⟨b2,0,none⟩) 256 256:=by rw[ha5];exact(ev_ne _ _ _ _ (by decide)).trans e4_164
   have e5_165:a5.eval (.tmp 165)=.slice (some ⟨b3,0,none⟩) 256 256:=by rw[ha5];exact(ev_ne _ _ _ _ (by decide)).trans e4_165
   have e5_166:a5.eval (.tmp 166)=.agg #[.int .u8 1,.slice (some ⟨b2,0,none⟩) 256 256,.slice (some ⟨b3,0,none⟩) 256 256,.int .i64 0,.int .i64 0,.int .i64 0,.int .i64 0,.int .i64 0,.int .i64 0,.int .i64 0,.int .i64 0,.slice none 0 0,.slice none 0 0]:=by rw[ha5];exact(ev_ne _ _ _ _ (by decide)).trans e4_166
   have e5_167:a5.eval (.tmp 167)=.slice (some ⟨b4,0,none⟩) 1 1:=by rw[ha5];exact zAd _ _ _ (by omega)
   refine P3.wpPlan_pure (o:=⟨some 168,_,_,_,_,_⟩) (v:=.agg #[.int .i64 1,.slice (some ⟨b4,0,none⟩) 1 1]) rfl rfl (fun w'=>bd_run _ w' rfl (by simp only[List.map_toArray,List.map_cons,List.map_nil,ev_const,e5_167];exact net_build _ _)) ?_
   obtain⟨a6,ha6⟩:∃x,x=(a5.put (some 168) (.agg #[.int .i64 1,.slice (some ⟨b4,0,none⟩) 1 1])):=⟨_,rfl⟩
   change P3.wpPlan _ _ _ _ _ _ (a5.put (some 168) (.agg #[.int .i64 1,.slice (some ⟨b4,0,none⟩) 1 1])) _
   rw[←ha6]
   have hs6:168<a6.tmps.size:=by rw[ha6,zAf];exact hs5
   have e6_7:a6.eval (.tmp 7)=.pointer (some ⟨b1,0,none⟩):=by rw[ha6];exact(ev_ne _ _ _ _ (by decide)).trans e5_7
   have e6_164:a6.eval (.tmp 164)=.slice (some ⟨b2,0,none⟩) 256 256:=by rw[ha6];exact(ev_ne _ _ _ _ (by decide)).trans e5_164
   have e6_165:a6.eval (.tmp 165)=.slice (some ⟨b3,0,none⟩) 256 256:=by rw[ha6];exact(ev_ne _ _ _ _ (by decide)).trans e5_165
   have e6_166:a6.eval (.tmp 166)=.agg #[.int .u8 1,.slice (some ⟨b2,0,none⟩) 256 256,.slice (some ⟨b3,0,none⟩) 256 256,.int .i64 0,.int .i64 0,.int .i64 0,.int .i64 0,.int .i64 0,.int .i64 0,.int .i64 0,.int .i64 0,.slice none 0 0,.slice none 0 0]:=by rw[ha6];exact(ev_ne _ _ _ _ (by decide)).trans e5_166
   have e6_167:a6.eval (.tmp 167)=.slice (some ⟨b4,0,none⟩) 1 1:=by rw[ha6];exact(ev_ne _ _ _ _ (by decide)).trans e5_167
   have e6_168:a6.eval (.tmp 168)=.agg #[.int .i64 1,.slice (some ⟨b4,0,none⟩) 1 1]:=by rw[ha6];exact zAd _ _ _ (by omega)
   refine P3.wpPlan_late (o:=⟨none,_,_,_,_,_⟩)  rfl rfl (List.mem_singleton.2 rfl) ?_
   intro K hK
   refine st_wp rfl e6_7 e6_168 (net_put y4_net _) ?_
   refine hK.out _ _ ?_
   clear hK K
   refine P3.wpPlan_done ?_
   rw[put_none]
   obtain⟨W5,hW,x,kk,far,bel⟩:=store2 (.int .i64 1) (.slice (some ⟨b4,0,none⟩) 1 1) y4_net nofun nofun
   rw[←hW]
   clear hW
   rw[ha6,ha5,ha4,ha3,ha2,ha1]
   rw[Act.put_swap (d:=7) (e:=164) (by decide)]
   rw[Act.put_swap (d:=7) (e:=165) (by decide)]
   rw[Act.put_swap (d:=7) (e:=166) (by decide)]
   rw[Act.put_swap (d:=7) (e:=167) (by decide)]
   rw[Act.put_swap (d:=7) (e:=168) (by decide)]
   exact hQ _ _ _ _ _ _ _ _ x (wide_lone (by decide) (far _ _ _ (by omega) y4_v) (far _ _ _ (by omega) y4_r) (far _ _ _ (by omega) x4) hZV hZR) (bel _ _ (by omega) z4)
  ·refine mk_wp hmR _ _ rfl rfl rfl ?_
   refine hK.out _ _ trivial (fun _=>?_)
   clear hK K
   obtain⟨W2,hW,x2,hN2⟩:=zAb W1 ZR 27
   rw[←hW]
   clear hW
   obtain⟨b2,hb2⟩:∃b,b=W1.heap.size:=⟨_,rfl⟩
   rw[←hb2] at x2 ⊢
   have y2_net:=x1.below hN2
   have o2_net:=x1.lt
   have z2:=zAa z1 hN2
   have s2:=z2.size
   have u2:=(z1).size
   obtain⟨a2,ha2⟩:∃x,x=(a1.put (some 165) (.slice (some ⟨b2,0,none⟩) 256 256)):=⟨_,rfl⟩
   change P3.wpPlan _ _ _ _ _ _ (a1.put (some 165) (.slice (some ⟨b2,0,none⟩) 256 256)) _
   rw[←ha2]
   have hs2:168<a2.tmps.size:=by rw[ha2,zAf];exact hs1
   have e2_7:a2.eval (.tmp 7)=.pointer (some ⟨b1,0,none⟩):=by rw[ha2];exact(ev_ne _ _ _ _ (by decide)).trans e1_7
   have e2_165:a2.eval (.tmp 165)=.slice (some ⟨b2,0,none⟩) 256 256:=by rw[ha2];exact zAd _ _ _ (by omega)
   refine P3.wpPlan_call (o:=⟨some 164,_,_,_,_,_⟩)  rfl rfl ?_
   intro K hK
   refine mk_wp hmV _ _ rfl rfl rfl ?_
   refine hK.out _ _ trivial (fun _=>?_)
   clear hK K
   obtain⟨W3,hW,x3,hN3⟩:=zAb W2 ZV 54
   rw[←hW]
   clear hW
   obtain⟨b3,hb3⟩:∃b,b=W2.heap.size:=⟨_,rfl⟩
   rw[←hb3] at x3 ⊢
   have y3_r:=x2.below hN3
   have o3_r:=x2.lt
   have y3_net:=y2_net.below hN3
   have o3_net:=y2_net.lt
   have z3:=zAa z2 hN3
   have s3:=z3.size
   have u3:=(z2).size
   obtain⟨a3,ha3⟩:∃x,x=(a2.put (some 164) (.slice (some ⟨b3,0,none⟩) 256 256)):=⟨_,rfl⟩
   change P3.wpPlan _ _ _ _ _ _ (a2.put (some 164) (.slice (some ⟨b3,0,none⟩) 256 256)) _
   rw[←ha3]
   have hs3:168<a3.tmps.size:=by rw[ha3,zAf];exact hs2
   have e3_7:a3.eval (.tmp 7)=.pointer (some ⟨b1,0,none⟩):=by rw[ha3];exact(ev_ne _ _ _ _ (by decide)).trans e2_7
   have e3_165:a3.eval (.tmp 165)=.slice (some ⟨b2,0,none⟩) 256 256:=by rw[ha3];exact(ev_ne _ _ _ _ (by decide)).trans e2_165
   have e3_164:a3.eval (.tmp 164)=.slice (some ⟨b3,0,none⟩) 256 256:=by rw[ha3];exact zAd _ _ _ (by omega)
   refine P3.wpPlan_pure (o:=⟨some 166,_,_,_,_,_⟩) (v:=.agg #[.int .u8 1,.slice (some ⟨b3,0,none⟩) 256 256,.slice (some ⟨b2,0,none⟩) 256 256,.int .i64 0,.int .i64 0,.int .i64 0,.int .i64 0,.int .i64 0,.int .i64 0,.int .i64 0,.int .i64 0,.slice none 0 0,.slice none 0 0]) rfl rfl (fun w'=>bd_run _ w' rfl (by simp only[List.map_toArray,List.map_cons,List.map_nil,ev_const,e3_164,e3_165];exact ly_build _ _ _ _ _)) ?_
   obtain⟨a4,ha4⟩:∃x,x=(a3.put (some 166) (.agg #[.int .u8 1,.slice (some ⟨b3,0,none⟩) 256 256,.slice (some ⟨b2,0,none⟩) 256 256,.int .i64 0,.int .i64 0,.int .i64 0,.int .i64 0,.int .i64 0,.int .i64 0,.int .i64 0,.int .i64 0,.slice none 0 0,.slice none 0 0])):=⟨_,rfl⟩
   change P3.wpPlan _ _ _ _ _ _ (a3.put (some 166) (.agg #[.int .u8 1,.slice (some ⟨b3,0,none⟩) 256 256,.slice (some ⟨b2,0,none⟩) 256 256,.int .i64 0,.int .i64 0,.int .i64 0,.int .i64 0,.int .i64 0,.int .i64 0,.int .i64 0,.int .i64 0,.slice none 0 0,.slice none 0 0])) _
   rw[←ha4]
   have hs4:168<a4.tmps.size:=by rw[ha4,zAf];exact hs3
   have e4_7:a4.eval (.tmp 7)=.pointer (some ⟨b1,0,none⟩):=by rw[ha4];exact(ev_ne _ _ _ _ (by decide)).trans e3_7
   have e4_165:a4.eval (.tmp 165)=.slice (some ⟨b2,0,none⟩) 256 256:=by rw[ha4];exact(ev_ne _ _ _ _ (by decide)).trans e3_165
   have e4_164:a4.eval (.tmp 164)=.slice (some ⟨b3,0,none⟩) 256 256:=by rw[ha4];exact(ev_ne _ _ _ _ (by decide)).trans e3_164
   have e4_166:a4.eval (.tmp 166)=.agg #[.int .u8 1,.slice (some ⟨b3,0,none⟩) 256 256,.slice (some ⟨b2,0,none⟩) 256 256,.int .i64 0,.int .i64 0,.int .i64 0,.int .i64 0,.int .i64 0,.int .i64 0,.int .i64 0,.int .i64 0,.slice none 0 0,.slice none 0 0]:=by rw[ha4];exact zAd _ _ _ (by omega)
   refine P3.wpPlan_call (o:=⟨some 167,_,_,_,_,_⟩)  rfl rfl ?_
   intro K hK
   refine bs_wp (v:=.slice (some ⟨W3.heap.size,0,none⟩) 1 1) (W:=W3.alloc (.cells #[.int .u8 1,.slice (some ⟨b3,0,none⟩) 256 256,.slice (some ⟨b2,0,none⟩) 256 256,.int .i64 0,.int .i64 0,.int .i64 0,.int .i64 0,.int .i64 0,.int .i64 0,.int .i64 0,.int .i64 0,.slice none 0 0,.slice none 0 0] 38)) rfl (by simp only[List.map_toArray,List.map_cons,List.map_nil,e4_166];exact ly_make _ _ _) ?_
   refine hK.out _ _ trivial (fun _=>?_)
   clear hK K
   obtain⟨W4,hW,x4,hN4⟩:=zAb W3 #[.int .u8 1,.slice (some ⟨b3,0,none⟩) 256 256,.slice (some ⟨b2,0,none⟩) 256 256,.int .i64 0,.int .i64 0,.int .i64 0,.int .i64 0,.int .i64 0,.int .i64 0,.int .i64 0,.int .i64 0,.slice none 0 0,.slice none 0 0] 38
   rw[←hW]
   clear hW
   obtain⟨b4,hb4⟩:∃b,b=W3.heap.size:=⟨_,rfl⟩
   rw[←hb4] at x4 ⊢
   have y4_v:=x3.below hN4
   have o4_v:=x3.lt
   have y4_r:=y3_r.below hN4
   have o4_r:=y3_r.lt
   have y4_net:=y3_net.below hN4
   have o4_net:=y3_net.lt
   have z4:=zAa z3 hN4
   have s4:=z4.size
   have u4:=(z3).size
   obtain⟨a5,ha5⟩:∃x,x=(a4.put (some 167) (.slice (some ⟨b4,0,none⟩) 1 1)):=⟨_,rfl⟩
   change P3.wpPlan _ _ _ _ _ _ (a4.put (some 167) (.slice (some ⟨b4,0,none⟩) 1 1)) _
   rw[←ha5]
   have hs5:168<a5.tmps.size:=by rw[ha5,zAf];exact hs4
   have e5_7:a5.eval (.tmp 7)=.pointer (some ⟨b1,0,none⟩):=by rw[ha5];exact(ev_ne _ _ _ _ (by decide)).trans e4_7
   have e5_165:a5.eval (.tmp 165)=.slice (some ⟨b2,0,none⟩) 256 256:=by rw[ha5];exact(ev_ne _ _ _ _ (by decide)).trans e4_165
   have e5_164:a5.eval (.tmp 164)=.slice (some ⟨b3,0,none⟩) 256 256:=by rw[ha5];exact(ev_ne _ _ _ _ (by decide)).trans e4_164
   have e5_166:a5.eval (.tmp 166)=.agg #[.int .u8 1,.slice (some ⟨b3,0,none⟩) 256 256,.slice (some ⟨b2,0,none⟩) 256 256,.int .i64 0,.int .i64 0,.int .i64 0,.int .i64 0,.int .i64 0,.int .i64 0,.int .i64 0,.int .i64 0,.slice none 0 0,.slice none 0 0]:=by rw[ha5];exact(ev_ne _ _ _ _ (by decide)).trans e4_166
   have e5_167:a5.eval (.tmp 167)=.slice (some ⟨b4,0,none⟩) 1 1:=by rw[ha5];exact zAd _ _ _ (by omega)
   refine P3.wpPlan_pure (o:=⟨some 168,_,_,_,_,_⟩) (v:=.agg #[.int .i64 1,.slice (some ⟨b4,0,none⟩) 1 1]) rfl rfl (fun w'=>bd_run _ w' rfl (by simp only[List.map_toArray,List.map_cons,List.map_nil,ev_const,e5_167];exact net_build _ _)) ?_
   obtain⟨a6,ha6⟩:∃x,x=(a5.put (some 168) (.agg #[.int .i64 1,.slice (some ⟨b4,0,none⟩) 1 1])):=⟨_,rfl⟩
   change P3.wpPlan _ _ _ _ _ _ (a5.put (some 168) (.agg #[.int .i64 1,.slice (some ⟨b4,0,none⟩) 1 1])) _
   rw[←ha6]
   have hs6:168<a6.tmps.size:=by rw[ha6,zAf];exact hs5
   have e6_7:a6.eval (.tmp 7)=.pointer (some ⟨b1,0,none⟩):=by rw[ha6];exact(ev_ne _ _ _ _ (by decide)).trans e5_7
   have e6_165:a6.eval (.tmp 165)=.slice (some ⟨b2,0,none⟩) 256 256:=by rw[ha6];exact(ev_ne _ _ _ _ (by decide)).trans e5_165
   have e6_164:a6.eval (.tmp 164)=.slice (some ⟨b3,0,none⟩) 256 256:=by rw[ha6];exact(ev_ne _ _ _ _ (by decide)).trans e5_164
   have e6_166:a6.eval (.tmp 166)=.agg #[.int .u8 1,.slice (some ⟨b3,0,none⟩) 256 256,.slice (some ⟨b2,0,none⟩) 256 256,.int .i64 0,.int .i64 0,.int .i64 0,.int .i64 0,.int .i64 0,.int .i64 0,.int .i64 0,.int .i64 0,.slice none 0 0,.slice none 0 0]:=by rw[ha6];exact(ev_ne _ _ _ _ (by decide)).trans e5_166
   have e6_167:a6.eval (.tmp 167)=.slice (some ⟨b4,0,none⟩) 1 1:=by rw[ha6];exact(ev_ne _ _ _ _ (by decide)).trans e5_167
   have e6_168:a6.eval (.tmp 168)=.agg #[.int .i64 1,.slice (some ⟨b4,0,none⟩) 1 1]:=by rw[ha6];exact zAd _ _ _ (by omega)
   refine P3.wpPlan_late (o:=⟨none,_,_,_,_,_⟩)  rfl rfl (List.mem_singleton.2 rfl) ?_
   intro K hK
   refine st_wp rfl e6_7 e6_168 (net_put y4_net _) ?_
   refine hK.out _ _ ?_
   clear hK K
   refine P3.wpPlan_done ?_
   rw[put_none]
   obtain⟨W5,hW,x,kk,far,bel⟩:=store2 (.int .i64 1) (.slice (some ⟨b4,0,none⟩) 1 1) y4_net nofun nofun
   rw[←hW]
   clear hW
   rw[ha6,ha5,ha4,ha3,ha2,ha1]
   rw[Act.put_swap (d:=7) (e:=165) (by decide)]
   rw[Act.put_swap (d:=7) (e:=164) (by decide)]
   rw[Act.put_swap (d:=7) (e:=166) (by decide)]
   rw[Act.put_swap (d:=7) (e:=167) (by decide)]
   rw[Act.put_swap (d:=7) (e:=168) (by decide)]
   rw[Act.put_swap (d:=165) (e:=164) (by decide)]
   exact hQ _ _ _ _ _ _ _ _ x (wide_lone (by decide) (far _ _ _ (by omega) y4_v) (far _ _ _ (by omega) y4_r) (far _ _ _ (by omega) x4) hZV hZR) (bel _ _ (by omega) z4)
theorem wide_48 {w:World} {a:Act} {Q:Exit→Act→World→Prop} (hs:173<a.tmps.size)
  (hQ:∀(x1 x2 x3 x4 x5:Value) (nb lb:Nat) (W:World),Bx W nb #[.int .i64 1,.slice (some ⟨lb,0,none⟩) 1 1] 30→Lone W lb 1 (wideR 257)→Below w.heap.size w W→Q .normal (((((((a.put (some 169) x1).put (some 170) x2).put (some 171) x3).put (some 172) x4).put (some 173) x5).put (some 8) (.pointer (some ⟨nb,0,none⟩)))) W) :
  (Code.region 48 #[{ dst := some 169, op := Op.makeSlice 34 (Operand.const (Value.int IntKind.i64 257)) (Operand.const (Value.int IntKind.i64 257)), type := 34, pos := "law.go:90", after := #[], guard := none }, { dst := some 170, op := Op.makeSlice 35 (Operand.const (Value.int IntKind.i64 257)) (Operand.const (Value.int IntKind.i64 257)), type := 35, pos := "law.go:90", after := #[], guard := none }, { dst := some 171, op := Op.build 38 #[(0, Operand.const (Value.int IntKind.u8 1)), (1, Operand.tmp 169), (2, Operand.tmp 170)], type := 38, pos := "law.go:90", after := #[{ on := 0, ground := Ground.data }, { on := 1, ground := Ground.data }], guard := none }, { dst := some 172, op := Op.buildSlice 28 1 #[(0, Operand.tmp 171)], type := 28, pos := "law.go:90", after := #[{ on := 2, ground := Ground.data }], guard := none }, { dst := some 173, op := Op.build 30 #[(0, Operand.const (Value.int IntKind.i64 1)), (1, Operand.tmp 172)], type := 30, pos := "law.go:90", after := #[{ on := 3, ground := Ground.data }], guard := none }, { dst := some 8, op := Op.alloc 30, type := 0, pos := "law.go:90", after := #[], guard := none }, { dst := none, op := Op.store 30 (Operand.tmp 8) (Operand.tmp 173), type := 0, pos := "law.go:90", after := #[{ on := 5, ground := Ground.data }, { on := 4, ground := Ground.data }, { on := 0, ground := Ground.phase }, { on := 1, ground := Ground.phase }, { on := 2, ground := Ground.phase }, { on := 3, ground := Ground.phase }, { on := 4, ground := Ground.phase }, { on := 5, ground := Ground.phase }], guard := none }] true).wp Tryd.prog Q a w := by
 obtain⟨ZV,hZV,hmV⟩:=makeV 257 257 rfl (by decide)
 obtain⟨ZR,hZR,hmR⟩:=makeR 257 257 rfl (by decide)
 refine P3.wp_region_plan (.three 0 (.two 1 (.pure 2 (.two 3 (.pure 4 (.only 5 (.only 6 (.done)))) 5 (.only 3 (.pure 4 (.only 6 (.done)))))) 5 (.only 1 (.pure 2 (.only 3 (.pure 4 (.only 6 (.done))))))) 1 (.two 0 (.pure 2 (.two 3 (.pure 4 (.only 5 (.only 6 (.done)))) 5 (.only 3 (.pure 4 (.only 6 (.done)))))) 5 (.only 0 (.pure 2 (.only 3 (.pure 4 (.only 6 (.done))))))) 5 (.two 0 (.only 1 (.pure 2 (.only 3 (.pure 4 (.only 6 (.done)))))) 1 (.only 0 (.pure 2 (.only 3 (.pure 4 (.only 6 (.done)))))))) [6] (fun _=>True) rfl (by decide +kernel) trivial ?_
 have z0:Below w.heap.size w w.drew:=below_drew w
 refine P3.wpPlan_three (o:=⟨some 169,_,_,_,_,_⟩) (o':=⟨some 170,_,_,_,_,_⟩) (o'':=⟨some 8,_,_,_,_,_⟩) rfl rfl rfl rfl rfl rfl  (fun K hK=>?_) (fun K hK=>?_) (fun K hK=>?_) 
 ·refine mk_wp hmV _ _ rfl rfl rfl ?_
  refine hK.out _ _ trivial (fun _=>?_)
  clear hK K
  obtain⟨W1,hW,x1,hN1⟩:=zAb w.drew ZV 54
  rw[←hW]
  clear hW
  obtain⟨b1,hb1⟩:∃b,b=w.drew.heap.size:=⟨_,rfl⟩
  rw[←hb1] at x1 ⊢
  have z1:=zAa z0 hN1
  have s1:=z1.size
  have u1:=(z0).size
  obtain⟨a1,ha1⟩:∃x,x=(a.put (some 169) (.slice (some ⟨b1,0,none⟩) 257 257)):=⟨_,rfl⟩
  change P3.wpPlan _ _ _ _ _ _ (a.put (some 169) (.slice (some ⟨b1,0,none⟩) 257 257)) _
  rw[←ha1]
  have hs1:173<a1.tmps.size:=by rw[ha1,zAf];exact hs
  have e1_169:a1.eval (.tmp 169)=.slice (some ⟨b1,0,none⟩) 257 257:=by rw[ha1];exact zAd _ _ _ (by omega)
  refine P3.wpPlan_two (o:=⟨some 170,_,_,_,_,_⟩) (o':=⟨some 8,_,_,_,_,_⟩) rfl rfl rfl rfl  (fun K hK=>?_) (fun K hK=>?_) 
  ·refine mk_wp hmR _ _ rfl rfl rfl ?_
   refine hK.out _ _ trivial (fun _=>?_)
   clear hK K
   obtain⟨W2,hW,x2,hN2⟩:=zAb W1 ZR 27
   rw[←hW]
   clear hW
   obtain⟨b2,hb2⟩:∃b,b=W1.heap.size:=⟨_,rfl⟩
   rw[←hb2] at x2 ⊢
   have y2_v:=x1.below hN2
   have o2_v:=x1.lt
   have z2:=zAa z1 hN2
   have s2:=z2.size
   have u2:=(z1).size
   obtain⟨a2,ha2⟩:∃x,x=(a1.put (some 170) (.slice (some ⟨b2,0,none⟩) 257 257)):=⟨_,rfl⟩
   change P3.wpPlan _ _ _ _ _ _ (a1.put (some 170) (.slice (some ⟨b2,0,none⟩) 257 257)) _
   rw[←ha2]
   have hs2:173<a2.tmps.size:=by rw[ha2,zAf];exact hs1
   have e2_169:a2.eval (.tmp 169)=.slice (some ⟨b1,0,none⟩) 257 257:=by rw[ha2];exact(ev_ne _ _ _ _ (by decide)).trans e1_169
   have e2_170:a2.eval (.tmp 170)=.slice (some ⟨b2,0,none⟩) 257 257:=by rw[ha2];exact zAd _ _ _ (by omega)
   refine P3.wpPlan_pure (o:=⟨some 171,_,_,_,_,_⟩) (v:=.agg #[.int .u8 1,.slice (some ⟨b1,0,none⟩) 257 257,.slice (some ⟨b2,0,none⟩) 257 257,.int .i64 0,.int .i64 0,.int .i64 0,.int .i64 0,.int .i64 0,.int .i64 0,.int .i64 0,.int .i64 0,.slice none 0 0,.slice none 0 0]) rfl rfl (fun w'=>bd_run _ w' rfl (by simp only[List.map_toArray,List.map_cons,List.map_nil,ev_const,e2_169,e2_170];exact ly_build _ _ _ _ _)) ?_
   obtain⟨a3,ha3⟩:∃x,x=(a2.put (some 171) (.agg #[.int .u8 1,.slice (some ⟨b1,0,none⟩) 257 257,.slice (some ⟨b2,0,none⟩) 257 257,.int .i64 0,.int .i64 0,.int .i64 0,.int .i64 0,.int .i64 0,.int .i64 0,.int .i64 0,.int .i64 0,.slice none 0 0,.slice none 0 0])):=⟨_,rfl⟩
   change P3.wpPlan _ _ _ _ _ _ (a2.put (some 171) (.agg #[.int .u8 1,.slice (some ⟨b1,0,none⟩) 257 257,.slice (some ⟨b2,0,none⟩) 257 257,.int .i64 0,.int .i64 0,.int .i64 0,.int .i64 0,.int .i64 0,.int .i64 0,.int .i64 0,.int .i64 0,.slice none 0 0,.slice none 0 0])) _
   rw[←ha3]
   have hs3:173<a3.tmps.size:=by rw[ha3,zAf];exact hs2
   have e3_169:a3.eval (.tmp 169)=.slice (some ⟨b1,0,none⟩) 257 257:=by rw[ha3];exact(ev_ne _ _ _ _ (by decide)).trans e2_169
   have e3_170:a3.eval (.tmp 170)=.slice (some ⟨b2,0,none⟩) 257 257:=by rw[ha3];exact(ev_ne _ _ _ _ (by decide)).trans e2_170
   have e3_171:a3.eval (.tmp 171)=.agg #[.int .u8 1,.slice (some ⟨b1,0,none⟩) 257 257,.slice (some ⟨b2,0,none⟩) 257 257,.int .i64 0,.int .i64 0,.int .i64 0,.int .i64 0,.int .i64 0,.int .i64 0,.int .i64 0,.int .i64 0,.slice none 0 0,.slice none 0 0]:=by rw[ha3];exact zAd _ _ _ (by omega)
   refine P3.wpPlan_two (o:=⟨some 172,_,_,_,_,_⟩) (o':=⟨some 8,_,_,_,_,_⟩) rfl rfl rfl rfl  (fun K hK=>?_) (fun K hK=>?_) 
   ·refine bs_wp (v:=.slice (some ⟨W2.heap.size,0,none⟩) 1 1) (W:=W2.alloc (.cells #[.int .u8 1,.slice (some ⟨b1,0,none⟩) 257 257,.slice (some ⟨b2,0,none⟩) 257 257,.int .i64 0,.int .i64 0,.int .i64 0,.int .i64 0,.int .i64 0,.int .i64 0,.int .i64 0,.int .i64 0,.slice none 0 0,.slice none 0 0] 38)) rfl (by simp only[List.map_toArray,List.map_cons,List.map_nil,e3_171];exact ly_make _ _ _) ?_
    refine hK.out _ _ trivial (fun _=>?_)
    clear hK K
    obtain⟨W3,hW,x3,hN3⟩:=zAb W2 #[.int .u8 1,.slice (some ⟨b1,0,none⟩) 257 257,.slice (some ⟨b2,0,none⟩) 257 257,.int .i64 0,.int .i64 0,.int .i64 0,.int .i64 0,.int .i64 0,.int .i64 0,.int .i64 0,.int .i64 0,.slice none 0 0,.slice none 0 0] 38
    rw[←hW]
    clear hW
    obtain⟨b3,hb3⟩:∃b,b=W2.heap.size:=⟨_,rfl⟩
    rw[←hb3] at x3 ⊢
    have y3_v:=y2_v.below hN3
    have o3_v:=y2_v.lt
    have y3_r:=x2.below hN3
    have o3_r:=x2.lt
    have z3:=zAa z2 hN3
    have s3:=z3.size
    have u3:=(z2).size
    obtain⟨a4,ha4⟩:∃x,x=(a3.put (some 172) (.slice (some ⟨b3,0,none⟩) 1 1)):=⟨_,rfl⟩
    change P3.wpPlan _ _ _ _ _ _ (a3.put (some 172) (.slice (some ⟨b3,0,none⟩) 1 1)) _
    rw[←ha4]
    have hs4:173<a4.tmps.size:=by rw[ha4,zAf];exact hs3
    have e4_169:a4.eval (.tmp 169)=.slice (some ⟨b1,0,none⟩) 257 257:=by rw[ha4];exact(ev_ne _ _ _ _ (by decide)).trans e3_169
    have e4_170:a4.eval (.tmp 170)=.slice (some ⟨b2,0,none⟩) 257 257:=by rw[ha4];exact(ev_ne _ _ _ _ (by decide)).trans e3_170
    have e4_171:a4.eval (.tmp 171)=.agg #[.int .u8 1,.slice (some ⟨b1,0,none⟩) 257 257,.slice (some ⟨b2,0,none⟩) 257 257,.int .i64 0,.int .i64 0,.int .i64 0,.int .i64 0,.int .i64 0,.int .i64 0,.int .i64 0,.int .i64 0,.slice none 0 0,.slice none 0 0]:=by rw[ha4];exact(ev_ne _ _ _ _ (by decide)).trans e3_171
    have e4_172:a4.eval (.tmp 172)=.slice (some ⟨b3,0,none⟩) 1 1:=by rw[ha4];exact zAd _ _ _ (by omega)
    refine P3.wpPlan_pure (o:=⟨some 173,_,_,_,_,_⟩) (v:=.agg #[.int .i64 1,.slice (some ⟨b3,0,none⟩) 1 1]) rfl rfl (fun w'=>bd_run _ w' rfl (by simp only[List.map_toArray,List.map_cons,List.map_nil,ev_const,e4_172];exact net_build _ _)) ?_
    obtain⟨a5,ha5⟩:∃x,x=(a4.put (some 173) (.agg #[.int .i64 1,.slice (some ⟨b3,0,none⟩) 1 1])):=⟨_,rfl⟩
    change P3.wpPlan _ _ _ _ _ _ (a4.put (some 173) (.agg #[.int .i64 1,.slice (some ⟨b3,0,none⟩) 1 1])) _
    rw[←ha5]
    have hs5:173<a5.tmps.size:=by rw[ha5,zAf];exact hs4
    have e5_169:a5.eval (.tmp 169)=.slice (some ⟨b1,0,none⟩) 257 257:=by rw[ha5];exact(ev_ne _ _ _ _ (by decide)).trans e4_169
    have e5_170:a5.eval (.tmp 170)=.slice (some ⟨b2,0,none⟩) 257 257:=by rw[ha5];exact(ev_ne _ _ _ _ (by decide)).trans e4_170
    have e5_171:a5.eval (.tmp 171)=.agg #[.int .u8 1,.slice (some ⟨b1,0,none⟩) 257 257,.slice (some ⟨b2,0,none⟩) 257 257,.int .i64 0,.int .i64 0,.int .i64 0,.int .i64 0,.int .i64 0,.int .i64 0,.int .i64 0,.int .i64 0,.slice none 0 0,.slice none 0 0]:=by rw[ha5];exact(ev_ne _ _ _ _ (by decide)).trans e4_171
    have e5_172:a5.eval (.tmp 172)=.slice (some ⟨b3,0,none⟩) 1 1:=by rw[ha5];exact(ev_ne _ _ _ _ (by decide)).trans e4_172
    have e5_173:a5.eval (.tmp 173)=.agg #[.int .i64 1,.slice (some ⟨b3,0,none⟩) 1 1]:=by rw[ha5];exact zAd _ _ _ (by omega)
    refine P3.wpPlan_call (o:=⟨some 8,_,_,_,_,_⟩)  rfl rfl ?_
    intro K hK
    refine al_wp rfl (net_make _) ?_
    refine hK.out _ _ trivial (fun _=>?_)
    clear hK K
    obtain⟨W4,hW,x4,hN4⟩:=zAb W3 #[.int .i64 0,.slice none 0 0] 30
    rw[←hW]
    clear hW
    obtain⟨b4,hb4⟩:∃b,b=W3.heap.size:=⟨_,rfl⟩
    rw[←hb4] at x4 ⊢
    have y4_v:=y3_v.below hN4
    have o4_v:=y3_v.lt
    have y4_r:=y3_r.below hN4
    have o4_r:=y3_r.lt
    have y4_l:=x3.below hN4
    have o4_l:=x3.lt
    have z4:=zAa z3 hN4
    have s4:=z4.size
    have u4:=(z3).size
    obtain⟨a6,ha6⟩:∃x,x=(a5.put (some 8) (.pointer (some ⟨b4,0,none⟩))):=⟨_,rfl⟩
    change P3.wpPlan _ _ _ _ _ _ (a5.put (some 8) (.pointer (some ⟨b4,0,none⟩))) _
    rw[←ha6]
    have hs6:173<a6.tmps.size:=by rw[ha6,zAf];exact hs5
    have e6_169:a6.eval (.tmp 169)=.slice (some ⟨b1,0,none⟩) 257 257:=by rw[ha6];exact(ev_ne _ _ _ _ (by decide)).trans e5_169
    have e6_170:a6.eval (.tmp 170)=.slice (some ⟨b2,0,none⟩) 257 257:=by rw[ha6];exact(ev_ne _ _ _ _ (by decide)).trans e5_170
    have e6_171:a6.eval (.tmp 171)=.agg #[.int .u8 1,.slice (some ⟨b1,0,none⟩) 257 257,.slice (some ⟨b2,0,none⟩) 257 257,.int .i64 0,.int .i64 0,.int .i64 0,.int .i64 0,.int .i64 0,.int .i64 0,.int .i64 0,.int .i64 0,.slice none 0 0,.slice none 0 0]:=by rw[ha6];exact(ev_ne _ _ _ _ (by decide)).trans e5_171
    have e6_172:a6.eval (.tmp 172)=.slice (some ⟨b3,0,none⟩) 1 1:=by rw[ha6];exact(ev_ne _ _ _ _ (by decide)).trans e5_172
    have e6_173:a6.eval (.tmp 173)=.agg #[.int .i64 1,.slice (some ⟨b3,0,none⟩) 1 1]:=by rw[ha6];exact(ev_ne _ _ _ _ (by decide)).trans e5_173
    have e6_8:a6.eval (.tmp 8)=.pointer (some ⟨b4,0,none⟩):=by rw[ha6];exact zAd _ _ _ (by omega)
    refine P3.wpPlan_late (o:=⟨none,_,_,_,_,_⟩)  rfl rfl (List.mem_singleton.2 rfl) ?_
    intro K hK
    refine st_wp rfl e6_8 e6_173 (net_put x4 _) ?_
    refine hK.out _ _ ?_
    clear hK K
    refine P3.wpPlan_done ?_
    rw[put_none]
    obtain⟨W5,hW,x,kk,far,bel⟩:=store2 (.int .i64 1) (.slice (some ⟨b3,0,none⟩) 1 1) x4 nofun nofun
    rw[←hW]
    clear hW
    rw[ha6,ha5,ha4,ha3,ha2,ha1]
    exact hQ _ _ _ _ _ _ _ _ x (wide_lone (by decide) (far _ _ _ (by omega) y4_v) (far _ _ _ (by omega) y4_r) (far _ _ _ (by omega) y4_l) hZV hZR) (bel _ _ (by omega) z4)
   ·refine al_wp rfl (net_make _) ?_
    refine hK.out _ _ trivial (fun _=>?_)
    clear hK K
    obtain⟨W3,hW,x3,hN3⟩:=zAb W2 #[.int .i64 0,.slice none 0 0] 30
    rw[←hW]
    clear hW
    obtain⟨b3,hb3⟩:∃b,b=W2.heap.size:=⟨_,rfl⟩
    rw[←hb3] at x3 ⊢
    have y3_v:=y2_v.below hN3
    have o3_v:=y2_v.lt
    have y3_r:=x2.below hN3
    have o3_r:=x2.lt
    have z3:=zAa z2 hN3
    have s3:=z3.size
    have u3:=(z2).size
    obtain⟨a4,ha4⟩:∃x,x=(a3.put (some 8) (.pointer (some ⟨b3,0,none⟩))):=⟨_,rfl⟩
    change P3.wpPlan _ _ _ _ _ _ (a3.put (some 8) (.pointer (some ⟨b3,0,none⟩))) _
    rw[←ha4]
    have hs4:173<a4.tmps.size:=by rw[ha4,zAf];exact hs3
    have e4_169:a4.eval (.tmp 169)=.slice (some ⟨b1,0,none⟩) 257 257:=by rw[ha4];exact(ev_ne _ _ _ _ (by decide)).trans e3_169
    have e4_170:a4.eval (.tmp 170)=.slice (some ⟨b2,0,none⟩) 257 257:=by rw[ha4];exact(ev_ne _ _ _ _ (by decide)).trans e3_170
    have e4_171:a4.eval (.tmp 171)=.agg #[.int .u8 1,.slice (some ⟨b1,0,none⟩) 257 257,.slice (some ⟨b2,0,none⟩) 257 257,.int .i64 0,.int .i64 0,.int .i64 0,.int .i64 0,.int .i64 0,.int .i64 0,.int .i64 0,.int .i64 0,.slice none 0 0,.slice none 0 0]:=by rw[ha4];exact(ev_ne _ _ _ _ (by decide)).trans e3_171
    have e4_8:a4.eval (.tmp 8)=.pointer (some ⟨b3,0,none⟩):=by rw[ha4];exact zAd _ _ _ (by omega)
    refine P3.wpPlan_call (o:=⟨some 172,_,_,_,_,_⟩)  rfl rfl ?_
    intro K hK
    refine bs_wp (v:=.slice (some ⟨W3.heap.size,0,none⟩) 1 1) (W:=W3.alloc (.cells #[.int .u8 1,.slice (some ⟨b1,0,none⟩) 257 257,.slice (some ⟨b2,0,none⟩) 257 257,.int .i64 0,.int .i64 0,.int .i64 0,.int .i64 0,.int .i64 0,.int .i64 0,.int .i64 0,.int .i64 0,.slice none 0 0,.slice none 0 0] 38)) rfl (by simp only[List.map_toArray,List.map_cons,List.map_nil,e4_171];exact ly_make _ _ _) ?_
    refine hK.out _ _ trivial (fun _=>?_)
    clear hK K
    obtain⟨W4,hW,x4,hN4⟩:=zAb W3 #[.int .u8 1,.slice (some ⟨b1,0,none⟩) 257 257,.slice (some ⟨b2,0,none⟩) 257 257,.int .i64 0,.int .i64 0,.int .i64 0,.int .i64 0,.int .i64 0,.int .i64 0,.int .i64 0,.int .i64 0,.slice none 0 0,.slice none 0 0] 38
    rw[←hW]
    clear hW
    obtain⟨b4,hb4⟩:∃b,b=W3.heap.size:=⟨_,rfl⟩
    rw[←hb4] at x4 ⊢
    have y4_v:=y3_v.below hN4
    have o4_v:=y3_v.lt
    have y4_r:=y3_r.below hN4
    have o4_r:=y3_r.lt
    have y4_net:=x3.below hN4
    have o4_net:=x3.lt
    have z4:=zAa z3 hN4
    have s4:=z4.size
    have u4:=(z3).size
    obtain⟨a5,ha5⟩:∃x,x=(a4.put (some 172) (.slice (some ⟨b4,0,none⟩) 1 1)):=⟨_,rfl⟩
    change P3.wpPlan _ _ _ _ _ _ (a4.put (some 172) (.slice (some ⟨b4,0,none⟩) 1 1)) _
    rw[←ha5]
    have hs5:173<a5.tmps.size:=by rw[ha5,zAf];exact hs4
    have e5_169:a5.eval (.tmp 169)=.slice (some ⟨b1,0,none⟩) 257 257:=by rw[ha5];exact(ev_ne _ _ _ _ (by decide)).trans e4_169
    have e5_170:a5.eval (.tmp 170)=.slice (some ⟨b2,0,none⟩) 257 257:=by rw[ha5];exact(ev_ne _ _ _ _ (by decide)).trans e4_170
    have e5_171:a5.eval (.tmp 171)=.agg #[.int .u8 1,.slice (some ⟨b1,0,none⟩) 257 257,.slice (some ⟨b2,0,none⟩) 257 257,.int .i64 0,.int .i64 0,.int .i64 0,.int .i64 0,.int .i64 0,.int .i64 0,.int .i64 0,.int .i64 0,.slice none 0 0,.slice none 0 0]:=by rw[ha5];exact(ev_ne _ _ _ _ (by decide)).trans e4_171
    have e5_8:a5.eval (.tmp 8)=.pointer (some ⟨b3,0,none⟩):=by rw[ha5];exact(ev_ne _ _ _ _ (by decide)).trans e4_8
    have e5_172:a5.eval (.tmp 172)=.slice (some ⟨b4,0,none⟩) 1 1:=by rw[ha5];exact zAd _ _ _ (by omega)
    refine P3.wpPlan_pure (o:=⟨some 173,_,_,_,_,_⟩) (v:=.agg #[.int .i64 1,.slice (some ⟨b4,0,none⟩) 1 1]) rfl rfl (fun w'=>bd_run _ w' rfl (by simp only[List.map_toArray,List.map_cons,List.map_nil,ev_const,e5_172];exact net_build _ _)) ?_
    obtain⟨a6,ha6⟩:∃x,x=(a5.put (some 173) (.agg #[.int .i64 1,.slice (some ⟨b4,0,none⟩) 1 1])):=⟨_,rfl⟩
    change P3.wpPlan _ _ _ _ _ _ (a5.put (some 173) (.agg #[.int .i64 1,.slice (some ⟨b4,0,none⟩) 1 1])) _
    rw[←ha6]
    have hs6:173<a6.tmps.size:=by rw[ha6,zAf];exact hs5
    have e6_169:a6.eval (.tmp 169)=.slice (some ⟨b1,0,none⟩) 257 257:=by rw[ha6];exact(ev_ne _ _ _ _ (by decide)).trans e5_169
    have e6_170:a6.eval (.tmp 170)=.slice (some ⟨b2,0,none⟩) 257 257:=by rw[ha6];exact(ev_ne _ _ _ _ (by decide)).trans e5_170
    have e6_171:a6.eval (.tmp 171)=.agg #[.int .u8 1,.slice (some ⟨b1,0,none⟩) 257 257,.slice (some ⟨b2,0,none⟩) 257 257,.int .i64 0,.int .i64 0,.int .i64 0,.int .i64 0,.int .i64 0,.int .i64 0,.int .i64 0,.int .i64 0,.slice none 0 0,.slice none 0 0]:=by rw[ha6];exact(ev_ne _ _ _ _ (by decide)).trans e5_171
    have e6_8:a6.eval (.tmp 8)=.pointer (some ⟨b3,0,none⟩):=by rw[ha6];exact(ev_ne _ _ _ _ (by decide)).trans e5_8
    have e6_172:a6.eval (.tmp 172)=.slice (some ⟨b4,0,none⟩) 1 1:=by rw[ha6];exact(ev_ne _ _ _ _ (by decide)).trans e5_172
    have e6_173:a6.eval (.tmp 173)=.agg #[.int .i64 1,.slice (some ⟨b4,0,none⟩) 1 1]:=by rw[ha6];exact zAd _ _ _ (by omega)
    refine P3.wpPlan_late (o:=⟨none,_,_,_,_,_⟩)  rfl rfl (List.mem_singleton.2 rfl) ?_
    intro K hK
    refine st_wp rfl e6_8 e6_173 (net_put y4_net _) ?_
    refine hK.out _ _ ?_
    clear hK K
    refine P3.wpPlan_done ?_
    rw[put_none]
    obtain⟨W5,hW,x,kk,far,bel⟩:=store2 (.int .i64 1) (.slice (some ⟨b4,0,none⟩) 1 1) y4_net nofun nofun
    rw[←hW]
    clear hW
    rw[ha6,ha5,ha4,ha3,ha2,ha1]
    rw[Act.put_swap (d:=8) (e:=172) (by decide)]
    rw[Act.put_swap (d:=8) (e:=173) (by decide)]
    exact hQ _ _ _ _ _ _ _ _ x (wide_lone (by decide) (far _ _ _ (by omega) y4_v) (far _ _ _ (by omega) y4_r) (far _ _ _ (by omega) x4) hZV hZR) (bel _ _ (by omega) z4)
  ·refine al_wp rfl (net_make _) ?_
   refine hK.out _ _ trivial (fun _=>?_)
   clear hK K
   obtain⟨W2,hW,x2,hN2⟩:=zAb W1 #[.int .i64 0,.slice none 0 0] 30
   rw[←hW]
   clear hW
   obtain⟨b2,hb2⟩:∃b,b=W1.heap.size:=⟨_,rfl⟩
   rw[←hb2] at x2 ⊢
   have y2_v:=x1.below hN2
   have o2_v:=x1.lt
   have z2:=zAa z1 hN2
   have s2:=z2.size
   have u2:=(z1).size
   obtain⟨a2,ha2⟩:∃x,x=(a1.put (some 8) (.pointer (some ⟨b2,0,none⟩))):=⟨_,rfl⟩
   change P3.wpPlan _ _ _ _ _ _ (a1.put (some 8) (.pointer (some ⟨b2,0,none⟩))) _
   rw[←ha2]
   have hs2:173<a2.tmps.size:=by rw[ha2,zAf];exact hs1
   have e2_169:a2.eval (.tmp 169)=.slice (some ⟨b1,0,none⟩) 257 257:=by rw[ha2];exact(ev_ne _ _ _ _ (by decide)).trans e1_169
   have e2_8:a2.eval (.tmp 8)=.pointer (some ⟨b2,0,none⟩):=by rw[ha2];exact zAd _ _ _ (by omega)
   refine P3.wpPlan_call (o:=⟨some 170,_,_,_,_,_⟩)  rfl rfl ?_
   intro K hK
   refine mk_wp hmR _ _ rfl rfl rfl ?_
   refine hK.out _ _ trivial (fun _=>?_)
   clear hK K
   obtain⟨W3,hW,x3,hN3⟩:=zAb W2 ZR 27
   rw[←hW]
   clear hW
   obtain⟨b3,hb3⟩:∃b,b=W2.heap.size:=⟨_,rfl⟩
   rw[←hb3] at x3 ⊢
   have y3_v:=y2_v.below hN3
   have o3_v:=y2_v.lt
   have y3_net:=x2.below hN3
   have o3_net:=x2.lt
   have z3:=zAa z2 hN3
   have s3:=z3.size
   have u3:=(z2).size
   obtain⟨a3,ha3⟩:∃x,x=(a2.put (some 170) (.slice (some ⟨b3,0,none⟩) 257 257)):=⟨_,rfl⟩
   change P3.wpPlan _ _ _ _ _ _ (a2.put (some 170) (.slice (some ⟨b3,0,none⟩) 257 257)) _
   rw[←ha3]
   have hs3:173<a3.tmps.size:=by rw[ha3,zAf];exact hs2
   have e3_169:a3.eval (.tmp 169)=.slice (some ⟨b1,0,none⟩) 257 257:=by rw[ha3];exact(ev_ne _ _ _ _ (by decide)).trans e2_169
   have e3_8:a3.eval (.tmp 8)=.pointer (some ⟨b2,0,none⟩):=by rw[ha3];exact(ev_ne _ _ _ _ (by decide)).trans e2_8
   have e3_170:a3.eval (.tmp 170)=.slice (some ⟨b3,0,none⟩) 257 257:=by rw[ha3];exact zAd _ _ _ (by omega)
   refine P3.wpPlan_pure (o:=⟨some 171,_,_,_,_,_⟩) (v:=.agg #[.int .u8 1,.slice (some ⟨b1,0,none⟩) 257 257,.slice (some ⟨b3,0,none⟩) 257 257,.int .i64 0,.int .i64 0,.int .i64 0,.int .i64 0,.int .i64 0,.int .i64 0,.int .i64 0,.int .i64 0,.slice none 0 0,.slice none 0 0]) rfl rfl (fun w'=>bd_run _ w' rfl (by simp only[List.map_toArray,List.map_cons,List.map_nil,ev_const,e3_169,e3_170];exact ly_build _ _ _ _ _)) ?_
   obtain⟨a4,ha4⟩:∃x,x=(a3.put (some 171) (.agg #[.int .u8 1,.slice (some ⟨b1,0,none⟩) 257 257,.slice (some ⟨b3,0,none⟩) 257 257,.int .i64 0,.int .i64 0,.int .i64 0,.int .i64 0,.int .i64 0,.int .i64 0,.int .i64 0,.int .i64 0,.slice none 0 0,.slice none 0 0])):=⟨_,rfl⟩
   change P3.wpPlan _ _ _ _ _ _ (a3.put (some 171) (.agg #[.int .u8 1,.slice (some ⟨b1,0,none⟩) 257 257,.slice (some ⟨b3,0,none⟩) 257 257,.int .i64 0,.int .i64 0,.int .i64 0,.int .i64 0,.int .i64 0,.int .i64 0,.int .i64 0,.int .i64 0,.slice none 0 0,.slice none 0 0])) _
   rw[←ha4]
   have hs4:173<a4.tmps.size:=by rw[ha4,zAf];exact hs3
   have e4_169:a4.eval (.tmp 169)=.slice (some ⟨b1,0,none⟩) 257 257:=by rw[ha4];exact(ev_ne _ _ _ _ (by decide)).trans e3_169
   have e4_8:a4.eval (.tmp 8)=.pointer (some ⟨b2,0,none⟩):=by rw[ha4];exact(ev_ne _ _ _ _ (by decide)).trans e3_8
   have e4_170:a4.eval (.tmp 170)=.slice (some ⟨b3,0,none⟩) 257 257:=by rw[ha4];exact(ev_ne _ _ _ _ (by decide)).trans e3_170
   have e4_171:a4.eval (.tmp 171)=.agg #[.int .u8 1,.slice (some ⟨b1,0,none⟩) 257 257,.slice (some ⟨b3,0,none⟩) 257 257,.int .i64 0,.int .i64 0,.int .i64 0,.int .i64 0,.int .i64 0,.int .i64 0,.int .i64 0,.int .i64 0,.slice none 0 0,.slice none 0 0]:=by rw[ha4];exact zAd _ _ _ (by omega)
   refine P3.wpPlan_call (o:=⟨some 172,_,_,_,_,_⟩)  rfl rfl ?_
   intro K hK
   refine bs_wp (v:=.slice (some ⟨W3.heap.size,0,none⟩) 1 1) (W:=W3.alloc (.cells #[.int .u8 1,.slice (some ⟨b1,0,none⟩) 257 257,.slice (some ⟨b3,0,none⟩) 257 257,.int .i64 0,.int .i64 0,.int .i64 0,.int .i64 0,.int .i64 0,.int .i64 0,.int .i64 0,.int .i64 0,.slice none 0 0,.slice none 0 0] 38)) rfl (by simp only[List.map_toArray,List.map_cons,List.map_nil,e4_171];exact ly_make _ _ _) ?_
   refine hK.out _ _ trivial (fun _=>?_)
   clear hK K
   obtain⟨W4,hW,x4,hN4⟩:=zAb W3 #[.int .u8 1,.slice (some ⟨b1,0,none⟩) 257 257,.slice (some ⟨b3,0,none⟩) 257 257,.int .i64 0,.int .i64 0,.int .i64 0,.int .i64 0,.int .i64 0,.int .i64 0,.int .i64 0,.int .i64 0,.slice none 0 0,.slice none 0 0] 38
   rw[←hW]
   clear hW
   obtain⟨b4,hb4⟩:∃b,b=W3.heap.size:=⟨_,rfl⟩
   rw[←hb4] at x4 ⊢
   have y4_v:=y3_v.below hN4
   have o4_v:=y3_v.lt
   have y4_r:=x3.below hN4
   have o4_r:=x3.lt
   have y4_net:=y3_net.below hN4
   have o4_net:=y3_net.lt
   have z4:=zAa z3 hN4
   have s4:=z4.size
   have u4:=(z3).size
   obtain⟨a5,ha5⟩:∃x,x=(a4.put (some 172) (.slice (some ⟨b4,0,none⟩) 1 1)):=⟨_,rfl⟩
   change P3.wpPlan _ _ _ _ _ _ (a4.put (some 172) (.slice (some ⟨b4,0,none⟩) 1 1)) _
   rw[←ha5]
   have hs5:173<a5.tmps.size:=by rw[ha5,zAf];exact hs4
   have e5_169:a5.eval (.tmp 169)=.slice (some ⟨b1,0,none⟩) 257 257:=by rw[ha5];exact(ev_ne _ _ _ _ (by decide)).trans e4_169
   have e5_8:a5.eval (.tmp 8)=.pointer (some ⟨b2,0,none⟩):=by rw[ha5];exact(ev_ne _ _ _ _ (by decide)).trans e4_8
   have e5_170:a5.eval (.tmp 170)=.slice (some ⟨b3,0,none⟩) 257 257:=by rw[ha5];exact(ev_ne _ _ _ _ (by decide)).trans e4_170
   have e5_171:a5.eval (.tmp 171)=.agg #[.int .u8 1,.slice (some ⟨b1,0,none⟩) 257 257,.slice (some ⟨b3,0,none⟩) 257 257,.int .i64 0,.int .i64 0,.int .i64 0,.int .i64 0,.int .i64 0,.int .i64 0,.int .i64 0,.int .i64 0,.slice none 0 0,.slice none 0 0]:=by rw[ha5];exact(ev_ne _ _ _ _ (by decide)).trans e4_171
   have e5_172:a5.eval (.tmp 172)=.slice (some ⟨b4,0,none⟩) 1 1:=by rw[ha5];exact zAd _ _ _ (by omega)
   refine P3.wpPlan_pure (o:=⟨some 173,_,_,_,_,_⟩) (v:=.agg #[.int .i64 1,.slice (some ⟨b4,0,none⟩) 1 1]) rfl rfl (fun w'=>bd_run _ w' rfl (by simp only[List.map_toArray,List.map_cons,List.map_nil,ev_const,e5_172];exact net_build _ _)) ?_
   obtain⟨a6,ha6⟩:∃x,x=(a5.put (some 173) (.agg #[.int .i64 1,.slice (some ⟨b4,0,none⟩) 1 1])):=⟨_,rfl⟩
   change P3.wpPlan _ _ _ _ _ _ (a5.put (some 173) (.agg #[.int .i64 1,.slice (some ⟨b4,0,none⟩) 1 1])) _
   rw[←ha6]
   have hs6:173<a6.tmps.size:=by rw[ha6,zAf];exact hs5
   have e6_169:a6.eval (.tmp 169)=.slice (some ⟨b1,0,none⟩) 257 257:=by rw[ha6];exact(ev_ne _ _ _ _ (by decide)).trans e5_169
   have e6_8:a6.eval (.tmp 8)=.pointer (some ⟨b2,0,none⟩):=by rw[ha6];exact(ev_ne _ _ _ _ (by decide)).trans e5_8
   have e6_170:a6.eval (.tmp 170)=.slice (some ⟨b3,0,none⟩) 257 257:=by rw[ha6];exact(ev_ne _ _ _ _ (by decide)).trans e5_170
   have e6_171:a6.eval (.tmp 171)=.agg #[.int .u8 1,.slice (some ⟨b1,0,none⟩) 257 257,.slice (some ⟨b3,0,none⟩) 257 257,.int .i64 0,.int .i64 0,.int .i64 0,.int .i64 0,.int .i64 0,.int .i64 0,.int .i64 0,.int .i64 0,.slice none 0 0,.slice none 0 0]:=by rw[ha6];exact(ev_ne _ _ _ _ (by decide)).trans e5_171
   have e6_172:a6.eval (.tmp 172)=.slice (some ⟨b4,0,none⟩) 1 1:=by rw[ha6];exact(ev_ne _ _ _ _ (by decide)).trans e5_172
   have e6_173:a6.eval (.tmp 173)=.agg #[.int .i64 1,.slice (some ⟨b4,0,none⟩) 1 1]:=by rw[ha6];exact zAd _ _ _ (by omega)
   refine P3.wpPlan_late (o:=⟨none,_,_,_,_,_⟩)  rfl rfl (List.mem_singleton.2 rfl) ?_
   intro K hK
   refine st_wp rfl e6_8 e6_173 (net_put y4_net _) ?_
   refine hK.out _ _ ?_
   clear hK K
   refine P3.wpPlan_done ?_
   rw[put_none]
   obtain⟨W5,hW,x,kk,far,bel⟩:=store2 (.int .i64 1) (.slice (some ⟨b4,0,none⟩) 1 1) y4_net nofun nofun
   rw[←hW]
   clear hW
   rw[ha6,ha5,ha4,ha3,ha2,ha1]
   rw[Act.put_swap (d:=8) (e:=170) (by decide)]
   rw[Act.put_swap (d:=8) (e:=171) (by decide)]
   rw[Act.put_swap (d:=8) (e:=172) (by decide)]
   rw[Act.put_swap (d:=8) (e:=173) (by decide)]
   exact hQ _ _ _ _ _ _ _ _ x (wide_lone (by decide) (far _ _ _ (by omega) y4_v) (far _ _ _ (by omega) y4_r) (far _ _ _ (by omega) x4) hZV hZR) (bel _ _ (by omega) z4)
 ·refine mk_wp hmR _ _ rfl rfl rfl ?_
  refine hK.out _ _ trivial (fun _=>?_)
  clear hK K
  obtain⟨W1,hW,x1,hN1⟩:=zAb w.drew ZR 27
  rw[←hW]
  clear hW
  obtain⟨b1,hb1⟩:∃b,b=w.drew.heap.size:=⟨_,rfl⟩
  rw[←hb1] at x1 ⊢
  have z1:=zAa z0 hN1
  have s1:=z1.size
  have u1:=(z0).size
  obtain⟨a1,ha1⟩:∃x,x=(a.put (some 170) (.slice (some ⟨b1,0,none⟩) 257 257)):=⟨_,rfl⟩
  change P3.wpPlan _ _ _ _ _ _ (a.put (some 170) (.slice (some ⟨b1,0,none⟩) 257 257)) _
  rw[←ha1]
  have hs1:173<a1.tmps.size:=by rw[ha1,zAf];exact hs
  have e1_170:a1.eval (.tmp 170)=.slice (some ⟨b1,0,none⟩) 257 257:=by rw[ha1];exact zAd _ _ _ (by omega)
  refine P3.wpPlan_two (o:=⟨some 169,_,_,_,_,_⟩) (o':=⟨some 8,_,_,_,_,_⟩) rfl rfl rfl rfl  (fun K hK=>?_) (fun K hK=>?_) 
  ·refine mk_wp hmV _ _ rfl rfl rfl ?_
   refine hK.out _ _ trivial (fun _=>?_)
   clear hK K
   obtain⟨W2,hW,x2,hN2⟩:=zAb W1 ZV 54
   rw[←hW]
   clear hW
   obtain⟨b2,hb2⟩:∃b,b=W1.heap.size:=⟨_,rfl⟩
   rw[←hb2] at x2 ⊢
   have y2_r:=x1.below hN2
   have o2_r:=x1.lt
   have z2:=zAa z1 hN2
   have s2:=z2.size
   have u2:=(z1).size
   obtain⟨a2,ha2⟩:∃x,x=(a1.put (some 169) (.slice (some ⟨b2,0,none⟩) 257 257)):=⟨_,rfl⟩
   change P3.wpPlan _ _ _ _ _ _ (a1.put (some 169) (.slice (some ⟨b2,0,none⟩) 257 257)) _
   rw[←ha2]
   have hs2:173<a2.tmps.size:=by rw[ha2,zAf];exact hs1
   have e2_170:a2.eval (.tmp 170)=.slice (some ⟨b1,0,none⟩) 257 257:=by rw[ha2];exact(ev_ne _ _ _ _ (by decide)).trans e1_170
   have e2_169:a2.eval (.tmp 169)=.slice (some ⟨b2,0,none⟩) 257 257:=by rw[ha2];exact zAd _ _ _ (by omega)
   refine P3.wpPlan_pure (o:=⟨some 171,_,_,_,_,_⟩) (v:=.agg #[.int .u8 1,.slice (some ⟨b2,0,none⟩) 257 257,.slice (some ⟨b1,0,none⟩) 257 257,.int .i64 0,.int .i64 0,.int .i64 0,.int .i64 0,.int .i64 0,.int .i64 0,.int .i64 0,.int .i64 0,.slice none 0 0,.slice none 0 0]) rfl rfl (fun w'=>bd_run _ w' rfl (by simp only[List.map_toArray,List.map_cons,List.map_nil,ev_const,e2_169,e2_170];exact ly_build _ _ _ _ _)) ?_
   obtain⟨a3,ha3⟩:∃x,x=(a2.put (some 171) (.agg #[.int .u8 1,.slice (some ⟨b2,0,none⟩) 257 257,.slice (some ⟨b1,0,none⟩) 257 257,.int .i64 0,.int .i64 0,.int .i64 0,.int .i64 0,.int .i64 0,.int .i64 0,.int .i64 0,.int .i64 0,.slice none 0 0,.slice none 0 0])):=⟨_,rfl⟩
   change P3.wpPlan _ _ _ _ _ _ (a2.put (some 171) (.agg #[.int .u8 1,.slice (some ⟨b2,0,none⟩) 257 257,.slice (some ⟨b1,0,none⟩) 257 257,.int .i64 0,.int .i64 0,.int .i64 0,.int .i64 0,.int .i64 0,.int .i64 0,.int .i64 0,.int .i64 0,.slice none 0 0,.slice none 0 0])) _
   rw[←ha3]
   have hs3:173<a3.tmps.size:=by rw[ha3,zAf];exact hs2
   have e3_170:a3.eval (.tmp 170)=.slice (some ⟨b1,0,none⟩) 257 257:=by rw[ha3];exact(ev_ne _ _ _ _ (by decide)).trans e2_170
   have e3_169:a3.eval (.tmp 169)=.slice (some ⟨b2,0,none⟩) 257 257:=by rw[ha3];exact(ev_ne _ _ _ _ (by decide)).trans e2_169
   have e3_171:a3.eval (.tmp 171)=.agg #[.int .u8 1,.slice (some ⟨b2,0,none⟩) 257 257,.slice (some ⟨b1,0,none⟩) 257 257,.int .i64 0,.int .i64 0,.int .i64 0,.int .i64 0,.int .i64 0,.int .i64 0,.int .i64 0,.int .i64 0,.slice none 0 0,.slice none 0 0]:=by rw[ha3];exact zAd _ _ _ (by omega)
   refine P3.wpPlan_two (o:=⟨some 172,_,_,_,_,_⟩) (o':=⟨some 8,_,_,_,_,_⟩) rfl rfl rfl rfl  (fun K hK=>?_) (fun K hK=>?_) 
   ·refine bs_wp (v:=.slice (some ⟨W2.heap.size,0,none⟩) 1 1) (W:=W2.alloc (.cells #[.int .u8 1,.slice (some ⟨b2,0,none⟩) 257 257,.slice (some ⟨b1,0,none⟩) 257 257,.int .i64 0,.int .i64 0,.int .i64 0,.int .i64 0,.int .i64 0,.int .i64 0,.int .i64 0,.int .i64 0,.slice none 0 0,.slice none 0 0] 38)) rfl (by simp only[List.map_toArray,List.map_cons,List.map_nil,e3_171];exact ly_make _ _ _) ?_
    refine hK.out _ _ trivial (fun _=>?_)
    clear hK K
    obtain⟨W3,hW,x3,hN3⟩:=zAb W2 #[.int .u8 1,.slice (some ⟨b2,0,none⟩) 257 257,.slice (some ⟨b1,0,none⟩) 257 257,.int .i64 0,.int .i64 0,.int .i64 0,.int .i64 0,.int .i64 0,.int .i64 0,.int .i64 0,.int .i64 0,.slice none 0 0,.slice none 0 0] 38
    rw[←hW]
    clear hW
    obtain⟨b3,hb3⟩:∃b,b=W2.heap.size:=⟨_,rfl⟩
    rw[←hb3] at x3 ⊢
    have y3_v:=x2.below hN3
    have o3_v:=x2.lt
    have y3_r:=y2_r.below hN3
    have o3_r:=y2_r.lt
    have z3:=zAa z2 hN3
    have s3:=z3.size
    have u3:=(z2).size
    obtain⟨a4,ha4⟩:∃x,x=(a3.put (some 172) (.slice (some ⟨b3,0,none⟩) 1 1)):=⟨_,rfl⟩
    change P3.wpPlan _ _ _ _ _ _ (a3.put (some 172) (.slice (some ⟨b3,0,none⟩) 1 1)) _
    rw[←ha4]
    have hs4:173<a4.tmps.size:=by rw[ha4,zAf];exact hs3
    have e4_170:a4.eval (.tmp 170)=.slice (some ⟨b1,0,none⟩) 257 257:=by rw[ha4];exact(ev_ne _ _ _ _ (by decide)).trans e3_170
    have e4_169:a4.eval (.tmp 169)=.slice (some ⟨b2,0,none⟩) 257 257:=by rw[ha4];exact(ev_ne _ _ _ _ (by decide)).trans e3_169
    have e4_171:a4.eval (.tmp 171)=.agg #[.int .u8 1,.slice (some ⟨b2,0,none⟩) 257 257,.slice (some ⟨b1,0,none⟩) 257 257,.int .i64 0,.int .i64 0,.int .i64 0,.int .i64 0,.int .i64 0,.int .i64 0,.int .i64 0,.int .i64 0,.slice none 0 0,.slice none 0 0]:=by rw[ha4];exact(ev_ne _ _ _ _ (by decide)).trans e3_171
    have e4_172:a4.eval (.tmp 172)=.slice (some ⟨b3,0,none⟩) 1 1:=by rw[ha4];exact zAd _ _ _ (by omega)
    refine P3.wpPlan_pure (o:=⟨some 173,_,_,_,_,_⟩) (v:=.agg #[.int .i64 1,.slice (some ⟨b3,0,none⟩) 1 1]) rfl rfl (fun w'=>bd_run _ w' rfl (by simp only[List.map_toArray,List.map_cons,List.map_nil,ev_const,e4_172];exact net_build _ _)) ?_
    obtain⟨a5,ha5⟩:∃x,x=(a4.put (some 173) (.agg #[.int .i64 1,.slice (some ⟨b3,0,none⟩) 1 1])):=⟨_,rfl⟩
    change P3.wpPlan _ _ _ _ _ _ (a4.put (some 173) (.agg #[.int .i64 1,.slice (some ⟨b3,0,none⟩) 1 1])) _
    rw[←ha5]
    have hs5:173<a5.tmps.size:=by rw[ha5,zAf];exact hs4
    have e5_170:a5.eval (.tmp 170)=.slice (some ⟨b1,0,none⟩) 257 257:=by rw[ha5];exact(ev_ne _ _ _ _ (by decide)).trans e4_170
    have e5_169:a5.eval (.tmp 169)=.slice (some ⟨b2,0,none⟩) 257 257:=by rw[ha5];exact(ev_ne _ _ _ _ (by decide)).trans e4_169
    have e5_171:a5.eval (.tmp 171)=.agg #[.int .u8 1,.slice (some ⟨b2,0,none⟩) 257 257,.slice (some ⟨b1,0,none⟩) 257 257,.int .i64 0,.int .i64 0,.int .i64 0,.int .i64 0,.int .i64 0,.int .i64 0,.int .i64 0,.int .i64 0,.slice none 0 0,.slice none 0 0]:=by rw[ha5];exact(ev_ne _ _ _ _ (by decide)).trans e4_171
    have e5_172:a5.eval (.tmp 172)=.slice (some ⟨b3,0,none⟩) 1 1:=by rw[ha5];exact(ev_ne _ _ _ _ (by decide)).trans e4_172
    have e5_173:a5.eval (.tmp 173)=.agg #[.int .i64 1,.slice (some ⟨b3,0,none⟩) 1 1]:=by rw[ha5];exact zAd _ _ _ (by omega)
    refine P3.wpPlan_call (o:=⟨some 8,_,_,_,_,_⟩)  rfl rfl ?_
    intro K hK
    refine al_wp rfl (net_make _) ?_
    refine hK.out _ _ trivial (fun _=>?_)
    clear hK K
    obtain⟨W4,hW,x4,hN4⟩:=zAb W3 #[.int .i64 0,.slice none 0 0] 30
    rw[←hW]
    clear hW
    obtain⟨b4,hb4⟩:∃b,b=W3.heap.size:=⟨_,rfl⟩
    rw[←hb4] at x4 ⊢
    have y4_v:=y3_v.below hN4
    have o4_v:=y3_v.lt
    have y4_r:=y3_r.below hN4
    have o4_r:=y3_r.lt
    have y4_l:=x3.below hN4
    have o4_l:=x3.lt
    have z4:=zAa z3 hN4
    have s4:=z4.size
    have u4:=(z3).size
    obtain⟨a6,ha6⟩:∃x,x=(a5.put (some 8) (.pointer (some ⟨b4,0,none⟩))):=⟨_,rfl⟩
    change P3.wpPlan _ _ _ _ _ _ (a5.put (some 8) (.pointer (some ⟨b4,0,none⟩))) _
    rw[←ha6]
    have hs6:173<a6.tmps.size:=by rw[ha6,zAf];exact hs5
    have e6_170:a6.eval (.tmp 170)=.slice (some ⟨b1,0,none⟩) 257 257:=by rw[ha6];exact(ev_ne _ _ _ _ (by decide)).trans e5_170
    have e6_169:a6.eval (.tmp 169)=.slice (some ⟨b2,0,none⟩) 257 257:=by rw[ha6];exact(ev_ne _ _ _ _ (by decide)).trans e5_169
    have e6_171:a6.eval (.tmp 171)=.agg #[.int .u8 1,.slice (some ⟨b2,0,none⟩) 257 257,.slice (some ⟨b1,0,none⟩) 257 257,.int .i64 0,.int .i64 0,.int .i64 0,.int .i64 0,.int .i64 0,.int .i64 0,.int .i64 0,.int .i64 0,.slice none 0 0,.slice none 0 0]:=by rw[ha6];exact(ev_ne _ _ _ _ (by decide)).trans e5_171
    have e6_172:a6.eval (.tmp 172)=.slice (some ⟨b3,0,none⟩) 1 1:=by rw[ha6];exact(ev_ne _ _ _ _ (by decide)).trans e5_172
    have e6_173:a6.eval (.tmp 173)=.agg #[.int .i64 1,.slice (some ⟨b3,0,none⟩) 1 1]:=by rw[ha6];exact(ev_ne _ _ _ _ (by decide)).trans e5_173
    have e6_8:a6.eval (.tmp 8)=.pointer (some ⟨b4,0,none⟩):=by rw[ha6];exact zAd _ _ _ (by omega)
    refine P3.wpPlan_late (o:=⟨none,_,_,_,_,_⟩)  rfl rfl (List.mem_singleton.2 rfl) ?_
    intro K hK
    refine st_wp rfl e6_8 e6_173 (net_put x4 _) ?_
    refine hK.out _ _ ?_
    clear hK K
    refine P3.wpPlan_done ?_
    rw[put_none]
    obtain⟨W5,hW,x,kk,far,bel⟩:=store2 (.int .i64 1) (.slice (some ⟨b3,0,none⟩) 1 1) x4 nofun nofun
    rw[←hW]
    clear hW
    rw[ha6,ha5,ha4,ha3,ha2,ha1]
    rw[Act.put_swap (d:=170) (e:=169) (by decide)]
    exact hQ _ _ _ _ _ _ _ _ x (wide_lone (by decide) (far _ _ _ (by omega) y4_v) (far _ _ _ (by omega) y4_r) (far _ _ _ (by omega) y4_l) hZV hZR) (bel _ _ (by omega) z4)
   ·refine al_wp rfl (net_make _) ?_
    refine hK.out _ _ trivial (fun _=>?_)
    clear hK K
    obtain⟨W3,hW,x3,hN3⟩:=zAb W2 #[.int .i64 0,.slice none 0 0] 30
    rw[←hW]
    clear hW
    obtain⟨b3,hb3⟩:∃b,b=W2.heap.size:=⟨_,rfl⟩
    rw[←hb3] at x3 ⊢
    have y3_v:=x2.below hN3
    have o3_v:=x2.lt
    have y3_r:=y2_r.below hN3
    have o3_r:=y2_r.lt
    have z3:=zAa z2 hN3
    have s3:=z3.size
    have u3:=(z2).size
    obtain⟨a4,ha4⟩:∃x,x=(a3.put (some 8) (.pointer (some ⟨b3,0,none⟩))):=⟨_,rfl⟩
    change P3.wpPlan _ _ _ _ _ _ (a3.put (some 8) (.pointer (some ⟨b3,0,none⟩))) _
    rw[←ha4]
    have hs4:173<a4.tmps.size:=by rw[ha4,zAf];exact hs3
    have e4_170:a4.eval (.tmp 170)=.slice (some ⟨b1,0,none⟩) 257 257:=by rw[ha4];exact(ev_ne _ _ _ _ (by decide)).trans e3_170
    have e4_169:a4.eval (.tmp 169)=.slice (some ⟨b2,0,none⟩) 257 257:=by rw[ha4];exact(ev_ne _ _ _ _ (by decide)).trans e3_169
    have e4_171:a4.eval (.tmp 171)=.agg #[.int .u8 1,.slice (some ⟨b2,0,none⟩) 257 257,.slice (some ⟨b1,0,none⟩) 257 257,.int .i64 0,.int .i64 0,.int .i64 0,.int .i64 0,.int .i64 0,.int .i64 0,.int .i64 0,.int .i64 0,.slice none 0 0,.slice none 0 0]:=by rw[ha4];exact(ev_ne _ _ _ _ (by decide)).trans e3_171
    have e4_8:a4.eval (.tmp 8)=.pointer (some ⟨b3,0,none⟩):=by rw[ha4];exact zAd _ _ _ (by omega)
    refine P3.wpPlan_call (o:=⟨some 172,_,_,_,_,_⟩)  rfl rfl ?_
    intro K hK
    refine bs_wp (v:=.slice (some ⟨W3.heap.size,0,none⟩) 1 1) (W:=W3.alloc (.cells #[.int .u8 1,.slice (some ⟨b2,0,none⟩) 257 257,.slice (some ⟨b1,0,none⟩) 257 257,.int .i64 0,.int .i64 0,.int .i64 0,.int .i64 0,.int .i64 0,.int .i64 0,.int .i64 0,.int .i64 0,.slice none 0 0,.slice none 0 0] 38)) rfl (by simp only[List.map_toArray,List.map_cons,List.map_nil,e4_171];exact ly_make _ _ _) ?_
    refine hK.out _ _ trivial (fun _=>?_)
    clear hK K
    obtain⟨W4,hW,x4,hN4⟩:=zAb W3 #[.int .u8 1,.slice (some ⟨b2,0,none⟩) 257 257,.slice (some ⟨b1,0,none⟩) 257 257,.int .i64 0,.int .i64 0,.int .i64 0,.int .i64 0,.int .i64 0,.int .i64 0,.int .i64 0,.int .i64 0,.slice none 0 0,.slice none 0 0] 38
    rw[←hW]
    clear hW
    obtain⟨b4,hb4⟩:∃b,b=W3.heap.size:=⟨_,rfl⟩
    rw[←hb4] at x4 ⊢
    have y4_v:=y3_v.below hN4
    have o4_v:=y3_v.lt
    have y4_r:=y3_r.below hN4
    have o4_r:=y3_r.lt
    have y4_net:=x3.below hN4
    have o4_net:=x3.lt
    have z4:=zAa z3 hN4
    have s4:=z4.size
    have u4:=(z3).size
    obtain⟨a5,ha5⟩:∃x,x=(a4.put (some 172) (.slice (some ⟨b4,0,none⟩) 1 1)):=⟨_,rfl⟩
    change P3.wpPlan _ _ _ _ _ _ (a4.put (some 172) (.slice (some ⟨b4,0,none⟩) 1 1)) _
    rw[←ha5]
    have hs5:173<a5.tmps.size:=by rw[ha5,zAf];exact hs4
    have e5_170:a5.eval (.tmp 170)=.slice (some ⟨b1,0,none⟩) 257 257:=by rw[ha5];exact(ev_ne _ _ _ _ (by decide)).trans e4_170
    have e5_169:a5.eval (.tmp 169)=.slice (some ⟨b2,0,none⟩) 257 257:=by rw[ha5];exact(ev_ne _ _ _ _ (by decide)).trans e4_169
    have e5_171:a5.eval (.tmp 171)=.agg #[.int .u8 1,.slice (some ⟨b2,0,none⟩) 257 257,.slice (some ⟨b1,0,none⟩) 257 257,.int .i64 0,.int .i64 0,.int .i64 0,.int .i64 0,.int .i64 0,.int .i64 0,.int .i64 0,.int .i64 0,.slice none 0 0,.slice none 0 0]:=by rw[ha5];exact(ev_ne _ _ _ _ (by decide)).trans e4_171
    have e5_8:a5.eval (.tmp 8)=.pointer (some ⟨b3,0,none⟩):=by rw[ha5];exact(ev_ne _ _ _ _ (by decide)).trans e4_8
    have e5_172:a5.eval (.tmp 172)=.slice (some ⟨b4,0,none⟩) 1 1:=by rw[ha5];exact zAd _ _ _ (by omega)
    refine P3.wpPlan_pure (o:=⟨some 173,_,_,_,_,_⟩) (v:=.agg #[.int .i64 1,.slice (some ⟨b4,0,none⟩) 1 1]) rfl rfl (fun w'=>bd_run _ w' rfl (by simp only[List.map_toArray,List.map_cons,List.map_nil,ev_const,e5_172];exact net_build _ _)) ?_
    obtain⟨a6,ha6⟩:∃x,x=(a5.put (some 173) (.agg #[.int .i64 1,.slice (some ⟨b4,0,none⟩) 1 1])):=⟨_,rfl⟩
    change P3.wpPlan _ _ _ _ _ _ (a5.put (some 173) (.agg #[.int .i64 1,.slice (some ⟨b4,0,none⟩) 1 1])) _
    rw[←ha6]
    have hs6:173<a6.tmps.size:=by rw[ha6,zAf];exact hs5
    have e6_170:a6.eval (.tmp 170)=.slice (some ⟨b1,0,none⟩) 257 257:=by rw[ha6];exact(ev_ne _ _ _ _ (by decide)).trans e5_170
    have e6_169:a6.eval (.tmp 169)=.slice (some ⟨b2,0,none⟩) 257 257:=by rw[ha6];exact(ev_ne _ _ _ _ (by decide)).trans e5_169
    have e6_171:a6.eval (.tmp 171)=.agg #[.int .u8 1,.slice (some ⟨b2,0,none⟩) 257 257,.slice (some ⟨b1,0,none⟩) 257 257,.int .i64 0,.int .i64 0,.int .i64 0,.int .i64 0,.int .i64 0,.int .i64 0,.int .i64 0,.int .i64 0,.slice none 0 0,.slice none 0 0]:=by rw[ha6];exact(ev_ne _ _ _ _ (by decide)).trans e5_171
    have e6_8:a6.eval (.tmp 8)=.pointer (some ⟨b3,0,none⟩):=by rw[ha6];exact(ev_ne _ _ _ _ (by decide)).trans e5_8
    have e6_172:a6.eval (.tmp 172)=.slice (some ⟨b4,0,none⟩) 1 1:=by rw[ha6];exact(ev_ne _ _ _ _ (by decide)).trans e5_172
    have e6_173:a6.eval (.tmp 173)=.agg #[.int .i64 1,.slice (some ⟨b4,0,none⟩) 1 1]:=by rw[ha6];exact zAd _ _ _ (by omega)
    refine P3.wpPlan_late (o:=⟨none,_,_,_,_,_⟩)  rfl rfl (List.mem_singleton.2 rfl) ?_
    intro K hK
    refine st_wp rfl e6_8 e6_173 (net_put y4_net _) ?_
    refine hK.out _ _ ?_
    clear hK K
    refine P3.wpPlan_done ?_
    rw[put_none]
    obtain⟨W5,hW,x,kk,far,bel⟩:=store2 (.int .i64 1) (.slice (some ⟨b4,0,none⟩) 1 1) y4_net nofun nofun
    rw[←hW]
    clear hW
    rw[ha6,ha5,ha4,ha3,ha2,ha1]
    rw[Act.put_swap (d:=170) (e:=169) (by decide)]
    rw[Act.put_swap (d:=8) (e:=172) (by decide)]
    rw[Act.put_swap (d:=8) (e:=173) (by decide)]
    exact hQ _ _ _ _ _ _ _ _ x (wide_lone (by decide) (far _ _ _ (by omega) y4_v) (far _ _ _ (by omega) y4_r) (far _ _ _ (by omega) x4) hZV hZR) (bel _ _ (by omega) z4)
  ·refine al_wp rfl (net_make _) ?_
   refine hK.out _ _ trivial (fun _=>?_)
   clear hK K
   obtain⟨W2,hW,x2,hN2⟩:=zAb W1 #[.int .i64 0,.slice none 0 0] 30
   rw[←hW]
   clear hW
   obtain⟨b2,hb2⟩:∃b,b=W1.heap.size:=⟨_,rfl⟩
   rw[←hb2] at x2 ⊢
   have y2_r:=x1.below hN2
   have o2_r:=x1.lt
   have z2:=zAa z1 hN2
   have s2:=z2.size
   have u2:=(z1).size
   obtain⟨a2,ha2⟩:∃x,x=(a1.put (some 8) (.pointer (some ⟨b2,0,none⟩))):=⟨_,rfl⟩
   change P3.wpPlan _ _ _ _ _ _ (a1.put (some 8) (.pointer (some ⟨b2,0,none⟩))) _
   rw[←ha2]
   have hs2:173<a2.tmps.size:=by rw[ha2,zAf];exact hs1
   have e2_170:a2.eval (.tmp 170)=.slice (some ⟨b1,0,none⟩) 257 257:=by rw[ha2];exact(ev_ne _ _ _ _ (by decide)).trans e1_170
   have e2_8:a2.eval (.tmp 8)=.pointer (some ⟨b2,0,none⟩):=by rw[ha2];exact zAd _ _ _ (by omega)
   refine P3.wpPlan_call (o:=⟨some 169,_,_,_,_,_⟩)  rfl rfl ?_
   intro K hK
   refine mk_wp hmV _ _ rfl rfl rfl ?_
   refine hK.out _ _ trivial (fun _=>?_)
   clear hK K
   obtain⟨W3,hW,x3,hN3⟩:=zAb W2 ZV 54
   rw[←hW]
   clear hW
   obtain⟨b3,hb3⟩:∃b,b=W2.heap.size:=⟨_,rfl⟩
   rw[←hb3] at x3 ⊢
   have y3_r:=y2_r.below hN3
   have o3_r:=y2_r.lt
   have y3_net:=x2.below hN3
   have o3_net:=x2.lt
   have z3:=zAa z2 hN3
   have s3:=z3.size
   have u3:=(z2).size
   obtain⟨a3,ha3⟩:∃x,x=(a2.put (some 169) (.slice (some ⟨b3,0,none⟩) 257 257)):=⟨_,rfl⟩
   change P3.wpPlan _ _ _ _ _ _ (a2.put (some 169) (.slice (some ⟨b3,0,none⟩) 257 257)) _
   rw[←ha3]
   have hs3:173<a3.tmps.size:=by rw[ha3,zAf];exact hs2
   have e3_170:a3.eval (.tmp 170)=.slice (some ⟨b1,0,none⟩) 257 257:=by rw[ha3];exact(ev_ne _ _ _ _ (by decide)).trans e2_170
   have e3_8:a3.eval (.tmp 8)=.pointer (some ⟨b2,0,none⟩):=by rw[ha3];exact(ev_ne _ _ _ _ (by decide)).trans e2_8
   have e3_169:a3.eval (.tmp 169)=.slice (some ⟨b3,0,none⟩) 257 257:=by rw[ha3];exact zAd _ _ _ (by omega)
   refine P3.wpPlan_pure (o:=⟨some 171,_,_,_,_,_⟩) (v:=.agg #[.int .u8 1,.slice (some ⟨b3,0,none⟩) 257 257,.slice (some ⟨b1,0,none⟩) 257 257,.int .i64 0,.int .i64 0,.int .i64 0,.int .i64 0,.int .i64 0,.int .i64 0,.int .i64 0,.int .i64 0,.slice none 0 0,.slice none 0 0]) rfl rfl (fun w'=>bd_run _ w' rfl (by simp only[List.map_toArray,List.map_cons,List.map_nil,ev_const,e3_169,e3_170];exact ly_build _ _ _ _ _)) ?_
   obtain⟨a4,ha4⟩:∃x,x=(a3.put (some 171) (.agg #[.int .u8 1,.slice (some ⟨b3,0,none⟩) 257 257,.slice (some ⟨b1,0,none⟩) 257 257,.int .i64 0,.int .i64 0,.int .i64 0,.int .i64 0,.int .i64 0,.int .i64 0,.int .i64 0,.int .i64 0,.slice none 0 0,.slice none 0 0])):=⟨_,rfl⟩
   change P3.wpPlan _ _ _ _ _ _ (a3.put (some 171) (.agg #[.int .u8 1,.slice (some ⟨b3,0,none⟩) 257 257,.slice (some ⟨b1,0,none⟩) 257 257,.int .i64 0,.int .i64 0,.int .i64 0,.int .i64 0,.int .i64 0,.int .i64 0,.int .i64 0,.int .i64 0,.slice none 0 0,.slice none 0 0])) _
   rw[←ha4]
   have hs4:173<a4.tmps.size:=by rw[ha4,zAf];exact hs3
   have e4_170:a4.eval (.tmp 170)=.slice (some ⟨b1,0,none⟩) 257 257:=by rw[ha4];exact(ev_ne _ _ _ _ (by decide)).trans e3_170
   have e4_8:a4.eval (.tmp 8)=.pointer (some ⟨b2,0,none⟩):=by rw[ha4];exact(ev_ne _ _ _ _ (by decide)).trans e3_8
   have e4_169:a4.eval (.tmp 169)=.slice (some ⟨b3,0,none⟩) 257 257:=by rw[ha4];exact(ev_ne _ _ _ _ (by decide)).trans e3_169
   have e4_171:a4.eval (.tmp 171)=.agg #[.int .u8 1,.slice (some ⟨b3,0,none⟩) 257 257,.slice (some ⟨b1,0,none⟩) 257 257,.int .i64 0,.int .i64 0,.int .i64 0,.int .i64 0,.int .i64 0,.int .i64 0,.int .i64 0,.int .i64 0,.slice none 0 0,.slice none 0 0]:=by rw[ha4];exact zAd _ _ _ (by omega)
   refine P3.wpPlan_call (o:=⟨some 172,_,_,_,_,_⟩)  rfl rfl ?_
   intro K hK
   refine bs_wp (v:=.slice (some ⟨W3.heap.size,0,none⟩) 1 1) (W:=W3.alloc (.cells #[.int .u8 1,.slice (some ⟨b3,0,none⟩) 257 257,.slice (some ⟨b1,0,none⟩) 257 257,.int .i64 0,.int .i64 0,.int .i64 0,.int .i64 0,.int .i64 0,.int .i64 0,.int .i64 0,.int .i64 0,.slice none 0 0,.slice none 0 0] 38)) rfl (by simp only[List.map_toArray,List.map_cons,List.map_nil,e4_171];exact ly_make _ _ _) ?_
   refine hK.out _ _ trivial (fun _=>?_)
   clear hK K
   obtain⟨W4,hW,x4,hN4⟩:=zAb W3 #[.int .u8 1,.slice (some ⟨b3,0,none⟩) 257 257,.slice (some ⟨b1,0,none⟩) 257 257,.int .i64 0,.int .i64 0,.int .i64 0,.int .i64 0,.int .i64 0,.int .i64 0,.int .i64 0,.int .i64 0,.slice none 0 0,.slice none 0 0] 38
   rw[←hW]
   clear hW
   obtain⟨b4,hb4⟩:∃b,b=W3.heap.size:=⟨_,rfl⟩
   rw[←hb4] at x4 ⊢
   have y4_v:=x3.below hN4
   have o4_v:=x3.lt
   have y4_r:=y3_r.below hN4
   have o4_r:=y3_r.lt
   have y4_net:=y3_net.below hN4
   have o4_net:=y3_net.lt
   have z4:=zAa z3 hN4
   have s4:=z4.size
   have u4:=(z3).size
   obtain⟨a5,ha5⟩:∃x,x=(a4.put (some 172) (.slice (some ⟨b4,0,none⟩) 1 1)):=⟨_,rfl⟩
   change P3.wpPlan _ _ _ _ _ _ (a4.put (some 172) (.slice (some ⟨b4,0,none⟩) 1 1)) _
   rw[←ha5]
   have hs5:173<a5.tmps.size:=by rw[ha5,zAf];exact hs4
   have e5_170:a5.eval (.tmp 170)=.slice (some ⟨b1,0,none⟩) 257 257:=by rw[ha5];exact(ev_ne _ _ _ _ (by decide)).trans e4_170
   have e5_8:a5.eval (.tmp 8)=.pointer (some ⟨b2,0,none⟩):=by rw[ha5];exact(ev_ne _ _ _ _ (by decide)).trans e4_8
   have e5_169:a5.eval (.tmp 169)=.slice (some ⟨b3,0,none⟩) 257 257:=by rw[ha5];exact(ev_ne _ _ _ _ (by decide)).trans e4_169
   have e5_171:a5.eval (.tmp 171)=.agg #[.int .u8 1,.slice (some ⟨b3,0,none⟩) 257 257,.slice (some ⟨b1,0,none⟩) 257 257,.int .i64 0,.int .i64 0,.int .i64 0,.int .i64 0,.int .i64 0,.int .i64 0,.int .i64 0,.int .i64 0,.slice none 0 0,.slice none 0 0]:=by rw[ha5];exact(ev_ne _ _ _ _ (by decide)).trans e4_171
   have e5_172:a5.eval (.tmp 172)=.slice (some ⟨b4,0,none⟩) 1 1:=by rw[ha5];exact zAd _ _ _ (by omega)
   refine P3.wpPlan_pure (o:=⟨some 173,_,_,_,_,_⟩) (v:=.agg #[.int .i64 1,.slice (some ⟨b4,0,none⟩) 1 1]) rfl rfl (fun w'=>bd_run _ w' rfl (by simp only[List.map_toArray,List.map_cons,List.map_nil,ev_const,e5_172];exact net_build _ _)) ?_
   obtain⟨a6,ha6⟩:∃x,x=(a5.put (some 173) (.agg #[.int .i64 1,.slice (some ⟨b4,0,none⟩) 1 1])):=⟨_,rfl⟩
   change P3.wpPlan _ _ _ _ _ _ (a5.put (some 173) (.agg #[.int .i64 1,.slice (some ⟨b4,0,none⟩) 1 1])) _
   rw[←ha6]
   have hs6:173<a6.tmps.size:=by rw[ha6,zAf];exact hs5
   have e6_170:a6.eval (.tmp 170)=.slice (some ⟨b1,0,none⟩) 257 257:=by rw[ha6];exact(ev_ne _ _ _ _ (by decide)).trans e5_170
   have e6_8:a6.eval (.tmp 8)=.pointer (some ⟨b2,0,none⟩):=by rw[ha6];exact(ev_ne _ _ _ _ (by decide)).trans e5_8
   have e6_169:a6.eval (.tmp 169)=.slice (some ⟨b3,0,none⟩) 257 257:=by rw[ha6];exact(ev_ne _ _ _ _ (by decide)).trans e5_169
   have e6_171:a6.eval (.tmp 171)=.agg #[.int .u8 1,.slice (some ⟨b3,0,none⟩) 257 257,.slice (some ⟨b1,0,none⟩) 257 257,.int .i64 0,.int .i64 0,.int .i64 0,.int .i64 0,.int .i64 0,.int .i64 0,.int .i64 0,.int .i64 0,.slice none 0 0,.slice none 0 0]:=by rw[ha6];exact(ev_ne _ _ _ _ (by decide)).trans e5_171
   have e6_172:a6.eval (.tmp 172)=.slice (some ⟨b4,0,none⟩) 1 1:=by rw[ha6];exact(ev_ne _ _ _ _ (by decide)).trans e5_172
   have e6_173:a6.eval (.tmp 173)=.agg #[.int .i64 1,.slice (some ⟨b4,0,none⟩) 1 1]:=by rw[ha6];exact zAd _ _ _ (by omega)
   refine P3.wpPlan_late (o:=⟨none,_,_,_,_,_⟩)  rfl rfl (List.mem_singleton.2 rfl) ?_
   intro K hK
   refine st_wp rfl e6_8 e6_173 (net_put y4_net _) ?_
   refine hK.out _ _ ?_
   clear hK K
   refine P3.wpPlan_done ?_
   rw[put_none]
   obtain⟨W5,hW,x,kk,far,bel⟩:=store2 (.int .i64 1) (.slice (some ⟨b4,0,none⟩) 1 1) y4_net nofun nofun
   rw[←hW]
   clear hW
   rw[ha6,ha5,ha4,ha3,ha2,ha1]
   rw[Act.put_swap (d:=8) (e:=169) (by decide)]
   rw[Act.put_swap (d:=8) (e:=171) (by decide)]
   rw[Act.put_swap (d:=8) (e:=172) (by decide)]
   rw[Act.put_swap (d:=8) (e:=173) (by decide)]
   rw[Act.put_swap (d:=170) (e:=169) (by decide)]
   exact hQ _ _ _ _ _ _ _ _ x (wide_lone (by decide) (far _ _ _ (by omega) y4_v) (far _ _ _ (by omega) y4_r) (far _ _ _ (by omega) x4) hZV hZR) (bel _ _ (by omega) z4)
 ·refine al_wp rfl (net_make _) ?_
  refine hK.out _ _ trivial (fun _=>?_)
  clear hK K
  obtain⟨W1,hW,x1,hN1⟩:=zAb w.drew #[.int .i64 0,.slice none 0 0] 30
  rw[←hW]
  clear hW
  obtain⟨b1,hb1⟩:∃b,b=w.drew.heap.size:=⟨_,rfl⟩
  rw[←hb1] at x1 ⊢
  have z1:=zAa z0 hN1
  have s1:=z1.size
  have u1:=(z0).size
  obtain⟨a1,ha1⟩:∃x,x=(a.put (some 8) (.pointer (some ⟨b1,0,none⟩))):=⟨_,rfl⟩
  change P3.wpPlan _ _ _ _ _ _ (a.put (some 8) (.pointer (some ⟨b1,0,none⟩))) _
  rw[←ha1]
  have hs1:173<a1.tmps.size:=by rw[ha1,zAf];exact hs
  have e1_8:a1.eval (.tmp 8)=.pointer (some ⟨b1,0,none⟩):=by rw[ha1];exact zAd _ _ _ (by omega)
  refine P3.wpPlan_two (o:=⟨some 169,_,_,_,_,_⟩) (o':=⟨some 170,_,_,_,_,_⟩) rfl rfl rfl rfl  (fun K hK=>?_) (fun K hK=>?_) 
  ·refine mk_wp hmV _ _ rfl rfl rfl ?_
   refine hK.out _ _ trivial (fun _=>?_)
   clear hK K
   obtain⟨W2,hW,x2,hN2⟩:=zAb W1 ZV 54
   rw[←hW]
   clear hW
   obtain⟨b2,hb2⟩:∃b,b=W1.heap.size:=⟨_,rfl⟩
   rw[←hb2] at x2 ⊢
   have y2_net:=x1.below hN2
   have o2_net:=x1.lt
   have z2:=zAa z1 hN2
   have s2:=z2.size
   have u2:=(z1).size
   obtain⟨a2,ha2⟩:∃x,x=(a1.put (some 169) (.slice (some ⟨b2,0,none⟩) 257 257)):=⟨_,rfl⟩
   change P3.wpPlan _ _ _ _ _ _ (a1.put (some 169) (.slice (some ⟨b2,0,none⟩) 257 257)) _
   rw[←ha2]
   have hs2:173<a2.tmps.size:=by rw[ha2,zAf];exact hs1
   have e2_8:a2.eval (.tmp 8)=.pointer (some ⟨b1,0,none⟩):=by rw[ha2];exact(ev_ne _ _ _ _ (by decide)).trans e1_8
   have e2_169:a2.eval (.tmp 169)=.slice (some ⟨b2,0,none⟩) 257 257:=by rw[ha2];exact zAd _ _ _ (by omega)
   refine P3.wpPlan_call (o:=⟨some 170,_,_,_,_,_⟩)  rfl rfl ?_
   intro K hK
   refine mk_wp hmR _ _ rfl rfl rfl ?_
   refine hK.out _ _ trivial (fun _=>?_)
   clear hK K
   obtain⟨W3,hW,x3,hN3⟩:=zAb W2 ZR 27
   rw[←hW]
   clear hW
   obtain⟨b3,hb3⟩:∃b,b=W2.heap.size:=⟨_,rfl⟩
   rw[←hb3] at x3 ⊢
   have y3_v:=x2.below hN3
   have o3_v:=x2.lt
   have y3_net:=y2_net.below hN3
   have o3_net:=y2_net.lt
   have z3:=zAa z2 hN3
   have s3:=z3.size
   have u3:=(z2).size
   obtain⟨a3,ha3⟩:∃x,x=(a2.put (some 170) (.slice (some ⟨b3,0,none⟩) 257 257)):=⟨_,rfl⟩
   change P3.wpPlan _ _ _ _ _ _ (a2.put (some 170) (.slice (some ⟨b3,0,none⟩) 257 257)) _
   rw[←ha3]
   have hs3:173<a3.tmps.size:=by rw[ha3,zAf];exact hs2
   have e3_8:a3.eval (.tmp 8)=.pointer (some ⟨b1,0,none⟩):=by rw[ha3];exact(ev_ne _ _ _ _ (by decide)).trans e2_8
   have e3_169:a3.eval (.tmp 169)=.slice (some ⟨b2,0,none⟩) 257 257:=by rw[ha3];exact(ev_ne _ _ _ _ (by decide)).trans e2_169
   have e3_170:a3.eval (.tmp 170)=.slice (some ⟨b3,0,none⟩) 257 257:=by rw[ha3];exact zAd _ _ _ (by omega)
   refine P3.wpPlan_pure (o:=⟨some 171,_,_,_,_,_⟩) (v:=.agg #[.int .u8 1,.slice (some ⟨b2,0,none⟩) 257 257,.slice (some ⟨b3,0,none⟩) 257 257,.int .i64 0,.int .i64 0,.int .i64 0,.int .i64 0,.int .i64 0,.int .i64 0,.int .i64 0,.int .i64 0,.slice none 0 0,.slice none 0 0]) rfl rfl (fun w'=>bd_run _ w' rfl (by simp only[List.map_toArray,List.map_cons,List.map_nil,ev_const,e3_169,e3_170];exact ly_build _ _ _ _ _)) ?_
   obtain⟨a4,ha4⟩:∃x,x=(a3.put (some 171) (.agg #[.int .u8 1,.slice (some ⟨b2,0,none⟩) 257 257,.slice (some ⟨b3,0,none⟩) 257 257,.int .i64 0,.int .i64 0,.int .i64 0,.int .i64 0,.int .i64 0,.int .i64 0,.int .i64 0,.int .i64 0,.slice none 0 0,.slice none 0 0])):=⟨_,rfl⟩
   change P3.wpPlan _ _ _ _ _ _ (a3.put (some 171) (.agg #[.int .u8 1,.slice (some ⟨b2,0,none⟩) 257 257,.slice (some ⟨b3,0,none⟩) 257 257,.int .i64 0,.int .i64 0,.int .i64 0,.int .i64 0,.int .i64 0,.int .i64 0,.int .i64 0,.int .i64 0,.slice none 0 0,.slice none 0 0])) _
   rw[←ha4]
   have hs4:173<a4.tmps.size:=by rw[ha4,zAf];exact hs3
   have e4_8:a4.eval (.tmp 8)=.pointer (some ⟨b1,0,none⟩):=by rw[ha4];exact(ev_ne _ _ _ _ (by decide)).trans e3_8
   have e4_169:a4.eval (.tmp 169)=.slice (some ⟨b2,0,none⟩) 257 257:=by rw[ha4];exact(ev_ne _ _ _ _ (by decide)).trans e3_169
   have e4_170:a4.eval (.tmp 170)=.slice (some ⟨b3,0,none⟩) 257 257:=by rw[ha4];exact(ev_ne _ _ _ _ (by decide)).trans e3_170
   have e4_171:a4.eval (.tmp 171)=.agg #[.int .u8 1,.slice (some ⟨b2,0,none⟩) 257 257,.slice (some ⟨b3,0,none⟩) 257 257,.int .i64 0,.int .i64 0,.int .i64 0,.int .i64 0,.int .i64 0,.int .i64 0,.int .i64 0,.int .i64 0,.slice none 0 0,.slice none 0 0]:=by rw[ha4];exact zAd _ _ _ (by omega)
   refine P3.wpPlan_call (o:=⟨some 172,_,_,_,_,_⟩)  rfl rfl ?_
   intro K hK
   refine bs_wp (v:=.slice (some ⟨W3.heap.size,0,none⟩) 1 1) (W:=W3.alloc (.cells #[.int .u8 1,.slice (some ⟨b2,0,none⟩) 257 257,.slice (some ⟨b3,0,none⟩) 257 257,.int .i64 0,.int .i64 0,.int .i64 0,.int .i64 0,.int .i64 0,.int .i64 0,.int .i64 0,.int .i64 0,.slice none 0 0,.slice none 0 0] 38)) rfl (by simp only[List.map_toArray,List.map_cons,List.map_nil,e4_171];exact ly_make _ _ _) ?_
   refine hK.out _ _ trivial (fun _=>?_)
   clear hK K
   obtain⟨W4,hW,x4,hN4⟩:=zAb W3 #[.int .u8 1,.slice (some ⟨b2,0,none⟩) 257 257,.slice (some ⟨b3,0,none⟩) 257 257,.int .i64 0,.int .i64 0,.int .i64 0,.int .i64 0,.int .i64 0,.int .i64 0,.int .i64 0,.int .i64 0,.slice none 0 0,.slice none 0 0] 38
   rw[←hW]
   clear hW
   obtain⟨b4,hb4⟩:∃b,b=W3.heap.size:=⟨_,rfl⟩
   rw[←hb4] at x4 ⊢
   have y4_v:=y3_v.below hN4
   have o4_v:=y3_v.lt
   have y4_r:=x3.below hN4
   have o4_r:=x3.lt
   have y4_net:=y3_net.below hN4
   have o4_net:=y3_net.lt
   have z4:=zAa z3 hN4
   have s4:=z4.size
   have u4:=(z3).size
   obtain⟨a5,ha5⟩:∃x,x=(a4.put (some 172) (.slice (some ⟨b4,0,none⟩) 1 1)):=⟨_,rfl⟩
   change P3.wpPlan _ _ _ _ _ _ (a4.put (some 172) (.slice (some ⟨b4,0,none⟩) 1 1)) _
   rw[←ha5]
   have hs5:173<a5.tmps.size:=by rw[ha5,zAf];exact hs4
   have e5_8:a5.eval (.tmp 8)=.pointer (some ⟨b1,0,none⟩):=by rw[ha5];exact(ev_ne _ _ _ _ (by decide)).trans e4_8
   have e5_169:a5.eval (.tmp 169)=.slice (some ⟨b2,0,none⟩) 257 257:=by rw[ha5];exact(ev_ne _ _ _ _ (by decide)).trans e4_169
   have e5_170:a5.eval (.tmp 170)=.slice (some ⟨b3,0,none⟩) 257 257:=by rw[ha5];exact(ev_ne _ _ _ _ (by decide)).trans e4_170
   have e5_171:a5.eval (.tmp 171)=.agg #[.int .u8 1,.slice (some ⟨b2,0,none⟩) 257 257,.slice (some ⟨b3,0,none⟩) 257 257,.int .i64 0,.int .i64 0,.int .i64 0,.int .i64 0,.int .i64 0,.int .i64 0,.int .i64 0,.int .i64 0,.slice none 0 0,.slice none 0 0]:=by rw[ha5];exact(ev_ne _ _ _ _ (by decide)).trans e4_171
   have e5_172:a5.eval (.tmp 172)=.slice (some ⟨b4,0,none⟩) 1 1:=by rw[ha5];exact zAd _ _ _ (by omega)
   refine P3.wpPlan_pure (o:=⟨some 173,_,_,_,_,_⟩) (v:=.agg #[.int .i64 1,.slice (some ⟨b4,0,none⟩) 1 1]) rfl rfl (fun w'=>bd_run _ w' rfl (by simp only[List.map_toArray,List.map_cons,List.map_nil,ev_const,e5_172];exact net_build _ _)) ?_
   obtain⟨a6,ha6⟩:∃x,x=(a5.put (some 173) (.agg #[.int .i64 1,.slice (some ⟨b4,0,none⟩) 1 1])):=⟨_,rfl⟩
   change P3.wpPlan _ _ _ _ _ _ (a5.put (some 173) (.agg #[.int .i64 1,.slice (some ⟨b4,0,none⟩) 1 1])) _
   rw[←ha6]
   have hs6:173<a6.tmps.size:=by rw[ha6,zAf];exact hs5
   have e6_8:a6.eval (.tmp 8)=.pointer (some ⟨b1,0,none⟩):=by rw[ha6];exact(ev_ne _ _ _ _ (by decide)).trans e5_8
   have e6_169:a6.eval (.tmp 169)=.slice (some ⟨b2,0,none⟩) 257 257:=by rw[ha6];exact(ev_ne _ _ _ _ (by decide)).trans e5_169
   have e6_170:a6.eval (.tmp 170)=.slice (some ⟨b3,0,none⟩) 257 257:=by rw[ha6];exact(ev_ne _ _ _ _ (by decide)).trans e5_170
   have e6_171:a6.eval (.tmp 171)=.agg #[.int .u8 1,.slice (some ⟨b2,0,none⟩) 257 257,.slice (some ⟨b3,0,none⟩) 257 257,.int .i64 0,.int .i64 0,.int .i64 0,.int .i64 0,.int .i64 0,.int .i64 0,.int .i64 0,.int .i64 0,.slice none 0 0,.slice none 0 0]:=by rw[ha6];exact(ev_ne _ _ _ _ (by decide)).trans e5_171
   have e6_172:a6.eval (.tmp 172)=.slice (some ⟨b4,0,none⟩) 1 1:=by rw[ha6];exact(ev_ne _ _ _ _ (by decide)).trans e5_172
   have e6_173:a6.eval (.tmp 173)=.agg #[.int .i64 1,.slice (some ⟨b4,0,none⟩) 1 1]:=by rw[ha6];exact zAd _ _ _ (by omega)
   refine P3.wpPlan_late (o:=⟨none,_,_,_,_,_⟩)  rfl rfl (List.mem_singleton.2 rfl) ?_
   intro K hK
   refine st_wp rfl e6_8 e6_173 (net_put y4_net _) ?_
   refine hK.out _ _ ?_
   clear hK K
   refine P3.wpPlan_done ?_
   rw[put_none]
   obtain⟨W5,hW,x,kk,far,bel⟩:=store2 (.int .i64 1) (.slice (some ⟨b4,0,none⟩) 1 1) y4_net nofun nofun
   rw[←hW]
   clear hW
   rw[ha6,ha5,ha4,ha3,ha2,ha1]
   rw[Act.put_swap (d:=8) (e:=169) (by decide)]
   rw[Act.put_swap (d:=8) (e:=170) (by decide)]
   rw[Act.put_swap (d:=8) (e:=171) (by decide)]
   rw[Act.put_swap (d:=8) (e:=172) (by decide)]
   rw[Act.put_swap (d:=8) (e:=173) (by decide)]
   exact hQ _ _ _ _ _ _ _ _ x (wide_lone (by decide) (far _ _ _ (by omega) y4_v) (far _ _ _ (by omega) y4_r) (far _ _ _ (by omega) x4) hZV hZR) (bel _ _ (by omega) z4)
  ·refine mk_wp hmR _ _ rfl rfl rfl ?_
   refine hK.out _ _ trivial (fun _=>?_)
   clear hK K
   obtain⟨W2,hW,x2,hN2⟩:=zAb W1 ZR 27
   rw[←hW]
   clear hW
   obtain⟨b2,hb2⟩:∃b,b=W1.heap.size:=⟨_,rfl⟩
   rw[←hb2] at x2 ⊢
   have y2_net:=x1.below hN2
   have o2_net:=x1.lt
   have z2:=zAa z1 hN2
   have s2:=z2.size
   have u2:=(z1).size
   obtain⟨a2,ha2⟩:∃x,x=(a1.put (some 170) (.slice (some ⟨b2,0,none⟩) 257 257)):=⟨_,rfl⟩
   change P3.wpPlan _ _ _ _ _ _ (a1.put (some 170) (.slice (some ⟨b2,0,none⟩) 257 257)) _
   rw[←ha2]
   have hs2:173<a2.tmps.size:=by rw[ha2,zAf];exact hs1
   have e2_8:a2.eval (.tmp 8)=.pointer (some ⟨b1,0,none⟩):=by rw[ha2];exact(ev_ne _ _ _ _ (by decide)).trans e1_8
   have e2_170:a2.eval (.tmp 170)=.slice (some ⟨b2,0,none⟩) 257 257:=by rw[ha2];exact zAd _ _ _ (by omega)
   refine P3.wpPlan_call (o:=⟨some 169,_,_,_,_,_⟩)  rfl rfl ?_
   intro K hK
   refine mk_wp hmV _ _ rfl rfl rfl ?_
   refine hK.out _ _ trivial (fun _=>?_)
   clear hK K
   obtain⟨W3,hW,x3,hN3⟩:=zAb W2 ZV 54
   rw[←hW]
   clear hW
   obtain⟨b3,hb3⟩:∃b,b=W2.heap.size:=⟨_,rfl⟩
   rw[←hb3] at x3 ⊢
   have y3_r:=x2.below hN3
   have o3_r:=x2.lt
   have y3_net:=y2_net.below hN3
   have o3_net:=y2_net.lt
   have z3:=zAa z2 hN3
   have s3:=z3.size
   have u3:=(z2).size
   obtain⟨a3,ha3⟩:∃x,x=(a2.put (some 169) (.slice (some ⟨b3,0,none⟩) 257 257)):=⟨_,rfl⟩
   change P3.wpPlan _ _ _ _ _ _ (a2.put (some 169) (.slice (some ⟨b3,0,none⟩) 257 257)) _
   rw[←ha3]
   have hs3:173<a3.tmps.size:=by rw[ha3,zAf];exact hs2
   have e3_8:a3.eval (.tmp 8)=.pointer (some ⟨b1,0,none⟩):=by rw[ha3];exact(ev_ne _ _ _ _ (by decide)).trans e2_8
   have e3_170:a3.eval (.tmp 170)=.slice (some ⟨b2,0,none⟩) 257 257:=by rw[ha3];exact(ev_ne _ _ _ _ (by decide)).trans e2_170
   have e3_169:a3.eval (.tmp 169)=.slice (some ⟨b3,0,none⟩) 257 257:=by rw[ha3];exact zAd _ _ _ (by omega)
   refine P3.wpPlan_pure (o:=⟨some 171,_,_,_,_,_⟩) (v:=.agg #[.int .u8 1,.slice (some ⟨b3,0,none⟩) 257 257,.slice (some ⟨b2,0,none⟩) 257 257,.int .i64 0,.int .i64 0,.int .i64 0,.int .i64 0,.int .i64 0,.int .i64 0,.int .i64 0,.int .i64 0,.slice none 0 0,.slice none 0 0]) rfl rfl (fun w'=>bd_run _ w' rfl (by simp only[List.map_toArray,List.map_cons,List.map_nil,ev_const,e3_169,e3_170];exact ly_build _ _ _ _ _)) ?_
   obtain⟨a4,ha4⟩:∃x,x=(a3.put (some 171) (.agg #[.int .u8 1,.slice (some ⟨b3,0,none⟩) 257 257,.slice (some ⟨b2,0,none⟩) 257 257,.int .i64 0,.int .i64 0,.int .i64 0,.int .i64 0,.int .i64 0,.int .i64 0,.int .i64 0,.int .i64 0,.slice none 0 0,.slice none 0 0])):=⟨_,rfl⟩
   change P3.wpPlan _ _ _ _ _ _ (a3.put (some 171) (.agg #[.int .u8 1,.slice (some ⟨b3,0,none⟩) 257 257,.slice (some ⟨b2,0,none⟩) 257 257,.int .i64 0,.int .i64 0,.int .i64 0,.int .i64 0,.int .i64 0,.int .i64 0,.int .i64 0,.int .i64 0,.slice none 0 0,.slice none 0 0])) _
   rw[←ha4]
   have hs4:173<a4.tmps.size:=by rw[ha4,zAf];exact hs3
   have e4_8:a4.eval (.tmp 8)=.pointer (some ⟨b1,0,none⟩):=by rw[ha4];exact(ev_ne _ _ _ _ (by decide)).trans e3_8
   have e4_170:a4.eval (.tmp 170)=.slice (some ⟨b2,0,none⟩) 257 257:=by rw[ha4];exact(ev_ne _ _ _ _ (by decide)).trans e3_170
   have e4_169:a4.eval (.tmp 169)=.slice (some ⟨b3,0,none⟩) 257 257:=by rw[ha4];exact(ev_ne _ _ _ _ (by decide)).trans e3_169
   have e4_171:a4.eval (.tmp 171)=.agg #[.int .u8 1,.slice (some ⟨b3,0,none⟩) 257 257,.slice (some ⟨b2,0,none⟩) 257 257,.int .i64 0,.int .i64 0,.int .i64 0,.int .i64 0,.int .i64 0,.int .i64 0,.int .i64 0,.int .i64 0,.slice none 0 0,.slice none 0 0]:=by rw[ha4];exact zAd _ _ _ (by omega)
   refine P3.wpPlan_call (o:=⟨some 172,_,_,_,_,_⟩)  rfl rfl ?_
   intro K hK
   refine bs_wp (v:=.slice (some ⟨W3.heap.size,0,none⟩) 1 1) (W:=W3.alloc (.cells #[.int .u8 1,.slice (some ⟨b3,0,none⟩) 257 257,.slice (some ⟨b2,0,none⟩) 257 257,.int .i64 0,.int .i64 0,.int .i64 0,.int .i64 0,.int .i64 0,.int .i64 0,.int .i64 0,.int .i64 0,.slice none 0 0,.slice none 0 0] 38)) rfl (by simp only[List.map_toArray,List.map_cons,List.map_nil,e4_171];exact ly_make _ _ _) ?_
   refine hK.out _ _ trivial (fun _=>?_)
   clear hK K
   obtain⟨W4,hW,x4,hN4⟩:=zAb W3 #[.int .u8 1,.slice (some ⟨b3,0,none⟩) 257 257,.slice (some ⟨b2,0,none⟩) 257 257,.int .i64 0,.int .i64 0,.int .i64 0,.int .i64 0,.int .i64 0,.int .i64 0,.int .i64 0,.int .i64 0,.slice none 0 0,.slice none 0 0] 38
   rw[←hW]
   clear hW
   obtain⟨b4,hb4⟩:∃b,b=W3.heap.size:=⟨_,rfl⟩
   rw[←hb4] at x4 ⊢
   have y4_v:=x3.below hN4
   have o4_v:=x3.lt
   have y4_r:=y3_r.below hN4
   have o4_r:=y3_r.lt
   have y4_net:=y3_net.below hN4
   have o4_net:=y3_net.lt
   have z4:=zAa z3 hN4
   have s4:=z4.size
   have u4:=(z3).size
   obtain⟨a5,ha5⟩:∃x,x=(a4.put (some 172) (.slice (some ⟨b4,0,none⟩) 1 1)):=⟨_,rfl⟩
   change P3.wpPlan _ _ _ _ _ _ (a4.put (some 172) (.slice (some ⟨b4,0,none⟩) 1 1)) _
   rw[←ha5]
   have hs5:173<a5.tmps.size:=by rw[ha5,zAf];exact hs4
   have e5_8:a5.eval (.tmp 8)=.pointer (some ⟨b1,0,none⟩):=by rw[ha5];exact(ev_ne _ _ _ _ (by decide)).trans e4_8
   have e5_170:a5.eval (.tmp 170)=.slice (some ⟨b2,0,none⟩) 257 257:=by rw[ha5];exact(ev_ne _ _ _ _ (by decide)).trans e4_170
   have e5_169:a5.eval (.tmp 169)=.slice (some ⟨b3,0,none⟩) 257 257:=by rw[ha5];exact(ev_ne _ _ _ _ (by decide)).trans e4_169
   have e5_171:a5.eval (.tmp 171)=.agg #[.int .u8 1,.slice (some ⟨b3,0,none⟩) 257 257,.slice (some ⟨b2,0,none⟩) 257 257,.int .i64 0,.int .i64 0,.int .i64 0,.int .i64 0,.int .i64 0,.int .i64 0,.int .i64 0,.int .i64 0,.slice none 0 0,.slice none 0 0]:=by rw[ha5];exact(ev_ne _ _ _ _ (by decide)).trans e4_171
   have e5_172:a5.eval (.tmp 172)=.slice (some ⟨b4,0,none⟩) 1 1:=by rw[ha5];exact zAd _ _ _ (by omega)
   refine P3.wpPlan_pure (o:=⟨some 173,_,_,_,_,_⟩) (v:=.agg #[.int .i64 1,.slice (some ⟨b4,0,none⟩) 1 1]) rfl rfl (fun w'=>bd_run _ w' rfl (by simp only[List.map_toArray,List.map_cons,List.map_nil,ev_const,e5_172];exact net_build _ _)) ?_
   obtain⟨a6,ha6⟩:∃x,x=(a5.put (some 173) (.agg #[.int .i64 1,.slice (some ⟨b4,0,none⟩) 1 1])):=⟨_,rfl⟩
   change P3.wpPlan _ _ _ _ _ _ (a5.put (some 173) (.agg #[.int .i64 1,.slice (some ⟨b4,0,none⟩) 1 1])) _
   rw[←ha6]
   have hs6:173<a6.tmps.size:=by rw[ha6,zAf];exact hs5
   have e6_8:a6.eval (.tmp 8)=.pointer (some ⟨b1,0,none⟩):=by rw[ha6];exact(ev_ne _ _ _ _ (by decide)).trans e5_8
   have e6_170:a6.eval (.tmp 170)=.slice (some ⟨b2,0,none⟩) 257 257:=by rw[ha6];exact(ev_ne _ _ _ _ (by decide)).trans e5_170
   have e6_169:a6.eval (.tmp 169)=.slice (some ⟨b3,0,none⟩) 257 257:=by rw[ha6];exact(ev_ne _ _ _ _ (by decide)).trans e5_169
   have e6_171:a6.eval (.tmp 171)=.agg #[.int .u8 1,.slice (some ⟨b3,0,none⟩) 257 257,.slice (some ⟨b2,0,none⟩) 257 257,.int .i64 0,.int .i64 0,.int .i64 0,.int .i64 0,.int .i64 0,.int .i64 0,.int .i64 0,.int .i64 0,.slice none 0 0,.slice none 0 0]:=by rw[ha6];exact(ev_ne _ _ _ _ (by decide)).trans e5_171
   have e6_172:a6.eval (.tmp 172)=.slice (some ⟨b4,0,none⟩) 1 1:=by rw[ha6];exact(ev_ne _ _ _ _ (by decide)).trans e5_172
   have e6_173:a6.eval (.tmp 173)=.agg #[.int .i64 1,.slice (some ⟨b4,0,none⟩) 1 1]:=by rw[ha6];exact zAd _ _ _ (by omega)
   refine P3.wpPlan_late (o:=⟨none,_,_,_,_,_⟩)  rfl rfl (List.mem_singleton.2 rfl) ?_
   intro K hK
   refine st_wp rfl e6_8 e6_173 (net_put y4_net _) ?_
   refine hK.out _ _ ?_
   clear hK K
   refine P3.wpPlan_done ?_
   rw[put_none]
   obtain⟨W5,hW,x,kk,far,bel⟩:=store2 (.int .i64 1) (.slice (some ⟨b4,0,none⟩) 1 1) y4_net nofun nofun
   rw[←hW]
   clear hW
   rw[ha6,ha5,ha4,ha3,ha2,ha1]
   rw[Act.put_swap (d:=8) (e:=170) (by decide)]
   rw[Act.put_swap (d:=8) (e:=169) (by decide)]
   rw[Act.put_swap (d:=8) (e:=171) (by decide)]
   rw[Act.put_swap (d:=8) (e:=172) (by decide)]
   rw[Act.put_swap (d:=8) (e:=173) (by decide)]
   rw[Act.put_swap (d:=170) (e:=169) (by decide)]
   exact hQ _ _ _ _ _ _ _ _ x (wide_lone (by decide) (far _ _ _ (by omega) y4_v) (far _ _ _ (by omega) y4_r) (far _ _ _ (by omega) x4) hZV hZR) (bel _ _ (by omega) z4)
end Go.Proofs.YtfgbiccpecldfaaDoor
