/-
  matrix.Inverse, matrix.Move. Written by wip/gen/mx2.py.
-/
import Derived.Test.YtldcfmangolkoaaGreatDoorYRdV
import Derived.Test.YtldcfmangolkoaaGreatDoorYVj
import Derived.Test.YtldcfmangolkoaaGreatDoorYSo4
import Derived.BigQuiet
import Derived.ChangeOld
import Derived.Deep.CutBlock
import Derived.Deep.DeepCutAuto
import Derived.Deep.DeepHandedRow
import Derived.Deep.Draws
import Derived.Deep.LoopGhost
import Derived.Deep.OwnRows
import Derived.Deep.QuietTactic
import Derived.Deep.RegionHeld3
import Derived.Deep.RegionWith
import Derived.Deep.Slices
import Derived.Deep.Upon
import Derived.Handy
import Derived.Laws.CopyOwn
import Derived.Lib.Hide
import Derived.Lib.ItoaNum
import Derived.Lib.LaidTab
import Derived.Lib.SmallJoins
import Derived.Lib.TrailingZeros
import Derived.Maps.OwnSet
import Derived.OpenShut
import Derived.OwnWalk
import Derived.ProofKit
import Derived.Shelf.Bits.Mul64
import Derived.Shelf.Small.Bits
import Derived.Shelf.Spec.BitsCarry
import Derived.Shelf.Spec.TrailingZeros
import Derived.Shelf.Strconv.Itoa0
import Derived.ShutString
import Derived.Test.YtldcfmangolkoaaGreatDoorCards
import Derived.Test.YtldcfmangolkoaaGreatDoorRows
import Derived.Test.YtldcfmangolkoaaGreatDoorTie
import Derived.WalkKit
import Derived.WalkLawsBesides
import Derived.WalkSpells
namespace Go.Proofs.YtldcfmangolkoaaGreatDoor
open Go.RowKit Tw
section
variable {α:Type} {f:α→List Value} {k:Nat} {t te:TypeId}
theorem Elt.makeN (E:Elt f k t te) (z0:α) (hz0:∀i z,Tryz.prog.info? te=some i→i.zero=some z→z.cells.toList=f z0) {w:World} {ops:Array Oper} {rest:List Oper} {o:Oper} {a:Act} {Q:Exit→Act→World→Prop} (hgd:o.guard=none) (l c:Operand) (ho:o.op=.makeSlice t l c)
  (kl kc:IntKind) (n:Nat) (hl:a.eval l=.int kl (n:Int)) (hc:a.eval c=.int kc (n:Int)) (hn:n≤100000000000) (B:Nat) (hB:B≤w.heap.size)
  (hK:∀g w',OwnR w' B te k (.slice (some ⟨g,0,none⟩) n n) n (flat f (List.replicate n z0))→Below w.heap.size w w'→wpList Tryz.prog ops Q rest (a.put o.dst (.slice (some ⟨g,0,none⟩) n n)) w'):wpList Tryz.prog ops Q (o :: rest) a w:=by
 obtain⟨i,z,h1,h2,h3,h4,h5,h6⟩:=E.info
 have hzc:=hz0 i z h1 h2
 refine wpList_plain hgd fun K hK'=>?_
 have hb:(i.bytes:Int)*(n:Int)≤281474976710656:=by
  have h:=Nat.mul_le_mul h4 hn
  have h':((i.bytes*n:Nat):Int)≤281474976710656:=by omega
  rwa [Int.natCast_mul] at h'
 have hrun:=run_make (P:=Tryz.prog) w t te i z E.ut h1 h2 kl kc n n (by omega) (Int.le_refl _) hb (by omega)
 simp only[Int.toNat_natCast] at hrun
 have hcells:(madeCells z.cells (n*i.size)).toList=flat f (List.replicate n z0):=by
  rw[h3]
  apply List.ext_getElem?
  intro j
  by_cases hj:j<n*k
  ·have k0:0<k:=by
    rcases Nat.eq_zero_or_pos k with h | h
    ·subst h;omega
    ·exact h
   have hi:j / k<n:=Nat.div_lt_of_lt_mul (by rw[Nat.mul_comm];exact hj)
   have hm:j % k<k:=Nat.mod_lt _ k0
   have e:j / k*k+j % k=j:=by rw[Nat.mul_comm];exact Nat.div_add_mod j k
   have h7:=flat_get E.len (List.replicate n z0) (j / k) z0 (by rw[List.getElem?_replicate,if_pos hi]) (j % k) hm
   rw[e] at h7
   rw[h7,←hzc,Array.getElem?_toList,Array.getElem?_toList]
   unfold madeCells
   rw[Array.getElem?_map,Array.getElem?_range,if_pos hj,Option.map_some,h5,getElem!_pos z.cells (j % k) (by omega),Array.getElem?_eq_getElem (by omega)]
  ·rw[List.getElem?_eq_none (by rw[Array.length_toList,size_madeCells];omega),List.getElem?_eq_none (by rw[flat_len E.len,List.length_replicate];omega)]
 unfold Oper.wp
 simp[execOp,ho,hl,hc,hrun,Result.andThen]
 refine hK' _ _ (hK _ _ ⟨by rw[flat_len E.len,List.length_replicate],.inr ⟨w.heap.size,n,madeCells z.cells (n*i.size),rfl,hB,Bx.new w _ _,Nat.le_refl _,by unfold maxLen;omega,by rw[size_madeCells,h3],?_,h6.made _⟩⟩ (zAm _ _))
 rw[hcells,List.take_of_length_le (by rw[flat_len E.len,List.length_replicate];exact Nat.le_refl _)]
end
open Go.RowKit Tw
def zTm:Tm:=⟨0,⟨false,none,0,0,false,none,0,0,0,true⟩⟩
theorem tm_zero {i:TypeInfo} {z:Value} (h:Tryz.prog.info? 118=some i) (hz:i.zero=some z):z.cells.toList=Tm.cs zTm:=by
 have h1:(Tryz.prog.info? 118).map (fun i=>i.zero)=some (some (.agg #[.int .i64 0,.bool false,.slice none 0 0,.bool false,.slice none 0 0])):=by kernel_rfl
 rw[h,Option.map_some,hz] at h1
 obtain rfl:z=.agg #[.int .i64 0,.bool false,.slice none 0 0,.bool false,.slice none 0 0]:=by simpa using h1
 rfl
def idxT (L:List Fr):List Tm:=L.mapIdx fun i x=>⟨(i:Int),x⟩
def idxK (L:List Fr) (k:Nat):List Tm:=(idxT L).take k++List.replicate (L.length-k) zTm
def idxP (l:List Rat):List (Int×Rat):=l.mapIdx fun i q=>((i:Int),q)
theorem idxT_len (L:List Fr):(idxT L).length=L.length:=List.length_mapIdx
theorem idxT_get {L:List Fr} {i:Nat} {x:Fr} (h:L[i]?=some x):(idxT L)[i]?=some ⟨(i:Int),x⟩:=by unfold idxT;rw[List.getElem?_mapIdx,h];rfl
theorem idxK_len (L:List Fr) {k:Nat} (h:k≤L.length):(idxK L k).length=L.length:=by unfold idxK;rw[List.length_append,List.length_take,idxT_len,List.length_replicate];omega
theorem idxK_set {L:List Fr} {i:Nat} {x:Fr} (h:L[i]?=some x):(idxK L i).set i ⟨(i:Int),x⟩=idxK L (i+1):=by
 have hi:=(List.getElem?_eq_some_iff.1 h).1
 have hl:((idxT L).take i).length=i:=by rw[List.length_take,idxT_len];omega
 unfold idxK
 rw[List.set_append_right _ _ (by omega),hl,Nat.sub_self,take_snoc (idxT_get h),show L.length-i=(L.length-(i+1))+1 by omega,List.replicate_succ,List.set_cons_zero,List.append_assoc]
 rfl
theorem idxK_end {L:List Fr} {n:Nat} (h:L.length=n):idxK L n=idxT L:=by
 unfold idxK
 rw[List.take_of_length_le (by rw[idxT_len];omega),h,Nat.sub_self,List.replicate_zero,List.append_nil]
theorem idx_prs (L:List Fr):prs (idxT L)=idxP (L.map fun x=>x.q):=by
 unfold prs idxT idxP
 apply List.ext_getElem?
 intro i
 rw[List.getElem?_map,List.getElem?_mapIdx,List.getElem?_mapIdx,List.getElem?_map]
 cases L[i]?<;>rfl
theorem idx_rise (L:List Fr):Rise (prs (idxT L)):=by
 rw[idx_prs]
 unfold Rise idxP
 rw[List.pairwise_iff_getElem]
 intro i j hi hj hij
 rw[List.getElem_mapIdx,List.getElem_mapIdx]
 simp only
 omega
def OF1 (w:World) (g n:Nat) (L:List Fr) (gk:Nat) (s:Value) (wr:World):Prop:=∃i:Nat,i≤n∧n-i=gk∧s=.int .i64 (i:Int)∧OwnR wr w.heap.size 118 5 (.slice (some ⟨g,0,none⟩) n n) n (flat Tm.cs (idxK L i))∧Below w.heap.size w wr
set_option maxRecDepth 100000 in
set_option maxHeartbeats 4000000 in
theorem ofV_q {w:World} {A:Option Addr} {n c m:Nat} {L:List Fr} (h:Sl Fr.cs 4 w A n c L) (hok:Hid (∀x∈L,FrOk w m x)) (hm:m≤15000) (hn:n≤1000000) (hT:Hid (Tab w)) :
  Calls Tryz.prog 23 #[.slice A n c] w (TellsV w (nrm (idxP (L.map fun x=>x.q))) (m+2)):=by
 have H:=Lib.hid h
 have HLN:=Lib.hid h.1
 clear h
 go_enter Tryz.func23,Tryz.ntmps23
 go_wp2_with (at_make;refine And.left (b:=True) ?_)
 refine⟨?_,trivial⟩
 refine Elt.makeN elt_term zTm (fun i z h1 h2=>tm_zero h1 h2) rfl _ _ rfl .i64 .i64 n rfl rfl (by omega) w.heap.size (Nat.le_refl _) ?_
 intro g w1 ho1 b1
 have HO1:Hid (OwnR w1 w.heap.size 118 5 (.slice (some ⟨g,0,none⟩) n n) n (flat Tm.cs (idxK L 0))):=Lib.hid (by unfold idxK;rw[HLN.out,List.take_zero,List.nil_append,Nat.sub_zero];exact ho1)
 have HB1:=Lib.hid b1
 clear ho1 b1
 go_wp2_with fail
 go_loopg [11] n (fun gk s wr=>OF1 w g n L gk s wr)
 case atStart=>exact⟨0,Nat.zero_le _,rfl,rfl,HO1.out.below (by go_grown),zAa HB1.out (by go_grown)⟩
 case round =>
  clear HO1 HB1
  obtain⟨i,hi,hgk,rfl,ho,hB⟩:=hrel
  have HGK:=Lib.hid hgk
  clear hgk
  by_cases hlt:i<n
  ·obtain⟨b,off,rfl,hel⟩:=H.out.at Fr.cs_len (by omega) (by omega)
   obtain⟨x,hx⟩:∃x,L[i]?=some x:=⟨L[i]'(by rw[HLN.out];exact hlt),List.getElem?_eq_getElem _⟩
   have hnd:=hel i x hx
   obtain⟨y,hy⟩:∃y,(idxK L i)[i]?=some y:=⟨(idxK L i)[i]'(by rw[idxK_len L (by rw[HLN.out];exact hi),HLN.out];exact hlt),List.getElem?_eq_getElem _⟩
   have HY:=Lib.hid hy
   have HE:=Lib.hid (idxK_set hx)
   have i1:(i:Int)<(n:Int):=by omega
   have i2:(0:Int)≤(i:Int):=by omega
   clear hel hx hy
   have Bz:=Below.refl wr.heap.size wr
   have p50_0:=(hnd.below (zAa hB Bz)).c0 (u:=.bool x.s) rfl
   have p50_1:=(hnd.below (zAa hB Bz)).at 1 (.slice x.A x.l x.c) rfl
   have p50_2:=(hnd.below (zAa hB Bz)).at 2 (.bool x.s') rfl
   have p50_3:=(hnd.below (zAa hB Bz)).at 3 (.slice x.A' x.l' x.c') rfl
   go_upto_region 5 with(fail)
   obtain⟨V1,hW,x0,hN⟩:=zAi wr #[.bool x.s,.slice x.A x.l x.c,.bool x.s',.slice x.A' x.l' x.c'] 57
   rw[←hW]
   clear hW
   obtain⟨v0,hb0⟩:∃b,b=wr.heap.size:=⟨_,rfl⟩
   rw[←hb0] at x0 ⊢
   have ow_0:w.heap.size≤v0:=by have:=hB.size;have:=Bz.size;omega
   replace ho:=ho.below hN
   replace hB:=zAa (zAa hB Bz) hN
   have HX0:=Lib.hid x0
   clear x0 hN Bz hb0
   have Bz:=Below.refl V1.heap.size V1
   clear p50_0 p50_1 p50_2 p50_3
   have p0_0:=(HX0.out.below Bz).cell 0 (.bool x.s) rfl
   have p0_1:=(HX0.out.below Bz).cell 1 (.slice x.A x.l x.c) rfl
   have p0_2:=(HX0.out.below Bz).cell 2 (.bool x.s') rfl
   have p0_3:=(HX0.out.below Bz).cell 3 (.slice x.A' x.l' x.c') rfl
   have p51_0:=cell_0 ho HY.out
   have p51_1:=elt_vec.cell ho HY.out (j:=1) (u:=.bool y.x.s) (by omega) rfl
   have p51_2:=elt_vec.cell ho HY.out (j:=2) (u:=.slice y.x.A y.x.l y.x.c) (by omega) rfl
   have p51_3:=elt_vec.cell ho HY.out (j:=3) (u:=.bool y.x.s') (by omega) rfl
   have p51_4:=elt_vec.cell ho HY.out (j:=4) (u:=.slice y.x.A' y.x.l' y.x.c') (by omega) rfl
   have f51_0:=ho.frozen (i*5)
   have f51_1:=ho.frozen (i*5+1)
   have f51_2:=ho.frozen (i*5+2)
   have f51_3:=ho.frozen (i*5+3)
   have f51_4:=ho.frozen (i*5+4)
   have y51:=ho.blk.1
   go_upto_region 6 with(fail)
   obtain⟨V2,hV,ho2,hg2⟩:=tm_store elt_vec ho HY.out ⟨(i:Int),x⟩
   rw[←hV]
   clear hV
   replace hB:=(zAa hB Bz).trans (hg2.below (by have:=hB.size;have:=Bz.size;omega) (fun g' hg'=>ho.base g' hg'))
   clear HX0
   clear ho
   have ho:=ho2
   clear ho2 hg2 Bz
   have Bz:=Below.refl V2.heap.size V2
   clear p0_0 p0_1 p0_2 p0_3 p51_0 p51_1 p51_2 p51_3 p51_4 f51_0 f51_1 f51_2 f51_3 f51_4 y51
   go_wp2_with fail
   go_roundg (n-(i+1))
   case measure=>have:=HGK.out;omega
   case rel=>exact⟨i+1,by omega,rfl,by go_num,by have h9:=OwnR.below ho (by go_grown);rw[HE.out] at h9;exact h9,zAa (zAa hB Bz) (by go_grown)⟩
  ·obtain rfl:i=n:=by omega
   have i1:¬(i:Int)<(i:Int):=by omega
   rw[idxK_end HLN.out] at ho
   have hfr:∀t∈idxT L,FrOk w m t.x:=fun t ht=>by
    obtain⟨j,hj⟩:=List.getElem?_of_mem ht
    unfold idxT at hj
    rw[List.getElem?_mapIdx] at hj
    cases e:L[j]? with
    | none=>rw[e] at hj;cases hj
    | some x=>rw[e] at hj;cases hj;exact hok.out x (List.mem_of_getElem? e)
   have hg:GV wr (some ⟨g,0,none⟩) i i (idxP (L.map fun x=>x.q)) (m+2):=⟨idxT L,ho.sl' elt_vec (by rw[idxT_len];exact HLN.out),fun t ht=>((hfr t ht).below hB).rep,idx_prs L,wsum_rise (idx_rise L) (fun t ht=>by have:=(hfr t ht).r.len;unfold dgT;omega),(fun e=>(by cases e))⟩
   have hnq:=normV_q hg (by omega) hn (Lib.hid (hT.out.below hB))
   clear hg ho
   go_wp2_with fail
   with_reducible refine hnq.mono ?_
   rintro e w3 ⟨A3,n3,c3,rfl,h3,b3⟩
   have H3:=Lib.hid h3
   clear h3 hnq
   go_wp2_with fail
   go_ret
   exact⟨A3,n3,c3,rfl,H3.out,zAa hB b3⟩
end Go.Proofs.YtldcfmangolkoaaGreatDoor
