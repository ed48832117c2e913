/-
  matrix.Inverse, matrix.Move. Written by wip/gen/mx2.py.
-/
import Derived.Test.YtjkgjiofmgapfaaGreatDoorYRdV
import Derived.Test.YtjkgjiofmgapfaaGreatDoorYSo5
import Derived.Test.YtjkgjiofmgapfaaGreatDoorYReg
import Derived.Maps.OwnSet
set_option maxHeartbeats 16000000
set_option maxRecDepth 100000
namespace Go.Proofs.YtjkgjiofmgapfaaGreatDoor
open Go.RowKit Tw
section
variable {α:Type} {f:α→List Value} {k:Nat} {t te:TypeId}
theorem Elt.makeN (E:Elt f k t te) (z0:α) (hz0:∀i z,Tryz.prog.info? te=some i→i.zero=some z→z.cells.toList=f z0) {w:World} {ops:Array Oper} {rest:List Oper} {o:Oper} {a:Act} {Q:Exit→Act→World→Prop} (hgd:o.guard=none) (l c:Operand) (ho:o.op=.makeSlice t l c)
  (kl kc:IntKind) (n:Nat) (hl:a.eval l=.int kl (n:Int)) (hc:a.eval c=.int kc (n:Int)) (hn:n≤100000000000) (B:Nat) (hB:B≤w.heap.size)
  (hK:∀g w',OwnR w' B te k (.slice (some ⟨g,0,none⟩) n n) n (flat f (List.replicate n z0))→Below w.heap.size w w'→wpList Tryz.prog ops Q rest (a.put o.dst (.slice (some ⟨g,0,none⟩) n n)) w'):wpList Tryz.prog ops Q (o :: rest) a w:=by
 obtain⟨i,z,h1,h2,h3,h4,h5,h6⟩:=E.info;have hzc:=hz0 i z h1 h2;refine wpList_plain hgd fun K hK'=>?_;have hb:(i.bytes:Int)*(n:Int)≤281474976710656:=by
  have h:=Nat.mul_le_mul h4 hn;have h':((i.bytes*n:Nat):Int)≤281474976710656:=zo;rwa [Int.natCast_mul] at h'
 have hrun:=run_make (P:=Tryz.prog) w t te i z E.ut h1 h2 kl kc n n zo (Int.le_refl _) hb zo;simp only[Int.toNat_natCast] at hrun
 have hcells:(madeCells z.cells (n*i.size)).toList=flat f (List.replicate n z0):=by
  rw[h3];apply List.ext_getElem?
  intro j;by_cases hj:j<n*k
  ·have k0:0<k:=by
    rcases Nat.eq_zero_or_pos k with h | h
    ·subst h;omega
    ·exact h
   have hi:j / k<n:=Nat.div_lt_of_lt_mul (by rw[Nat.mul_comm];exact hj);have hm:j % k<k:=Nat.mod_lt _ k0;have e:j / k*k+j % k=j:=by rw[Nat.mul_comm];exact Nat.div_add_mod j k
   have h7:=flat_get E.len (List.replicate n z0) (j / k) z0 (by rw[List.getElem?_replicate,if_pos hi]) (j % k) hm;rw[e] at h7;rw[h7,←hzc,Array.getElem?_toList,Array.getElem?_toList];unfold madeCells
   rw[Array.getElem?_map,Array.getElem?_range,if_pos hj,Option.map_some,h5,getElem!_pos z.cells (j % k) zo,Array.getElem?_eq_getElem zo]
  ·rw[List.getElem?_eq_none (by rw[Array.length_toList,size_madeCells];omega),List.getElem?_eq_none (by rw[flat_len E.len,List.length_replicate];omega)]
 unfold Oper.wp
 simp[execOp,ho,hl,hc,hrun,Result.andThen]
 refine hK' _ _ (hK _ _ ⟨by rw[flat_len E.len,List.length_replicate],.inr ⟨w.heap.size,n,madeCells z.cells (n*i.size),rfl,hB,Bx.new w _ _,Nat.le_refl _,by unfold maxLen;omega,by rw[size_madeCells,h3],?_,h6.made _⟩⟩ (zAd _ _));rw[hcells,List.take_of_length_le (by rw[flat_len E.len,List.length_replicate];exact Nat.le_refl _)]
end
open Go.RowKit Tw
def zTm:Tm:=⟨0,⟨false,none,0,0,false,none,0,0,0,true⟩⟩
theorem tm_zero {i:TypeInfo} {z:Value} (h:Tryz.prog.info? 71=some i) (hz:i.zero=some z):z.cells.toList=Tm.cs zTm:=by
 have h1:(Tryz.prog.info? 71).map (fun i=>i.zero)=some (some (.agg #[.int .i64 0,.bool false,.slice none 0 0,.bool false,.slice none 0 0])):=by kernel_rfl
 rw[h,Option.map_some,hz] at h1;obtain rfl:z=.agg #[.int .i64 0,.bool false,.slice none 0 0,.bool false,.slice none 0 0]:=by simpa using h1
 rfl
def idxT (L:List Fr):List Tm:=L.mapIdx fun i x=>⟨(i:Int),x⟩
def idxK (L:List Fr) (k:Nat):List Tm:=(idxT L).take k++List.replicate (L.length-k) zTm
def idxP (l:List Rat):List (Int×Rat):=l.mapIdx fun i q=>((i:Int),q)
theorem idxT_len (L:List Fr):(idxT L).length=L.length:=List.length_mapIdx
theorem idxT_get {L:List Fr} {i:Nat} {x:Fr} (h:L[i]?=some x):(idxT L)[i]?=some ⟨(i:Int),x⟩:=by unfold idxT;rw[List.getElem?_mapIdx,h];rfl
theorem idxK_len (L:List Fr) {k:Nat} (h:k≤L.length):(idxK L k).length=L.length:=by unfold idxK;rw[List.length_append,List.length_take,idxT_len,List.length_replicate];omega
theorem idxK_set {L:List Fr} {i:Nat} {x:Fr} (h:L[i]?=some x):(idxK L i).set i ⟨(i:Int),x⟩=idxK L (i+1):=by
 have hi:=(List.getElem?_eq_some_iff.1 h).1;have hl:((idxT L).take i).length=i:=by rw[List.length_take,idxT_len];omega
 unfold idxK
 rw[List.set_append_right _ _ zo,hl,Nat.sub_self,take_snoc (idxT_get h),show L.length-i=(L.length-(i+1))+1 by omega,List.replicate_succ,List.set_cons_zero,List.append_assoc];rfl
theorem idxK_end {L:List Fr} {n:Nat} (h:L.length=n):idxK L n=idxT L:=by
 unfold idxK
 rw[List.take_of_length_le (by rw[idxT_len];omega),h,Nat.sub_self,List.replicate_zero,List.append_nil]
theorem idx_prs (L:List Fr):prs (idxT L)=idxP (L.map fun x=>x.q):=by
 unfold prs idxT idxP
 apply List.ext_getElem?
 intro i;rw[List.getElem?_map,List.getElem?_mapIdx,List.getElem?_mapIdx,List.getElem?_map];cases L[i]?<;>rfl
theorem idx_rise (L:List Fr):Rise (prs (idxT L)):=by
 rw[idx_prs];unfold Rise idxP
 rw[List.pairwise_iff_getElem];intro i j hi hj hij;rw[List.getElem_mapIdx,List.getElem_mapIdx];simp only
 omega
def OF1 (w:World) (g n:Nat) (L:List Fr) (gk:Nat) (s:Value) (wr:World):Prop:=∃i:Nat,i≤n∧n-i=gk∧s=.int .i64 (i:Int)∧OwnR wr w.heap.size 71 5 (.slice (some ⟨g,0,none⟩) n n) n (flat Tm.cs (idxK L i))∧Below w.heap.size w wr
theorem ofV_q {w:World} {A:Option Addr} {n c m:Nat} {L:List Fr} (h:Sl Fr.cs 4 w A n c L) (hok:Hid (∀x∈L,FrOk w m x)) (hm:m≤15000000000) (hn:n≤1000000) (hT:Hid (Tab w)) :
  Calls Tryz.prog 25 #[.slice A n c] w (TellsV w (nrm (idxP (L.map fun x=>x.q))) (m+2)):=by
 have H:=zh h;have HLN:=zh h.1;clear h;go_enter Tryz.func25,Tryz.ntmps25
 go_wp2_with (at_make;refine And.left (b:=True) ?_)
 refine⟨?_,trivial⟩;refine Elt.makeN elt_term zTm (fun i z h1 h2=>tm_zero h1 h2) rfl _ _ rfl .i64 .i64 n rfl rfl zo w.heap.size (Nat.le_refl _) ?_;intro g w1 ho1 b1;have HO1:Hid (OwnR w1 w.heap.size 71 5 (.slice (some ⟨g,0,none⟩) n n) n (flat Tm.cs (idxK L 0))):=zh (by unfold idxK;rw[HLN.out,List.take_zero,List.nil_append,Nat.sub_zero];exact ho1);have HB1:=zh b1;clear ho1 b1;go_wp2_with fail
 go_loopg [11] n (fun gk s wr=>OF1 w g n L gk s wr)
 case atStart=>exact⟨0,Nat.zero_le _,rfl,rfl,HO1.out.below (by go_grown),bT HB1.out⟩
 case round =>
  clear HO1 HB1;obtain⟨i,hi,hgk,rfl,ho,hB⟩:=hrel;have HGK:=zh hgk;clear hgk;by_cases hlt:i<n
  ·obtain⟨b,off,rfl,hel⟩:=H.out.at Fr.cs_len zo zo;obtain⟨x,hx⟩:∃x,L[i]?=some x:=⟨L[i]'(by rw[HLN.out];exact hlt),List.getElem?_eq_getElem _⟩;have hnd:=hel i x hx;obtain⟨y,hy⟩:∃y,(idxK L i)[i]?=some y:=⟨(idxK L i)[i]'(by rw[idxK_len L (by rw[HLN.out];exact hi),HLN.out];exact hlt),List.getElem?_eq_getElem _⟩;have HY:=zh hy;have HE:=zh (idxK_set hx);have i1:(i:Int)<(n:Int):=zo;have i2:(0:Int)≤(i:Int):=zo;clear hel hx hy;have Bz:=zr wr;obtain⟨pA0,pA1,pA2,pA3,-⟩:=(hnd.below (bT hB Bz)).ez;go_upto_region 5 with(fail)
   obtain⟨V1,hW,x0,hN⟩:=zAa wr #[.bool x.s,.slice x.A x.l x.c,.bool x.s',.slice x.A' x.l' x.c'] 33;rw[←hW];clear hW;obtain⟨v0,hb0⟩:=ze wr.heap.size;rw[←hb0] at x0 ⊢;have ow_0:w.heap.size≤v0:=zi (zw hB Bz);replace ho:=ho.below hN;replace hB:=bT (bT hB Bz) hN;have HX0:=zh x0;clear x0 hN Bz hb0;have Bz:=zr V1;clear pA0 pA1 pA2 pA3;obtain⟨pa0,pa1,pa2,pa3,-⟩:=(zx HX0 Bz).cz;have pB0:=cell_0 ho HY.out;have pB1:=elt_vec.cell ho HY.out (j:=1) (u:=.bool y.x.s) zo rfl;have pB2:=elt_vec.cell ho HY.out (j:=2) (u:=.slice y.x.A y.x.l y.x.c) zo rfl;have pB3:=elt_vec.cell ho HY.out (j:=3) (u:=.bool y.x.s') zo rfl;have pB4:=elt_vec.cell ho HY.out (j:=4) (u:=.slice y.x.A' y.x.l' y.x.c') zo rfl;have fB0:=ho.frozen (i*5);have fB1:=ho.frozen (i*5+1);have fB2:=ho.frozen (i*5+2);have fB3:=ho.frozen (i*5+3);have fB4:=ho.frozen (i*5+4);have y51:=ho.blk.1;go_upto_region 6 with(fail)
   obtain⟨V2,hV,ho2,hg2⟩:=tm_store elt_vec ho HY.out ⟨(i:Int),x⟩;rw[←hV];clear hV;replace hB:=(bT hB Bz).trans (hg2.below (zi (zw hB Bz)) (fun g' hg'=>ho.base g' hg'));clear HX0;clear ho;have ho:=ho2;clear ho2 hg2 Bz;have Bz:=zr V2;clear pa0 pa1 pa2 pa3 pB0 pB1 pB2 pB3 pB4 fB0 fB1 fB2 fB3 fB4 y51;go_wp2_with fail
   go_roundg (n-(i+1))
   case measure=>have:=HGK.out;omega
   case rel=>exact⟨i+1,zo,rfl,by go_num,by have h9:=OwnR.below ho;rw[HE.out] at h9;exact h9,bT (bT hB Bz)⟩
  ·obtain rfl:i=n:=zo;have i1:¬(i:Int)<(i:Int):=zo;rw[idxK_end HLN.out] at ho;have hfr:∀t∈idxT L,FrOk w m t.x:=fun t ht=>by
    obtain⟨j,hj⟩:=List.getElem?_of_mem ht;unfold idxT at hj
    rw[List.getElem?_mapIdx] at hj;cases e:L[j]? with
    | none=>rw[e] at hj;cases hj
    | some x=>rw[e] at hj;cases hj;exact hok.out x (List.mem_of_getElem? e)
   have hg:GV wr (some ⟨g,0,none⟩) i i (idxP (L.map fun x=>x.q)) (m+2):=⟨idxT L,ho.sl' elt_vec (by rw[idxT_len];exact HLN.out),fun t ht=>((hfr t ht).below hB).rep,idx_prs L,wsum_rise (idx_rise L) (fun t ht=>by have:=(hfr t ht).r.len;unfold dgT;omega),(fun e=>(by cases e))⟩;have hnq:=normV_q hg zo hn (zh (hT.out.below hB));clear hg ho;go_wp2_with fail
   with_reducible refine hnq.mono ?_
   rintro e w3 ⟨A3,n3,c3,rfl,h3,b3⟩;have H3:=zh h3;clear h3 hnq;go_wp2_with fail
   go_ret
   exact⟨A3,n3,c3,rfl,H3.out,bT hB b3⟩
open Go.RowKit Tw
def minQ (q r:Rat):Rat:=if r<q then r else q
def maxQ (q r:Rat):Rat:=if q<r then r else q
theorem cmpQ_gt (q r:Rat):0<cmpQ q r↔r<q:=by
 unfold cmpQ
 by_cases h:q<r
 ·rw[if_pos h];exact⟨fun e=>zo,fun e=>absurd e (Rat.not_lt.2 (Rat.le_of_lt h))⟩
 ·rw[if_neg h];by_cases e:q=r
  ·subst e;rw[if_pos rfl];exact⟨fun e=>zo,fun e=>absurd e h⟩
  ·rw[if_neg e];have:r<q:=Rat.lt_of_le_of_ne (Rat.not_lt.1 h) (fun x=>e x.symm);exact⟨fun _=>this,fun _=>by decide⟩
theorem cmpQ_lt (q r:Rat):cmpQ q r<0↔q<r:=by
 unfold cmpQ
 by_cases h:q<r
 ·rw[if_pos h];exact⟨fun _=>h,fun _=>by decide⟩
 ·rw[if_neg h];by_cases e:q=r
  ·rw[if_pos e];exact⟨fun e=>zo,fun e=>absurd e h⟩
  ·rw[if_neg e];exact⟨fun e=>zo,fun e=>absurd e h⟩
theorem whole_sign {n d:Int} (h:0<d) {z:Int} (hz:(n % d).sign=z):(z==0)=decide ((qof n d).den=1):=by
 have h1:=qof_den (n:=n) h;have h2:z=0↔n % d=0:=by rw[←hz];exact Int.sign_eq_zero_iff_zero
 have h3:(qof n d).den=1↔n % d=0:=by
  constructor
  ·intro e;rw[e] at h1;have h4:(Int.gcd n d:Int) ∣ d:=Int.gcd_dvd_right ..;have h5:(Int.gcd n d:Int)*(d / (Int.gcd n d:Int))=d:=Int.mul_ediv_cancel' h4;rw[←h1] at h5;have h6:(Int.gcd n d:Int)=d:=by simpa using h5
   have h7:(Int.gcd n d:Int) ∣ n:=Int.gcd_dvd_left ..;rw[h6] at h7;exact Int.emod_eq_zero_of_dvd h7
  ·intro e;have h4:d ∣ n:=Int.dvd_of_emod_eq_zero e;have h5:(Int.gcd n d:Int)=d:=by
    have:=Int.gcd_eq_natAbs_right h4;rw[this];omega
   rw[h5,Int.ediv_self zo] at h1;exact_mod_cast h1
 by_cases e:n % d=0
 ·rw[decide_eq_true (h3.2 e),h2.2 e];rfl
 ·rw[decide_eq_false (fun x=>e (h3.1 x))];have:z≠0:=fun x=>e (h2.1 x);simpa using this
section
variable {w:World} {s s' t t':Bool} {A A' B B':Option Addr} {c c' l l' e e' k k':Nat}
theorem min_q {q r:Rat} {m m':Nat} (h:R w s A c l s' A' c' l' q m) (h':R w t B k e t' B' k' e' r m') (hm:m+m'≤40000000000) (hT:Hid (Tab w)) :
  Calls Tryz.prog 76 #[.agg #[.bool s,.slice A l c,.bool s',.slice A' l' c'],.agg #[.bool t,.slice B e k,.bool t',.slice B' e' k']] w (TellsR w (minQ q r)):=by
 obtain⟨z,HZ⟩:∃z,Hid (cmpQ q r=z):=⟨_,zh rfl⟩;by_cases g1:0<z
 ·have e9:minQ q r=r:=by unfold minQ;rw[←HZ.out] at g1;rw[if_pos ((cmpQ_gt q r).1 g1)]
  rw[e9];clear e9;obtain⟨W,hW,x0,x1,x2,hB⟩:=boxes3 w #[.bool s,.slice A l c,.bool s',.slice A' l' c'] 33 #[.bool t,.slice B e k,.bool t',.slice B' e' k'] 33 #[.bool false,.slice none 0 0,.bool false,.slice none 0 0] 33;replace h:=h.below hB;replace h':=h'.below hB;have HX0:=zh x0;have HX1:=zh x1;have HX2:=zh x2;clear x0 x1 x2;have Bz:=zr W;obtain⟨pa0,pa1,pa2,pa3,-⟩:=(zx HX0 Bz).cz;obtain⟨pb0,pb1,pb2,pb3,-⟩:=(zx HX1 Bz).cz;go_enter Tryz.func76,Tryz.ntmps76
  go_wp2_with fail
  rw[←hW];clear hW;go_wp2_with fail
  with_reducible refine(cmp_q (R.below h) (R.below h') zo z HZ).mono ?_
  rintro e w1 ⟨rfl,b1⟩;replace b1:=zq (a:=W) b1;replace h':=h'.below b1;replace Bz:=bT Bz b1;clear b1;clear pa0 pa1 pa2 pa3 pb0 pb1 pb2 pb3;obtain⟨pb0,pb1,pb2,pb3,-⟩:=(zx HX1 Bz).cz;go_wp2_with fail
  with_reducible refine(norm_q (R.below h') zo (zt hT hB Bz)).mono ?_
  rintro e w2 ⟨s2,A2,c2,l2,s2r,A2r,c2r,l2r,rfl,h2,b2⟩;replace b2:=zq (a:=w1) b2;replace Bz:=bT Bz b2;clear b2;clear pb0 pb1 pb2 pb3;obtain⟨pc0,pc1,pc2,pc3,-⟩:=(zx HX2 Bz).cz;have fc0:=(zx HX2 Bz).frozen 0;have fc1:=(zx HX2 Bz).frozen 1;have fc2:=(zx HX2 Bz).frozen 2;have fc3:=(zx HX2 Bz).frozen 3;have y2:=(zx HX2 Bz).lt;go_wp2_with fail
  have qc0:w2.cell? ⟨w.heap.size+2,0,none⟩=some (.bool false):=pc0;have qc1:w2.cell? ⟨w.heap.size+2,1,none⟩=some (.slice none 0 0):=pc1;have qc2:w2.cell? ⟨w.heap.size+2,2,none⟩=some (.bool false):=pc2;have qc3:w2.cell? ⟨w.heap.size+2,3,none⟩=some (.slice none 0 0):=pc3;(try simp only[Exit.inBlock,Exit.then])
  refine bodyPost_ret (by simp[results,Tryz.results76,go_sem,qc0,qc1,qc2,qc3];try rfl) rfl ?_;obtain⟨V1,hW,x,kk,far,bel⟩:=store4 (.bool s2) (.slice A2 l2 c2) (.bool s2r) (.slice A2r l2r c2r) (zx HX2 Bz) nofun nofun nofun nofun;rw[←hW];clear hW;replace h2:=h2.k kk;replace hB:=bel w.heap.size w zo (bT hB Bz);replace HX0:=zf far HX0 Bz;replace HX1:=zf far HX1 Bz;replace HX2:=zh x;clear x kk far bel Bz;have Bz:=zr V1;have hF:=bT (c:=V1) hB Bz;exact⟨s2,A2,c2,l2,s2r,A2r,c2r,l2r,rfl,(RN.below h2),bT hF⟩
 ·have e9:minQ q r=q:=by unfold minQ;rw[←HZ.out] at g1;rw[if_neg (fun x=>g1 ((cmpQ_gt q r).2 x))]
  rw[e9];clear e9;obtain⟨W,hW,x0,x1,x2,hB⟩:=boxes3 w #[.bool s,.slice A l c,.bool s',.slice A' l' c'] 33 #[.bool t,.slice B e k,.bool t',.slice B' e' k'] 33 #[.bool false,.slice none 0 0,.bool false,.slice none 0 0] 33;replace h:=h.below hB;replace h':=h'.below hB;have HX0:=zh x0;have HX1:=zh x1;have HX2:=zh x2;clear x0 x1 x2;have Bz:=zr W;obtain⟨pa0,pa1,pa2,pa3,-⟩:=(zx HX0 Bz).cz;obtain⟨pb0,pb1,pb2,pb3,-⟩:=(zx HX1 Bz).cz;go_enter Tryz.func76,Tryz.ntmps76
  go_wp2_with fail
  rw[←hW];clear hW;go_wp2_with fail
  with_reducible refine(cmp_q (R.below h) (R.below h') zo z HZ).mono ?_
  rintro e w1 ⟨rfl,b1⟩;replace b1:=zq (a:=W) b1;replace h:=h.below b1;replace Bz:=bT Bz b1;clear b1;clear pa0 pa1 pa2 pa3 pb0 pb1 pb2 pb3;obtain⟨pa0,pa1,pa2,pa3,-⟩:=(zx HX0 Bz).cz;go_wp2_with fail
  with_reducible refine(norm_q (R.below h) zo (zt hT hB Bz)).mono ?_
  rintro e w2 ⟨s2,A2,c2,l2,s2r,A2r,c2r,l2r,rfl,h2,b2⟩;replace b2:=zq (a:=w1) b2;replace Bz:=bT Bz b2;clear b2;clear pa0 pa1 pa2 pa3;obtain⟨pc0,pc1,pc2,pc3,-⟩:=(zx HX2 Bz).cz;have fc0:=(zx HX2 Bz).frozen 0;have fc1:=(zx HX2 Bz).frozen 1;have fc2:=(zx HX2 Bz).frozen 2;have fc3:=(zx HX2 Bz).frozen 3;have y2:=(zx HX2 Bz).lt;go_wp2_with fail
  have qc0:w2.cell? ⟨w.heap.size+2,0,none⟩=some (.bool false):=pc0;have qc1:w2.cell? ⟨w.heap.size+2,1,none⟩=some (.slice none 0 0):=pc1;have qc2:w2.cell? ⟨w.heap.size+2,2,none⟩=some (.bool false):=pc2;have qc3:w2.cell? ⟨w.heap.size+2,3,none⟩=some (.slice none 0 0):=pc3;(try simp only[Exit.inBlock,Exit.then])
  refine bodyPost_ret (by simp[results,Tryz.results76,go_sem,qc0,qc1,qc2,qc3];try rfl) rfl ?_;obtain⟨V1,hW,x,kk,far,bel⟩:=store4 (.bool s2) (.slice A2 l2 c2) (.bool s2r) (.slice A2r l2r c2r) (zx HX2 Bz) nofun nofun nofun nofun;rw[←hW];clear hW;replace h2:=h2.k kk;replace hB:=bel w.heap.size w zo (bT hB Bz);replace HX0:=zf far HX0 Bz;replace HX1:=zf far HX1 Bz;replace HX2:=zh x;clear x kk far bel Bz;have Bz:=zr V1;have hF:=bT (c:=V1) hB Bz;exact⟨s2,A2,c2,l2,s2r,A2r,c2r,l2r,rfl,(RN.below h2),bT hF⟩
theorem max_q {q r:Rat} {m m':Nat} (h:R w s A c l s' A' c' l' q m) (h':R w t B k e t' B' k' e' r m') (hm:m+m'≤40000000000) (hT:Hid (Tab w)) :
  Calls Tryz.prog 77 #[.agg #[.bool s,.slice A l c,.bool s',.slice A' l' c'],.agg #[.bool t,.slice B e k,.bool t',.slice B' e' k']] w (TellsR w (maxQ q r)):=by
 obtain⟨z,HZ⟩:∃z,Hid (cmpQ q r=z):=⟨_,zh rfl⟩;by_cases g1:z<0
 ·have e9:maxQ q r=r:=by unfold maxQ;rw[←HZ.out] at g1;rw[if_pos ((cmpQ_lt q r).1 g1)]
  rw[e9];clear e9;obtain⟨W,hW,x0,x1,x2,hB⟩:=boxes3 w #[.bool s,.slice A l c,.bool s',.slice A' l' c'] 33 #[.bool t,.slice B e k,.bool t',.slice B' e' k'] 33 #[.bool false,.slice none 0 0,.bool false,.slice none 0 0] 33;replace h:=h.below hB;replace h':=h'.below hB;have HX0:=zh x0;have HX1:=zh x1;have HX2:=zh x2;clear x0 x1 x2;have Bz:=zr W;obtain⟨pa0,pa1,pa2,pa3,-⟩:=(zx HX0 Bz).cz;obtain⟨pb0,pb1,pb2,pb3,-⟩:=(zx HX1 Bz).cz;go_enter Tryz.func77,Tryz.ntmps77
  go_wp2_with fail
  rw[←hW];clear hW;go_wp2_with fail
  with_reducible refine(cmp_q (R.below h) (R.below h') zo z HZ).mono ?_
  rintro e w1 ⟨rfl,b1⟩;replace b1:=zq (a:=W) b1;replace h':=h'.below b1;replace Bz:=bT Bz b1;clear b1;clear pa0 pa1 pa2 pa3 pb0 pb1 pb2 pb3;obtain⟨pb0,pb1,pb2,pb3,-⟩:=(zx HX1 Bz).cz;go_wp2_with fail
  with_reducible refine(norm_q (R.below h') zo (zt hT hB Bz)).mono ?_
  rintro e w2 ⟨s2,A2,c2,l2,s2r,A2r,c2r,l2r,rfl,h2,b2⟩;replace b2:=zq (a:=w1) b2;replace Bz:=bT Bz b2;clear b2;clear pb0 pb1 pb2 pb3;obtain⟨pc0,pc1,pc2,pc3,-⟩:=(zx HX2 Bz).cz;have fc0:=(zx HX2 Bz).frozen 0;have fc1:=(zx HX2 Bz).frozen 1;have fc2:=(zx HX2 Bz).frozen 2;have fc3:=(zx HX2 Bz).frozen 3;have y2:=(zx HX2 Bz).lt;go_wp2_with fail
  have qc0:w2.cell? ⟨w.heap.size+2,0,none⟩=some (.bool false):=pc0;have qc1:w2.cell? ⟨w.heap.size+2,1,none⟩=some (.slice none 0 0):=pc1;have qc2:w2.cell? ⟨w.heap.size+2,2,none⟩=some (.bool false):=pc2;have qc3:w2.cell? ⟨w.heap.size+2,3,none⟩=some (.slice none 0 0):=pc3;(try simp only[Exit.inBlock,Exit.then])
  refine bodyPost_ret (by simp[results,Tryz.results77,go_sem,qc0,qc1,qc2,qc3];try rfl) rfl ?_;obtain⟨V1,hW,x,kk,far,bel⟩:=store4 (.bool s2) (.slice A2 l2 c2) (.bool s2r) (.slice A2r l2r c2r) (zx HX2 Bz) nofun nofun nofun nofun;rw[←hW];clear hW;replace h2:=h2.k kk;replace hB:=bel w.heap.size w zo (bT hB Bz);replace HX0:=zf far HX0 Bz;replace HX1:=zf far HX1 Bz;replace HX2:=zh x;clear x kk far bel Bz;have Bz:=zr V1;have hF:=bT (c:=V1) hB Bz;exact⟨s2,A2,c2,l2,s2r,A2r,c2r,l2r,rfl,(RN.below h2),bT hF⟩
 ·have e9:maxQ q r=q:=by unfold maxQ;rw[←HZ.out] at g1;rw[if_neg (fun x=>g1 ((cmpQ_lt q r).2 x))]
  rw[e9];clear e9;obtain⟨W,hW,x0,x1,x2,hB⟩:=boxes3 w #[.bool s,.slice A l c,.bool s',.slice A' l' c'] 33 #[.bool t,.slice B e k,.bool t',.slice B' e' k'] 33 #[.bool false,.slice none 0 0,.bool false,.slice none 0 0] 33;replace h:=h.below hB;replace h':=h'.below hB;have HX0:=zh x0;have HX1:=zh x1;have HX2:=zh x2;clear x0 x1 x2;have Bz:=zr W;obtain⟨pa0,pa1,pa2,pa3,-⟩:=(zx HX0 Bz).cz;obtain⟨pb0,pb1,pb2,pb3,-⟩:=(zx HX1 Bz).cz;go_enter Tryz.func77,Tryz.ntmps77
  go_wp2_with fail
  rw[←hW];clear hW;go_wp2_with fail
  with_reducible refine(cmp_q (R.below h) (R.below h') zo z HZ).mono ?_
  rintro e w1 ⟨rfl,b1⟩;replace b1:=zq (a:=W) b1;replace h:=h.below b1;replace Bz:=bT Bz b1;clear b1;clear pa0 pa1 pa2 pa3 pb0 pb1 pb2 pb3;obtain⟨pa0,pa1,pa2,pa3,-⟩:=(zx HX0 Bz).cz;go_wp2_with fail
  with_reducible refine(norm_q (R.below h) zo (zt hT hB Bz)).mono ?_
  rintro e w2 ⟨s2,A2,c2,l2,s2r,A2r,c2r,l2r,rfl,h2,b2⟩;replace b2:=zq (a:=w1) b2;replace Bz:=bT Bz b2;clear b2;clear pa0 pa1 pa2 pa3;obtain⟨pc0,pc1,pc2,pc3,-⟩:=(zx HX2 Bz).cz;have fc0:=(zx HX2 Bz).frozen 0;have fc1:=(zx HX2 Bz).frozen 1;have fc2:=(zx HX2 Bz).frozen 2;have fc3:=(zx HX2 Bz).frozen 3;have y2:=(zx HX2 Bz).lt;go_wp2_with fail
  have qc0:w2.cell? ⟨w.heap.size+2,0,none⟩=some (.bool false):=pc0;have qc1:w2.cell? ⟨w.heap.size+2,1,none⟩=some (.slice none 0 0):=pc1;have qc2:w2.cell? ⟨w.heap.size+2,2,none⟩=some (.bool false):=pc2;have qc3:w2.cell? ⟨w.heap.size+2,3,none⟩=some (.slice none 0 0):=pc3;(try simp only[Exit.inBlock,Exit.then])
  refine bodyPost_ret (by simp[results,Tryz.results77,go_sem,qc0,qc1,qc2,qc3];try rfl) rfl ?_;obtain⟨V1,hW,x,kk,far,bel⟩:=store4 (.bool s2) (.slice A2 l2 c2) (.bool s2r) (.slice A2r l2r c2r) (zx HX2 Bz) nofun nofun nofun nofun;rw[←hW];clear hW;replace h2:=h2.k kk;replace hB:=bel w.heap.size w zo (bT hB Bz);replace HX0:=zf far HX0 Bz;replace HX1:=zf far HX1 Bz;replace HX2:=zh x;clear x kk far bel Bz;have Bz:=zr V1;have hF:=bT (c:=V1) hB Bz;exact⟨s2,A2,c2,l2,s2r,A2r,c2r,l2r,rfl,(RN.below h2),bT hF⟩
theorem isWhole_q {q:Rat} {m:Nat} (h:R w s A c l s' A' c' l' q m) (hm:m≤40000000000) (b:Bool) (hb:Hid (decide (q.den=1)=b)) :
  Calls Tryz.prog 81 #[.agg #[.bool s,.slice A l c,.bool s',.slice A' l' c']] w fun e w'=>e=.returned (.bool b)∧Below w.heap.size w w':=by
 obtain⟨W,hW,x0,hB⟩:=zAa w #[.bool s,.slice A l c,.bool s',.slice A' l' c'] 33;replace h:=h.below hB;have HX0:=zh x0;clear x0;have Bz:=zr W;obtain⟨pa0,pa1,pa2,pa3,-⟩:=(zx HX0 Bz).cz;go_enter Tryz.func81,Tryz.ntmps81
 go_wp2_with fail
 rw[←hW];clear hW;go_wp2_with fail
 with_reducible refine(parts_q (R.below h) zo).mono ?_
 rintro e w1 ⟨n1,d1,s1,A1,c1,l1,s1r,A1r,c1r,l1r,rfl,h1,h1r,e1,q1,m1,m1r,b1⟩;replace b1:=zq (a:=W) b1;replace Bz:=bT Bz b1;clear b1;obtain⟨z,HZ⟩:∃z,Hid ((n1 % d1).sign=z):=⟨_,zh rfl⟩;clear pa0 pa1 pa2 pa3;go_wp2_with fail
 with_reducible refine(divmod_z (I.below h1) (I.below h1r) zo zo).mono ?_
 rintro e w2 ⟨s2,A2,c2,l2,s2r,A2r,c2r,l2r,rfl,h2,h2r,m2,m2r,b2⟩;replace b2:=zq (a:=w1) b2;replace Bz:=bT Bz b2;clear h2;clear b2;go_upto_region 2 with(fail)
 obtain⟨V1,hW,x1,x2,hN⟩:=boxes2 w2 #[.bool s2,.slice A2 l2 c2] 31 #[.bool s2r,.slice A2r l2r c2r] 31;rw[←hW];clear hW;obtain⟨v2,hb2⟩:=ze (w2.heap.size+1);rw[←hb2] at x2 ⊢;obtain⟨v1,hb1⟩:=ze w2.heap.size;rw[←hb1] at x1 ⊢;have o0_1:w.heap.size<v1:=zi (zx HX0 Bz).lt;have ow_1:w.heap.size≤v1:=zi (zw hB Bz);have o0_2:w.heap.size<v2:=zi (zx HX0 Bz).lt;have o1_2:v1<v2:=zo;have ow_2:w.heap.size≤v2:=zi (zw hB Bz);replace h2r:=h2r.below hN;replace hB:=bT (bT hB Bz) hN;replace HX0:=zba HX0 Bz hN;have HX1:=zh x1;have HX2:=zh x2;clear x1 x2 hN Bz hb1 hb2;have Bz:=zr V1;obtain⟨pc0,pc1,-⟩:=(zx HX2 Bz).cz;go_wp2_with fail
 with_reducible refine(sign_z (I.below h2r.i) zo z HZ.out).mono ?_
 rintro e w3 ⟨rfl,b3⟩;replace b3:=zq (a:=V1) b3;replace Bz:=bT Bz b3;clear b3;clear pc0 pc1;go_wp2_with fail
 go_ret
 have hF:=bT (c:=w3) hB Bz;exact⟨by rw[whole_sign e1 HZ.out,q1,hb.out];rfl,bT hF⟩
end
theorem idxP_len (l:List Rat):(idxP l).length=l.length:=by unfold idxP;simp
theorem wsum_fr {w:World} {m:Nat} {L:List Tm} (h:∀t∈L,FrOk w m t.x) (a:Int):wsum L a≤L.length*(m+2):=by
 induction L with
 | nil=>exact Nat.zero_le _
 | cons x L ih =>
  have h1:=ih fun t ht=>h t (List.mem_cons_of_mem _ ht);have h2:dgT x≤m:=by
   have:=(h x List.mem_cons_self).1.len;unfold dgT
   omega
  have h3:wsum (x :: L) a=(if x.at_=a then dgT x+2 else 0)+wsum L a:=rfl;have h4:(L.length+1)*(m+2)=L.length*(m+2)+(m+2):=by rw[Nat.add_mul,Nat.one_mul]
  rw[h3,List.length_cons,h4];split<;>omega
theorem gv_fr {w:World} {m n c M:Nat} {A:Option Addr} {L:List Tm} (h:Sl Tm.cs 5 w A n c L) (hf:∀t∈L,FrOk w m t.x) (hc:A=none→c=0) (hM:n*(m+2)≤M):GV w A n c (prs L) M :=
 ⟨L,h,fun t ht=>(hf t ht).rep,rfl,fun a=>Nat.le_trans (wsum_fr hf a) (by rw[h.1];exact hM),hc⟩
theorem value_q {w:World} {m mx xn xc KK:Nat} {p:Pg} {xA:Option Addr} {X:List Fr} (h:PgOk w m p) (hx:Sl Fr.cs 4 w xA xn xc X) (hxf:Hid (∀x∈X,FrOk w mx x)) (hmx:mx≤100000000) (hxn:xn≤1000) (hcn:p.cn≤1000) (hq1:1+p.cn*(p.cn*(m+2)+(mx+3)+3)≤KK) (hK2:KK≤15000000001) (hT:Hid (Tab w)) :
  Calls Tryz.prog 14 #[.agg #[.slice p.vA p.vn p.vc,.slice p.rA p.rn p.rc,.slice p.cA p.cn p.cc],.slice xA xn xc] w (TellsNum w (pdot (prs p.C) (idxP (X.map fun x=>x.q))) KK):=by
 have HM:Hid (p.cn*(m+2)≤15000000000):=zh (by
  rcases Nat.eq_zero_or_pos p.cn with e | e
  ·rw[e];omega
  ·have:=Nat.le_mul_of_pos_left (p.cn*(m+2)+(mx+3)+3) e;omega)
 obtain⟨W,hW,x0,x1,hB⟩:=boxes2 w #[.slice p.vA p.vn p.vc,.slice p.rA p.rn p.rc,.slice p.cA p.cn p.cc] 27 #[.bool false,.slice none 0 0,.bool false,.slice none 0 0] 33;have HX0:=zh x0;have HX1:=zh x1;clear x0 x1;have Bz:=zr W;have pa2:=(zx HX0 Bz).cell 2 (.slice p.cA p.cn p.cc) rfl;obtain⟨pb0,pb1,pb2,pb3,-⟩:=(zx HX1 Bz).cz;have fb0:=(zx HX1 Bz).frozen 0;have fb1:=(zx HX1 Bz).frozen 1;have fb2:=(zx HX1 Bz).frozen 2;have fb3:=(zx HX1 Bz).frozen 3;have y1:=(zx HX1 Bz).lt;go_enter Tryz.func14,Tryz.ntmps14
 go_wp2_with fail
 rw[←hW];clear hW;go_wp2_with fail
 (try simp only[vAa,vBa,vC])
 refine zl (.pure 0 (.take 1 (.pure 2 (.only 3 (.only 4 (.only 5 .done)))))) [5] (zIa pa2) ?_;refine zV ?_;try simp only[uW,uX,uY,uZ]
 refine zUa ?_;try simp only[uW,uX,uY,uZ]
 refine zV ?_;try simp only[uW,uX,uY,uZ]
 refine zC 8 rfl rfl (fun K hK=>?_);go_simp
 with_reducible refine(ofV_q (hx.below (bT hB (bT (b:=W) Bz))) (zh fun x k=>(hxf.out x k).below (bT hB (bT (b:=W) Bz))) zo zo (zt hT hB Bz)).mono ?_
 rintro e w1 ⟨A1,n1,c1,rfl,h1,b1⟩;replace b1:=zq (a:=W) b1;replace Bz:=bT Bz b1;clear b1;clear pa2 pb0 pb1 pb2 pb3 fb0 fb1 fb2 fb3 y1;have pa2:=(zx HX0 Bz).cell 2 (.slice p.cA p.cn p.cc) rfl;obtain⟨pb0,pb1,pb2,pb3,-⟩:=(zx HX1 Bz).cz;have fb0:=(zx HX1 Bz).frozen 0;have fb1:=(zx HX1 Bz).frozen 1;have fb2:=(zx HX1 Bz).frozen 2;have fb3:=(zx HX1 Bz).frozen 3;have y1:=(zx HX1 Bz).lt;refine hK.out _ _ pa2 (fun _=>?_);try simp only[uW,uX,uY,uZ]
 clear hK K;refine zC 9 rfl rfl (fun K hK=>?_);go_simp
 have HN:Hid (n1≤1000):=zh (by have h8:=(NV.len h1);have h9:=nrm_len (idxP (X.map fun x=>x.q));have h7:=idxP_len (X.map fun x=>x.q);have h6:=hx.1;rw[List.length_map] at h7;omega);with_reducible refine(dotW (p.cn*(m+2)) (mx+3) p.cn KK (gv_fr (Sl.below h.csl (bT hB (bT (b:=w1) Bz))) (fun t k=>(h.cf t k).below (bT hB (bT (b:=w1) Bz))) h.nil (Nat.le_refl _)) ((NV.below h1).gv (nrm_nrm _).rise) (Nat.le_refl _) (zi HN.out) hq1 hK2 HM.out zo hcn (zt hT hB Bz)).mono ?_
 rintro e w2 ⟨s2,A2,c2,l2,s2r,A2r,c2r,l2r,rfl,h2,z2,b2⟩;replace b2:=zq (a:=w1) b2;replace Bz:=bT Bz b2;clear b2;clear pa2 pb0 pb1 pb2 pb3 fb0 fb1 fb2 fb3 y1;have pa2:=(zx HX0 Bz).cell 2 (.slice p.cA p.cn p.cc) rfl;obtain⟨pb0,pb1,pb2,pb3,-⟩:=(zx HX1 Bz).cz;have fb0:=(zx HX1 Bz).frozen 0;have fb1:=(zx HX1 Bz).frozen 1;have fb2:=(zx HX1 Bz).frozen 2;have fb3:=(zx HX1 Bz).frozen 3;have y1:=(zx HX1 Bz).lt;refine hK.out _ _ pa2 (fun _=>?_);try simp only[uW,uX,uY,uZ]
 clear hK K;refine wpPlan_late (o:=⟨none,_,_,_,_,_⟩) rfl rfl zda (fun K hK=>?_);go_simp
 refine hK.out _ _ ?_;try simp only[Act.put,uX,uY,uZ]
 clear hK K;refine wpPlan_done ?_;go_wp2_with fail
 (try simp only[Exit.inBlock,Exit.then])
 refine bodyPost_ret (by simp[results,Tryz.results14,go_sem,pb0,pb1,pb2,pb3];try rfl) rfl ?_;obtain⟨V1,hW,x,kk,far,bel⟩:=store4 (.bool s2) (.slice A2 l2 c2) (.bool s2r) (.slice A2r l2r c2r) (zx HX1 Bz) nofun nofun nofun nofun;rw[←hW];clear hW;replace h2:=h2.k kk;replace hB:=bel w.heap.size w zo (bT hB Bz);replace HX0:=zf far HX0 Bz;replace HX1:=zh x;clear x kk far bel Bz;have Bz:=zr V1;have hF:=bT (c:=V1) hB Bz;have hr:=RN.below h2;rw[pdot_nrm_right] at hr;exact⟨s2,A2,c2,l2,s2r,A2r,c2r,l2r,rfl,hr,by rw[←pdot_nrm_right];exact z2,bT hF⟩
def holdsQ (x:Rw) (q:Rat):Bool:=if x.kind=1 then decide (cmpQ q x.b.q≤0) else if x.kind=2 then(cmpQ q x.b.q==0) else if x.kind=3 then decide (0≤cmpQ q x.b.q) else true
theorem holds_q {w:World} {m M yn yc KK:Nat} {x:Rw} {yA:Option Addr} {Y:List (Int×Rat)} (h:RwOk w m x) (hv:GV w yA yn yc Y M) (hyn:yn≤1000) (hcn:x.n≤1000) (hM:M≤15000000000) (hm:m≤20000000000) (hq1:1+x.n*(x.n*(m+2)+M+3)≤KK) (hK2:KK≤15000000001) (t:Bool) (ht:Hid (holdsQ x (pdot (prs x.L) Y)=t)) (hT:Hid (Tab w)) :
  Calls Tryz.prog 80 #[.agg #[.slice x.A x.n x.c,.int .u8 x.kind,.bool x.b.s,.slice x.b.A x.b.l x.b.c,.bool x.b.s',.slice x.b.A' x.b.l' x.b.c'],.slice yA yn yc] w fun e w'=>e=.returned (.bool t)∧Below w.heap.size w w':=by
 have HM:Hid (x.n*(m+2)≤15000000000):=zh (by
  rcases Nat.eq_zero_or_pos x.n with e | e
  ·rw[e];omega
  ·have:=Nat.le_mul_of_pos_left (x.n*(m+2)+M+3) e;omega)
 obtain⟨z,HZ⟩:∃z,Hid (cmpQ (pdot (prs x.L) Y) x.b.q=z):=⟨_,zh rfl⟩;by_cases k1:x.kind=1
 ·have g1:(x.kind==1)=true:=by simp[k1]
  obtain rfl:t=decide (z≤0):=by rw[←ht.out];unfold holdsQ;rw[HZ.out];simp[k1]
  clear k1;obtain⟨W,hW,x0,hB⟩:=zAa w #[.slice x.A x.n x.c,.int .u8 x.kind,.bool x.b.s,.slice x.b.A x.b.l x.b.c,.bool x.b.s',.slice x.b.A' x.b.l' x.b.c'] 35;have HX0:=zh x0;clear x0;have Bz:=zr W;obtain⟨pa0,-,pa2,pa3,pa4,pa5,-⟩:=(zx HX0 Bz).cz;go_enter Tryz.func80,Tryz.ntmps80
  go_wp2_with fail
  rw[←hW];clear hW;go_wp2_with fail
  (try simp only[vAa,vBa,vC])
  refine zl (zz [0,1,2,4,5] (.only 3 (.only 6 (.take 7 .done)))) [] (zsa pa0 (zsa pa2 (zsa pa3 (zsa pa4 (zIa pa5))))) ?_;iterate 5 (refine zUa ?_;try simp only[uW,uX,uY,uZ])
  refine zC 9 rfl rfl (fun K hK=>?_);go_simp
  with_reducible refine(dotW (x.n*(m+2)) M x.n KK (gv_fr (Sl.below h.sl (bT hB (bT (b:=W) Bz))) (fun t k=>(h.fr t k).below (bT hB (bT (b:=W) Bz))) h.nil (Nat.le_refl _)) (hv.below (bT hB (bT (b:=W) Bz))) (Nat.le_refl _) hyn hq1 hK2 HM.out hM hcn (zt hT hB Bz)).mono ?_
  rintro e w1 ⟨s1,A1,c1,l1,s1r,A1r,c1r,l1r,rfl,h1,z1,b1⟩;replace b1:=zq (a:=W) b1;replace Bz:=bT Bz b1;clear b1;clear pa0 pa2 pa3 pa4 pa5;obtain⟨pa0,-,pa2,pa3,pa4,pa5,-⟩:=(zx HX0 Bz).cz;refine hK.out _ _ ⟨pa0,pa2,pa3,pa4,pa5⟩ (fun _=>?_);try simp only[uW,uX,uY,uZ]
  clear hK K;refine zC 12 rfl rfl (fun K hK=>?_);go_simp
  with_reducible refine(cmp_q ((RN.below h1).r' z1) (FrOk.below h.b (bT hB (bT (b:=w1) Bz))).r zo z HZ).mono ?_
  rintro e w2 ⟨rfl,b2⟩;replace b2:=zq (a:=w1) b2;replace Bz:=bT Bz b2;clear b2;clear pa0 pa2 pa3 pa4 pa5;obtain⟨pa0,pa1,pa2,pa3,pa4,pa5,-⟩:=(zx HX0 Bz).cz;refine hK.out _ _ ⟨pa0,pa2,pa3,pa4,pa5⟩ (fun _=>?_);try simp only[uW,uX,uY,uZ]
  clear hK K;refine zUa ?_;try simp only[uW,uX,uY,uZ]
  refine wpPlan_done ?_;go_wp2_with fail
  go_ret
  have hF:=bT (c:=w2) hB Bz;exact⟨rfl,bT hF⟩
 by_cases k2:x.kind=2
 ·have g1:(x.kind==1)=false:=by simp[k2]
  have g2:(x.kind==2)=true:=by simp[k2]
  obtain rfl:t=(z==0):=by rw[←ht.out];unfold holdsQ;rw[HZ.out];simp[k2]
  clear k1 k2;obtain⟨W,hW,x0,hB⟩:=zAa w #[.slice x.A x.n x.c,.int .u8 x.kind,.bool x.b.s,.slice x.b.A x.b.l x.b.c,.bool x.b.s',.slice x.b.A' x.b.l' x.b.c'] 35;have HX0:=zh x0;clear x0;have Bz:=zr W;obtain⟨pa0,-,pa2,pa3,pa4,pa5,-⟩:=(zx HX0 Bz).cz;go_enter Tryz.func80,Tryz.ntmps80
  go_wp2_with fail
  rw[←hW];clear hW;go_wp2_with fail
  (try simp only[vAa,vBa,vC])
  refine zl (zz [0,1,2,4,5] (.only 3 (.only 6 (.take 7 .done)))) [] (zsa pa0 (zsa pa2 (zsa pa3 (zsa pa4 (zIa pa5))))) ?_;iterate 5 (refine zUa ?_;try simp only[uW,uX,uY,uZ])
  refine zC 9 rfl rfl (fun K hK=>?_);go_simp
  with_reducible refine(dotW (x.n*(m+2)) M x.n KK (gv_fr (Sl.below h.sl (bT hB (bT (b:=W) Bz))) (fun t k=>(h.fr t k).below (bT hB (bT (b:=W) Bz))) h.nil (Nat.le_refl _)) (hv.below (bT hB (bT (b:=W) Bz))) (Nat.le_refl _) hyn hq1 hK2 HM.out hM hcn (zt hT hB Bz)).mono ?_
  rintro e w1 ⟨s1,A1,c1,l1,s1r,A1r,c1r,l1r,rfl,h1,z1,b1⟩;replace b1:=zq (a:=W) b1;replace Bz:=bT Bz b1;clear b1;clear pa0 pa2 pa3 pa4 pa5;obtain⟨pa0,-,pa2,pa3,pa4,pa5,-⟩:=(zx HX0 Bz).cz;refine hK.out _ _ ⟨pa0,pa2,pa3,pa4,pa5⟩ (fun _=>?_);try simp only[uW,uX,uY,uZ]
  clear hK K;refine zC 12 rfl rfl (fun K hK=>?_);go_simp
  with_reducible refine(cmp_q ((RN.below h1).r' z1) (FrOk.below h.b (bT hB (bT (b:=w1) Bz))).r zo z HZ).mono ?_
  rintro e w2 ⟨rfl,b2⟩;replace b2:=zq (a:=w1) b2;replace Bz:=bT Bz b2;clear b2;clear pa0 pa2 pa3 pa4 pa5;obtain⟨pa0,pa1,pa2,pa3,pa4,pa5,-⟩:=(zx HX0 Bz).cz;refine hK.out _ _ ⟨pa0,pa2,pa3,pa4,pa5⟩ (fun _=>?_);try simp only[uW,uX,uY,uZ]
  clear hK K;refine zUa ?_;try simp only[uW,uX,uY,uZ]
  refine wpPlan_done ?_;go_wp2_with fail
  go_ret
  have hF:=bT (c:=w2) hB Bz;exact⟨rfl,bT hF⟩
 by_cases k3:x.kind=3
 ·have g1:(x.kind==1)=false:=by simp[k3]
  have g2:(x.kind==2)=false:=by simp[k3]
  have g3:(x.kind==3)=true:=by simp[k3]
  obtain rfl:t=decide (0≤z):=by rw[←ht.out];unfold holdsQ;rw[HZ.out];simp[k3]
  clear k1 k2 k3;obtain⟨W,hW,x0,hB⟩:=zAa w #[.slice x.A x.n x.c,.int .u8 x.kind,.bool x.b.s,.slice x.b.A x.b.l x.b.c,.bool x.b.s',.slice x.b.A' x.b.l' x.b.c'] 35;have HX0:=zh x0;clear x0;have Bz:=zr W;obtain⟨pa0,-,pa2,pa3,pa4,pa5,-⟩:=(zx HX0 Bz).cz;go_enter Tryz.func80,Tryz.ntmps80
  go_wp2_with fail
  rw[←hW];clear hW;go_wp2_with fail
  (try simp only[vAa,vBa,vC])
  refine zl (zz [0,1,2,4,5] (.only 3 (.only 6 (.take 7 .done)))) [] (zsa pa0 (zsa pa2 (zsa pa3 (zsa pa4 (zIa pa5))))) ?_;iterate 5 (refine zUa ?_;try simp only[uW,uX,uY,uZ])
  refine zC 9 rfl rfl (fun K hK=>?_);go_simp
  with_reducible refine(dotW (x.n*(m+2)) M x.n KK (gv_fr (Sl.below h.sl (bT hB (bT (b:=W) Bz))) (fun t k=>(h.fr t k).below (bT hB (bT (b:=W) Bz))) h.nil (Nat.le_refl _)) (hv.below (bT hB (bT (b:=W) Bz))) (Nat.le_refl _) hyn hq1 hK2 HM.out hM hcn (zt hT hB Bz)).mono ?_
  rintro e w1 ⟨s1,A1,c1,l1,s1r,A1r,c1r,l1r,rfl,h1,z1,b1⟩;replace b1:=zq (a:=W) b1;replace Bz:=bT Bz b1;clear b1;clear pa0 pa2 pa3 pa4 pa5;obtain⟨pa0,-,pa2,pa3,pa4,pa5,-⟩:=(zx HX0 Bz).cz;refine hK.out _ _ ⟨pa0,pa2,pa3,pa4,pa5⟩ (fun _=>?_);try simp only[uW,uX,uY,uZ]
  clear hK K;refine zC 12 rfl rfl (fun K hK=>?_);go_simp
  with_reducible refine(cmp_q ((RN.below h1).r' z1) (FrOk.below h.b (bT hB (bT (b:=w1) Bz))).r zo z HZ).mono ?_
  rintro e w2 ⟨rfl,b2⟩;replace b2:=zq (a:=w1) b2;replace Bz:=bT Bz b2;clear b2;clear pa0 pa2 pa3 pa4 pa5;obtain⟨pa0,pa1,pa2,pa3,pa4,pa5,-⟩:=(zx HX0 Bz).cz;refine hK.out _ _ ⟨pa0,pa2,pa3,pa4,pa5⟩ (fun _=>?_);try simp only[uW,uX,uY,uZ]
  clear hK K;refine zUa ?_;try simp only[uW,uX,uY,uZ]
  refine wpPlan_done ?_;go_wp2_with fail
  go_ret
  have hF:=bT (c:=w2) hB Bz;exact⟨rfl,bT hF⟩
 ·have g1:(x.kind==1)=false:=by simp[k1]
  have g2:(x.kind==2)=false:=by simp[k2]
  have g3:(x.kind==3)=false:=by simp[k3]
  obtain rfl:t=true:=by rw[←ht.out];unfold holdsQ;rw[HZ.out];simp[k1,k2,k3]
  clear k1 k2 k3;obtain⟨W,hW,x0,hB⟩:=zAa w #[.slice x.A x.n x.c,.int .u8 x.kind,.bool x.b.s,.slice x.b.A x.b.l x.b.c,.bool x.b.s',.slice x.b.A' x.b.l' x.b.c'] 35;have HX0:=zh x0;clear x0;have Bz:=zr W;obtain⟨pa0,-,pa2,pa3,pa4,pa5,-⟩:=(zx HX0 Bz).cz;go_enter Tryz.func80,Tryz.ntmps80
  go_wp2_with fail
  rw[←hW];clear hW;go_wp2_with fail
  (try simp only[vAa,vBa,vC])
  refine zl (zz [0,1,2,4,5] (.only 3 (.only 6 (.take 7 .done)))) [] (zsa pa0 (zsa pa2 (zsa pa3 (zsa pa4 (zIa pa5))))) ?_;iterate 5 (refine zUa ?_;try simp only[uW,uX,uY,uZ])
  refine zC 9 rfl rfl (fun K hK=>?_);go_simp
  with_reducible refine(dotW (x.n*(m+2)) M x.n KK (gv_fr (Sl.below h.sl (bT hB (bT (b:=W) Bz))) (fun t k=>(h.fr t k).below (bT hB (bT (b:=W) Bz))) h.nil (Nat.le_refl _)) (hv.below (bT hB (bT (b:=W) Bz))) (Nat.le_refl _) hyn hq1 hK2 HM.out hM hcn (zt hT hB Bz)).mono ?_
  rintro e w1 ⟨s1,A1,c1,l1,s1r,A1r,c1r,l1r,rfl,h1,z1,b1⟩;replace b1:=zq (a:=W) b1;replace Bz:=bT Bz b1;clear b1;clear pa0 pa2 pa3 pa4 pa5;obtain⟨pa0,-,pa2,pa3,pa4,pa5,-⟩:=(zx HX0 Bz).cz;refine hK.out _ _ ⟨pa0,pa2,pa3,pa4,pa5⟩ (fun _=>?_);try simp only[uW,uX,uY,uZ]
  clear hK K;refine zC 12 rfl rfl (fun K hK=>?_);go_simp
  with_reducible refine(cmp_q ((RN.below h1).r' z1) (FrOk.below h.b (bT hB (bT (b:=w1) Bz))).r zo z HZ).mono ?_
  rintro e w2 ⟨rfl,b2⟩;replace b2:=zq (a:=w1) b2;replace Bz:=bT Bz b2;clear b2;clear pa0 pa2 pa3 pa4 pa5;obtain⟨pa0,pa1,pa2,pa3,pa4,pa5,-⟩:=(zx HX0 Bz).cz;refine hK.out _ _ ⟨pa0,pa2,pa3,pa4,pa5⟩ (fun _=>?_);try simp only[uW,uX,uY,uZ]
  clear hK K;refine zUa ?_;try simp only[uW,uX,uY,uZ]
  refine wpPlan_done ?_;go_wp2_with fail
  go_ret
  have hF:=bT (c:=w2) hB Bz;exact⟨rfl,bT hF⟩
open Go.RowKit Tw
def zpn_0 : Oper := { dst := some 36, op := Op.fieldAddr 71 (Operand.tmp 9) 1, type := 0, pos := "program.go:91", after := #[], guard := none }
def zpn_1 : Oper := { dst := some 37, op := Op.load 33 (Operand.tmp 36), type := 33, pos := "program.go:91", after := #[{ on := 0, ground := Ground.data }], guard := none }
def zpn_2 : Oper := { dst := some 38, op := Op.fieldAddr 44 (Operand.tmp 10) 0, type := 0, pos := "program.go:91", after := #[], guard := none }
def zpn_3 : Oper := { dst := some 39, op := Op.load 33 (Operand.tmp 38), type := 33, pos := "program.go:91", after := #[{ on := 2, ground := Ground.data }], guard := none }
def zpn_4 : Oper := { dst := some 40, op := Op.call { callee := Callee.value (Operand.func 19), args := #[Operand.tmp 37, Operand.tmp 39], argTypes := #[33, 33] }, type := 33, pos := "program.go:91", after := #[{ on := 1, ground := Ground.data }, { on := 3, ground := Ground.data }], guard := none }
def zpn_5 : Oper := { dst := some 41, op := Op.fieldAddr 71 (Operand.tmp 9) 1, type := 0, pos := "program.go:91", after := #[], guard := none }
def zpn_6 : Oper := { dst := some 42, op := Op.load 33 (Operand.tmp 41), type := 33, pos := "program.go:91", after := #[{ on := 5, ground := Ground.data }], guard := none }
def zpn_7 : Oper := { dst := some 43, op := Op.fieldAddr 44 (Operand.tmp 10) 1, type := 0, pos := "program.go:91", after := #[], guard := none }
def zpn_8 : Oper := { dst := some 44, op := Op.load 33 (Operand.tmp 43), type := 33, pos := "program.go:91", after := #[{ on := 7, ground := Ground.data }], guard := none }
def zpn_9 : Oper := { dst := some 45, op := Op.call { callee := Callee.value (Operand.func 19), args := #[Operand.tmp 42, Operand.tmp 44], argTypes := #[33, 33] }, type := 33, pos := "program.go:91", after := #[{ on := 6, ground := Ground.data }, { on := 8, ground := Ground.data }, { on := 4, ground := Ground.chain }], guard := none }
def zpn_10 : Oper := { dst := some 11, op := Op.alloc 33, type := 0, pos := "program.go:91", after := #[], guard := none }
def zpn_11 : Oper := { dst := some 12, op := Op.alloc 33, type := 0, pos := "program.go:91", after := #[], guard := none }
def zpn_12 : Oper := { dst := none, op := Op.store 33 (Operand.tmp 11) (Operand.tmp 40), type := 0, pos := "program.go:91", after := #[{ on := 10, ground := Ground.data }, { on := 4, ground := Ground.data }, { on := 9, ground := Ground.chain }, { on := 0, ground := Ground.phase }, { on := 1, ground := Ground.phase }, { on := 2, ground := Ground.phase }, { on := 3, ground := Ground.phase }, { on := 4, ground := Ground.phase }, { on := 5, ground := Ground.textOnly Departure.lateStores }, { on := 6, ground := Ground.textOnly Departure.lateStores }, { on := 7, ground := Ground.textOnly Departure.lateStores }, { on := 8, ground := Ground.textOnly Departure.lateStores }, { on := 9, ground := Ground.textOnly Departure.lateStoresUnsure }, { on := 10, ground := Ground.phase }, { on := 11, ground := Ground.phase }], guard := none }
def zpn_13 : Oper := { dst := none, op := Op.store 33 (Operand.tmp 12) (Operand.tmp 45), type := 0, pos := "program.go:91", after := #[{ on := 11, ground := Ground.data }, { on := 9, ground := Ground.data }, { on := 12, ground := Ground.chain }, { on := 0, ground := Ground.phase }, { on := 1, ground := Ground.phase }, { on := 2, ground := Ground.phase }, { on := 3, ground := Ground.phase }, { on := 4, ground := Ground.phase }, { on := 5, ground := Ground.phase }, { on := 6, ground := Ground.phase }, { on := 7, ground := Ground.phase }, { on := 8, ground := Ground.phase }, { on := 9, ground := Ground.phase }, { on := 10, ground := Ground.phase }, { on := 11, ground := Ground.phase }, { on := 12, ground := Ground.phase }], guard := none }
def zpn:List Oper:=[zpn_0,zpn_1,zpn_2,zpn_3,zpn_4,zpn_5,zpn_6,zpn_7,zpn_8,zpn_9,zpn_10,zpn_11,zpn_12,zpn_13]
def zpnX (b9 b10:Nat) (x:Tm) (y:Vr):Nat→Value→World→Prop
 | 0,v,_=>v=.pointer (some ⟨b9,1,none⟩)
 | 1,v,_=>v=.agg #[.bool x.x.s,.slice x.x.A x.x.l x.x.c,.bool x.x.s',.slice x.x.A' x.x.l' x.x.c']
 | 2,v,_=>v=.pointer (some ⟨b10,0,none⟩)
 | 3,v,_=>v=.agg #[.bool y.lo.s,.slice y.lo.A y.lo.l y.lo.c,.bool y.lo.s',.slice y.lo.A' y.lo.l' y.lo.c']
 | 4,v,w=>∃s A c l s' A' c' l',v=.agg #[.bool s,.slice A l c,.bool s',.slice A' l' c']∧RN w s A c l s' A' c' l' (x.x.q*y.lo.q)
 | 5,v,_=>v=.pointer (some ⟨b9,1,none⟩)
 | 6,v,_=>v=.agg #[.bool x.x.s,.slice x.x.A x.x.l x.x.c,.bool x.x.s',.slice x.x.A' x.x.l' x.x.c']
 | 7,v,_=>v=.pointer (some ⟨b10,4,none⟩)
 | 8,v,_=>v=.agg #[.bool y.hi.s,.slice y.hi.A y.hi.l y.hi.c,.bool y.hi.s',.slice y.hi.A' y.hi.l' y.hi.c']
 | 9,v,w=>∃s A c l s' A' c' l',v=.agg #[.bool s,.slice A l c,.bool s',.slice A' l' c']∧RN w s A c l s' A' c' l' (x.x.q*y.hi.q)
 | 10,v,w=>∃b,v=.pointer (some ⟨b,0,none⟩)∧Bx w b #[.bool false,.slice none 0 0,.bool false,.slice none 0 0] 33
 | 11,v,w=>∃b,v=.pointer (some ⟨b,0,none⟩)∧Bx w b #[.bool false,.slice none 0 0,.bool false,.slice none 0 0] 33
 | _,_,_=>True
theorem zpnX_stays {b9 b10:Nat} {x:Tm} {y:Vr}:∀i v w w',zpnX b9 b10 x y i v w→Below w.heap.size w w'→zpnX b9 b10 x y i v w'
 | 0,_,_,_,h,_=>h
 | 1,_,_,_,h,_=>h
 | 2,_,_,_,h,_=>h
 | 3,_,_,_,h,_=>h
 | 4,_,_,_,⟨s,A,c,l,s',A',c',l',h1,h2⟩,hb=>⟨s,A,c,l,s',A',c',l',h1,h2.below hb⟩
 | 5,_,_,_,h,_=>h
 | 6,_,_,_,h,_=>h
 | 7,_,_,_,h,_=>h
 | 8,_,_,_,h,_=>h
 | 9,_,_,_,⟨s,A,c,l,s',A',c',l',h1,h2⟩,hb=>⟨s,A,c,l,s',A',c',l',h1,h2.below hb⟩
 | 10,_,_,_,⟨b,h1,h2⟩,hb=>⟨b,h1,h2.below hb⟩
 | 11,_,_,_,⟨b,h1,h2⟩,hb=>⟨b,h1,h2.below hb⟩
 | _+12,_,_,_,_,_=>trivial
theorem span7 {w:World} {a:Act} {Q:Exit→Act→World→Prop} {b9 b10 m:Nat} {x:Tm} {y:Vr} (hs:46≤a.tmps.size) (h9:a.eval (.tmp 9)=.pointer (some ⟨b9,0,none⟩)) (h10:a.eval (.tmp 10)=.pointer (some ⟨b10,0,none⟩))
  (x9:Bx w b9 #[.int .i64 x.at_,.bool x.x.s,.slice x.x.A x.x.l x.x.c,.bool x.x.s',.slice x.x.A' x.x.l' x.x.c'] 71) (x10:Bx w b10 #[.bool y.lo.s,.slice y.lo.A y.lo.l y.lo.c,.bool y.lo.s',.slice y.lo.A' y.lo.l' y.lo.c',.bool y.hi.s,.slice y.hi.A y.hi.l y.hi.c,.bool y.hi.s',.slice y.hi.A' y.hi.l' y.hi.c',.bool y.int] 44) (fx:FrOk w m x.x) (fy:VrOk w m y) (hm:m≤20000000000) (hT:Hid (Tab w))
  (hQ:∀(x36 x37 x38 x39 x40 x41 x42 x43 x44 x45:Value) (b11 b12:Nat) (W:World) s A c l s' A' c' l' t B k e t' B' k' e',w.heap.size≤b11→w.heap.size≤b12→b11≠b12→Bx W b11 #[.bool s,.slice A l c,.bool s',.slice A' l' c'] 33→RN W s A c l s' A' c' l' (x.x.q*y.lo.q)→
   Bx W b12 #[.bool t,.slice B e k,.bool t',.slice B' e' k'] 33→RN W t B k e t' B' k' e' (x.x.q*y.hi.q)→Below w.heap.size w W→Q .normal ((((((((((((a.put (some 36) x36).put (some 37) x37).put (some 38) x38).put (some 39) x39).put (some 40) x40).put (some 41) x41).put (some 42) x42).put (some 43) x43).put (some 44) x44).put (some 45) x45).put (some 11) (.pointer (some ⟨b11,0,none⟩))).put (some 12) (.pointer (some ⟨b12,0,none⟩))) W) :
  (Code.region 7 zpn.toArray true).wp Tryz.prog Q a w:=by
 have z0:Below w.heap.size w w.drew:=by go_grown
 have H9:=x9.below z0;have H10:=x10.below z0;have hx:=fx.below z0;have hlo:=fy.lof.below z0;have hhi:=fy.hif.below z0;refine Reg.wp_region_inv 12 46 (zpnX b9 b10 x y) [10,11] (.only 12 (.only 13 .done)) [12,13] (fun _=>True) rfl (by decide +kernel) hs zpnX_stays ?_ ?_
 ·intro i o a' w' hi ho hI;match i,hi,ho with
  | 0,_,ho =>
   obtain rfl:zpn_0=o:=Option.some.inj ho;have e:=(hI.at 9 (by decide +kernel)).trans h9;refine Reg.op_val (v:=.pointer (some ⟨b9,1,none⟩)) (W:=w') ?_ ⟨_,rfl,rfl,Below.refl _ _,fun h=>absurd h zda⟩;simp only[zpn_0,execOp,e]
   go_simp<;>with_reducible rfl
  | 1,_,ho =>
   obtain rfl:zpn_1=o:=Option.some.inj ho;have d0:=hI.done 0 zpn_0 36 zo rfl rfl (Reg.dep (by decide +kernel));change Act.eval a' (.tmp 36)=_ at d0
   have p0:=(H9.below hI.below).cell 1 (.bool x.x.s) rfl;have p1:=(H9.below hI.below).cell 2 (.slice x.x.A x.x.l x.x.c) rfl;have p2:=(H9.below hI.below).cell 3 (.bool x.x.s') rfl;have p3:=(H9.below hI.below).cell 4 (.slice x.x.A' x.x.l' x.x.c') rfl;refine Reg.op_val (v:=.agg #[.bool x.x.s,.slice x.x.A x.x.l x.x.c,.bool x.x.s',.slice x.x.A' x.x.l' x.x.c']) (W:=w') ?_ ⟨_,rfl,rfl,Below.refl _ _,fun h=>absurd h zda⟩;simp only[zpn_1,execOp,d0]
   go_simp<;>with_reducible rfl
  | 2,_,ho =>
   obtain rfl:zpn_2=o:=Option.some.inj ho;have e:=(hI.at 10 (by decide +kernel)).trans h10;refine Reg.op_val (v:=.pointer (some ⟨b10,0,none⟩)) (W:=w') ?_ ⟨_,rfl,rfl,Below.refl _ _,fun h=>absurd h zda⟩;simp only[zpn_2,execOp,e]
   go_simp<;>with_reducible rfl
  | 3,_,ho =>
   obtain rfl:zpn_3=o:=Option.some.inj ho;have d2:=hI.done 2 zpn_2 38 zo rfl rfl (Reg.dep (by decide +kernel));change Act.eval a' (.tmp 38)=_ at d2
   have p0:=(H10.below hI.below).cell 0 (.bool y.lo.s) rfl;have p1:=(H10.below hI.below).cell 1 (.slice y.lo.A y.lo.l y.lo.c) rfl;have p2:=(H10.below hI.below).cell 2 (.bool y.lo.s') rfl;have p3:=(H10.below hI.below).cell 3 (.slice y.lo.A' y.lo.l' y.lo.c') rfl;refine Reg.op_val (v:=.agg #[.bool y.lo.s,.slice y.lo.A y.lo.l y.lo.c,.bool y.lo.s',.slice y.lo.A' y.lo.l' y.lo.c']) (W:=w') ?_ ⟨_,rfl,rfl,Below.refl _ _,fun h=>absurd h zda⟩;simp only[zpn_3,execOp,d2]
   go_simp<;>with_reducible rfl
  | 4,_,ho =>
   obtain rfl:zpn_4=o:=Option.some.inj ho;have d1:=hI.done 1 zpn_1 37 zo rfl rfl (Reg.dep (by decide +kernel));change Act.eval a' (.tmp 37)=_ at d1
   have d3:=hI.done 3 zpn_3 39 zo rfl rfl (Reg.dep (by decide +kernel));change Act.eval a' (.tmp 39)=_ at d3
   refine Reg.op_call (f:=19) (args:=#[a'.eval (.tmp 37),a'.eval (.tmp 39)]) ?_ (by rw[d1,d3];exact mul_q (hx.r.below hI.below) (hlo.r.below hI.below) zo (zh (hT.out.below (bT z0 hI.below)))) ?_
   ·simp only[zpn_4,execOp]
    go_simp<;>with_reducible rfl
   ·intro e w2 h;obtain⟨s,A,c,l,s',A',c',l',rfl,hr,hb⟩:=h;exact⟨_,rfl,_,rfl,⟨s,A,c,l,s',A',c',l',rfl,hr⟩,hb,fun h=>absurd h zda⟩
  | 5,_,ho =>
   obtain rfl:zpn_5=o:=Option.some.inj ho;have e:=(hI.at 9 (by decide +kernel)).trans h9;refine Reg.op_val (v:=.pointer (some ⟨b9,1,none⟩)) (W:=w') ?_ ⟨_,rfl,rfl,Below.refl _ _,fun h=>absurd h zda⟩;simp only[zpn_5,execOp,e]
   go_simp<;>with_reducible rfl
  | 6,_,ho =>
   obtain rfl:zpn_6=o:=Option.some.inj ho;have d5:=hI.done 5 zpn_5 41 zo rfl rfl (Reg.dep (by decide +kernel));change Act.eval a' (.tmp 41)=_ at d5
   have p0:=(H9.below hI.below).cell 1 (.bool x.x.s) rfl;have p1:=(H9.below hI.below).cell 2 (.slice x.x.A x.x.l x.x.c) rfl;have p2:=(H9.below hI.below).cell 3 (.bool x.x.s') rfl;have p3:=(H9.below hI.below).cell 4 (.slice x.x.A' x.x.l' x.x.c') rfl;refine Reg.op_val (v:=.agg #[.bool x.x.s,.slice x.x.A x.x.l x.x.c,.bool x.x.s',.slice x.x.A' x.x.l' x.x.c']) (W:=w') ?_ ⟨_,rfl,rfl,Below.refl _ _,fun h=>absurd h zda⟩;simp only[zpn_6,execOp,d5]
   go_simp<;>with_reducible rfl
  | 7,_,ho =>
   obtain rfl:zpn_7=o:=Option.some.inj ho;have e:=(hI.at 10 (by decide +kernel)).trans h10;refine Reg.op_val (v:=.pointer (some ⟨b10,4,none⟩)) (W:=w') ?_ ⟨_,rfl,rfl,Below.refl _ _,fun h=>absurd h zda⟩;simp only[zpn_7,execOp,e]
   go_simp<;>with_reducible rfl
  | 8,_,ho =>
   obtain rfl:zpn_8=o:=Option.some.inj ho;have d7:=hI.done 7 zpn_7 43 zo rfl rfl (Reg.dep (by decide +kernel));change Act.eval a' (.tmp 43)=_ at d7
   have p0:=(H10.below hI.below).cell 4 (.bool y.hi.s) rfl;have p1:=(H10.below hI.below).cell 5 (.slice y.hi.A y.hi.l y.hi.c) rfl;have p2:=(H10.below hI.below).cell 6 (.bool y.hi.s') rfl;have p3:=(H10.below hI.below).cell 7 (.slice y.hi.A' y.hi.l' y.hi.c') rfl;refine Reg.op_val (v:=.agg #[.bool y.hi.s,.slice y.hi.A y.hi.l y.hi.c,.bool y.hi.s',.slice y.hi.A' y.hi.l' y.hi.c']) (W:=w') ?_ ⟨_,rfl,rfl,Below.refl _ _,fun h=>absurd h zda⟩;simp only[zpn_8,execOp,d7]
   go_simp<;>with_reducible rfl
  | 9,_,ho =>
   obtain rfl:zpn_9=o:=Option.some.inj ho;have d6:=hI.done 6 zpn_6 42 zo rfl rfl (Reg.dep (by decide +kernel));change Act.eval a' (.tmp 42)=_ at d6
   have d8:=hI.done 8 zpn_8 44 zo rfl rfl (Reg.dep (by decide +kernel));change Act.eval a' (.tmp 44)=_ at d8
   refine Reg.op_call (f:=19) (args:=#[a'.eval (.tmp 42),a'.eval (.tmp 44)]) ?_ (by rw[d6,d8];exact mul_q (hx.r.below hI.below) (hhi.r.below hI.below) zo (zh (hT.out.below (bT z0 hI.below)))) ?_
   ·simp only[zpn_9,execOp]
    go_simp<;>with_reducible rfl
   ·intro e w2 h;obtain⟨s,A,c,l,s',A',c',l',rfl,hr,hb⟩:=h;exact⟨_,rfl,_,rfl,⟨s,A,c,l,s',A',c',l',rfl,hr⟩,hb,fun h=>absurd h zda⟩
  | 10,_,ho =>
   obtain rfl:zpn_10=o:=Option.some.inj ho;obtain⟨W,hW,x,hN⟩:=zAa w' #[.bool false,.slice none 0 0,.bool false,.slice none 0 0] 33;refine Reg.op_val (v:=.pointer (some ⟨w'.heap.size,0,none⟩)) (W:=W) ?_ ⟨_,rfl,⟨_,rfl,x⟩,hN,fun _=>⟨Nat.le_refl _,x.lt⟩⟩;rw[hW];simp only[zpn_10,execOp]
   go_simp<;>with_reducible rfl
  | 11,_,ho =>
   obtain rfl:zpn_11=o:=Option.some.inj ho;obtain⟨W,hW,x,hN⟩:=zAa w' #[.bool false,.slice none 0 0,.bool false,.slice none 0 0] 33;refine Reg.op_val (v:=.pointer (some ⟨w'.heap.size,0,none⟩)) (W:=W) ?_ ⟨_,rfl,⟨_,rfl,x⟩,hN,fun _=>⟨Nat.le_refl _,x.lt⟩⟩;rw[hW];simp only[zpn_11,execOp]
   go_simp<;>with_reducible rfl
  | k+12,hi,_=>exact absurd hi zo
 ·intro a' w' hI;refine⟨trivial,?_⟩;have d4:=hI.done 4 zpn_4 40 zo rfl rfl trivial;have d9:=hI.done 9 zpn_9 45 zo rfl rfl trivial;have d10:=hI.done 10 zpn_10 11 zo rfl rfl trivial;have d11:=hI.done 11 zpn_11 12 zo rfl rfl trivial;obtain⟨s,A,c,l,s',A',c',l',e4,r4⟩:=d4;obtain⟨t,B,k,e,t',B',k',e',e9,r9⟩:=d9;obtain⟨b11,e11,y11⟩:=d10;obtain⟨b12,e12,y12⟩:=d11;have l11:=hI.lt 10 zpn_10 11 zo rfl rfl trivial zda;have l12:=hI.lt 11 zpn_11 12 zo rfl rfl trivial zda;have ap:=hI.apart 10 11 zpn_10 zpn_11 11 12 zo zo rfl rfl rfl rfl trivial trivial zda zda zda;rw[e11] at l11;rw[e12] at l12;rw[e11,e12] at ap;change w.drew.heap.size≤b11∧b11<w'.heap.size at l11
  change w.drew.heap.size≤b12∧b12<w'.heap.size at l12
  change b11≠b12 at ap
  have zs:=z0.size;have hp:=hI.puts [36,37,38,39,40,41,42,43,44,45,11,12] (by decide +kernel);obtain⟨W1,hW1,x1,k1,f1,g1⟩:=store4 (.bool s) (.slice A l c) (.bool s') (.slice A' l' c') y11 nofun nofun nofun nofun;obtain⟨W2,hW2,x2,k2,f2,g2⟩:=store4 (.bool t) (.slice B e k) (.bool t') (.slice B' e' k') (f1 _ _ _ (fun e=>ap e.symm) y12) nofun nofun nofun nofun;have y12':=f1 _ _ _ (fun e=>ap e.symm) y12;refine P3.wpPlan_late (o:=zpn_12) rfl rfl zda ?_;intro K hK;refine Reg.op_skip (W:=W1) ?_ (hK.out _ _ ?_)
  ·simp only[zpn_12,execOp,e11,e4]
   rw[hW1];have p0:=y11.cell 0 (.bool false) rfl;have p1:=y11.cell 1 (.slice none 0 0) rfl;have p2:=y11.cell 2 (.bool false) rfl;have p3:=y11.cell 3 (.slice none 0 0) rfl;have q0:=y11.frozen 0;have q1:=y11.frozen 1;have q2:=y11.frozen 2;have q3:=y11.frozen 3;have yl:=y11.lt;go_simp<;>with_reducible rfl
  clear hK K hW1;change P3.wpPlan _ _ _ _ _ _ a' W1
  refine P3.wpPlan_late (o:=zpn_13) rfl rfl zda ?_;intro K hK;refine Reg.op_skip (W:=W2) ?_ (hK.out _ _ ?_)
  ·simp only[zpn_13,execOp,e12,e9]
   rw[hW2];have p0:=y12'.cell 0 (.bool false) rfl;have p1:=y12'.cell 1 (.slice none 0 0) rfl;have p2:=y12'.cell 2 (.bool false) rfl;have p3:=y12'.cell 3 (.slice none 0 0) rfl;have q0:=y12'.frozen 0;have q1:=y12'.frozen 1;have q2:=y12'.frozen 2;have q3:=y12'.frozen 3;have yl:=y12'.lt;go_simp<;>with_reducible rfl
  clear hK K;change P3.wpPlan _ _ _ _ _ _ a' W2
  refine P3.wpPlan_done ?_;rw[hp];simp only[List.foldl]
  rw[e11,e12];have hB:=bT z0 hI.below;exact hQ _ _ _ _ _ _ _ _ _ _ b11 b12 W2 _ _ _ _ _ _ _ _ _ _ _ _ _ _ _ _ zo zo ap (f2 _ _ _ ap x1) ((r4.k k1).k k2) x2 ((r9.k k1).k k2) (g2 _ _ zo (g1 _ _ zo hB))
open Go.RowKit Tw
def spT (f:Rat→Rat→Rat) (B:List (Rat×Rat)) (t:Int×Rat):Rat :=
 if t.1<0 then 0 else match B[t.1.toNat]? with
  | none=>0
  | some b=>f (t.2*b.1) (t.2*b.2)
def spS (f:Rat→Rat→Rat) (B:List (Rat×Rat)) (P:List (Int×Rat)):Rat:=P.foldl (fun s t=>s+spT f B t) 0
def bnds (V:List Vr):List (Rat×Rat):=V.map fun y=>(y.lo.q,y.hi.q)
theorem spS_snoc (f:Rat→Rat→Rat) (B:List (Rat×Rat)) (P:List (Int×Rat)) (t:Int×Rat):spS f B (P++[t])=spS f B P+spT f B t:=by
 unfold spS
 rw[List.foldl_append];rfl
theorem spS_take {f:Rat→Rat→Rat} {B:List (Rat×Rat)} {L:List Tm} {i:Nat} {x:Tm} (h:L[i]?=some x):spS f B (prs (L.take (i+1)))=spS f B (prs (L.take i))+spT f B (x.at_,x.x.q):=by
 rw[take_snoc h,prs_append];exact spS_snoc f B _ _
theorem spT_neg {f:Rat→Rat→Rat} {B:List (Rat×Rat)} {a:Int} {q:Rat} (h:a<0):spT f B (a,q)=0:=by unfold spT;rw[if_pos h]
theorem spT_high {f:Rat→Rat→Rat} {V:List Vr} {a:Int} {q:Rat} (h:(V.length:Int)≤a):spT f (bnds V) (a,q)=0:=by
 unfold spT
 rw[if_neg (by show ¬a<0;omega)];have:(bnds V)[a.toNat]?=none:=List.getElem?_eq_none (by unfold bnds;rw[List.length_map];omega);rw[this]
theorem spT_at {f:Rat→Rat→Rat} {V:List Vr} {a:Int} {q:Rat} {y:Vr} (h:¬a<0) (hy:V[a.toNat]?=some y):spT f (bnds V) (a,q)=f (q*y.lo.q) (q*y.hi.q):=by
 unfold spT
 rw[if_neg h];have:(bnds V)[a.toNat]?=some (y.lo.q,y.hi.q):=by unfold bnds;rw[List.getElem?_map,hy];rfl
 rw[this]
theorem sz_minQ {q r:Rat} {K:Nat} (h:sz q≤K) (h':sz r≤K):sz (minQ q r)≤K:=by
 unfold minQ
 split<;>assumption
theorem sz_maxQ {q r:Rat} {K:Nat} (h:sz q≤K) (h':sz r≤K):sz (maxQ q r)≤K:=by
 unfold maxQ
 split<;>assumption
def NumIs (w:World) (u:Fr) (q:Rat) (K:Nat):Prop:=RN w u.s u.A u.c u.l u.s' u.A' u.c' u.l' q∧sz q≤K
theorem NumIs.below {w w':World} {u:Fr} {q:Rat} {K:Nat} (h:NumIs w u q K) (hb:Below w.heap.size w w':=by go_grown):NumIs w' u q K:=⟨h.1.below hb,h.2⟩
theorem NumIs.rr {w:World} {u:Fr} {q:Rat} {K:Nat} (h:NumIs w u q K):R w u.s u.A u.c u.l u.s' u.A' u.c' u.l' q K:=h.1.r' h.2
theorem NumIs.k {w w':World} {u:Fr} {q:Rat} {K:Nat} (h:NumIs w u q K) (hb:K64 w w'):NumIs w' u q K:=⟨h.1.k hb,h.2⟩
def SPN (W:World) (v6 v7:Nat) (B:List (Rat×Rat)) (L:List Tm) (n m gk:Nat) (s:Value) (wr:World):Prop :=
 ∃(i:Nat) (u v:Fr),i≤n∧n-i=gk∧s=.int .i64 (i:Int)∧Bx wr v6 #[.bool u.s,.slice u.A u.l u.c,.bool u.s',.slice u.A' u.l' u.c'] 33∧Bx wr v7 #[.bool v.s,.slice v.A v.l v.c,.bool v.s',.slice v.A' v.l' v.c'] 33∧
  NumIs wr u (spS minQ B (prs (L.take i))) (1+i*(2*m+4))∧NumIs wr v (spS maxQ B (prs (L.take i))) (1+i*(2*m+4))∧Below W.heap.size W wr
def TellsQQ (w:World) (p q:Rat) (K:Nat) (e:Ending) (w':World):Prop:=∃u v:Fr,e=.returned (.tuple #[.agg #[.bool u.s,.slice u.A u.l u.c,.bool u.s',.slice u.A' u.l' u.c'],.agg #[.bool v.s,.slice v.A v.l v.c,.bool v.s',.slice v.A' v.l' v.c']])∧NumIs w' u p K∧NumIs w' v q K∧Below w.heap.size w w'
theorem span_r {w:World} {m:Nat} {vA rA cA A:Option Addr} {vn vc rn rc cn cc n c:Nat} {V:List Vr} {RR:List Rw} {C:List Tm} {L:List Tm} (h:PgOk w m ⟨vA,vn,vc,V,rA,rn,rc,RR,cA,cn,cc,C⟩) (hL:Sl Tm.cs 5 w A n c L) (hf:Hid (∀t∈L,FrOk w m t.x)) (hm:m≤1000000000) (hn:n≤2000000) (hK:Hid (1+n*(2*m+4)≤9000000000)) (hT:Hid (Tab w)) :
  Calls Tryz.prog 23 #[.agg #[.slice vA vn vc,.slice rA rn rc,.slice cA cn cc],.slice A n c] w (TellsQQ w (spS minQ (bnds V) (prs L)) (spS maxQ (bnds V) (prs L)) (1+n*(2*m+4))):=by
 have hvsl:Sl Vr.cs 9 w vA vn vc V:=h.vsl;have HVO:Hid (∀x∈V,VrOk w m x):=zh h.v;have HLN:=zh hL.1;have hvn:vn≤2000000:=h.lens.1;clear h;obtain⟨W,hW,x0,x1,x2,hB⟩:=boxes3 w #[.slice vA vn vc,.slice rA rn rc,.slice cA cn cc] 27 #[.bool false,.slice none 0 0,.bool false,.slice none 0 0] 33 #[.bool false,.slice none 0 0,.bool false,.slice none 0 0] 33;have HX0:=zh x0;have HX1:=zh x1;have HX2:=zh x2;clear x0 x1 x2;have Bz:=zr W;go_enter Tryz.func23,Tryz.ntmps23
 go_upto_region 1 with(fail)
 rw[←hW];clear hW;have HBW0:=zh hB;have HY0:=HX0;have HY1:=HX1;have HY2:=HX2;have hBW:=Below.refl W.heap.size W;go_upto_region 2 with(fail)
 obtain⟨V1,hW,x3,x4,hN⟩:=boxes2 W #[.bool false,.slice none 0 0,.bool false,.slice none 0 0] 33 #[.bool false,.slice none 0 0,.bool false,.slice none 0 0] 33;rw[←hW];clear hW;obtain⟨v4,hb4⟩:=ze (W.heap.size+1);rw[←hb4] at x4 ⊢;obtain⟨v3,hb3⟩:=ze W.heap.size;rw[←hb3] at x3 ⊢;have o0_3:w.heap.size<v3:=zi (zx HX0 Bz).lt;have o1_3:w.heap.size+1<v3:=zi (zx HX1 Bz).lt;have o2_3:w.heap.size+1+1<v3:=zi (zx HX2 Bz).lt;have ow_3:w.heap.size≤v3:=zi (zw hB Bz);have ow_3_hBW:W.heap.size≤v3:=zj hBW.size Bz.size;have o0_4:w.heap.size<v4:=zi (zx HX0 Bz).lt;have o1_4:w.heap.size+1<v4:=zi (zx HX1 Bz).lt;have o2_4:w.heap.size+1+1<v4:=zi (zx HX2 Bz).lt;have o3_4:v3<v4:=zo;have ow_4:w.heap.size≤v4:=zi (zw hB Bz);have ow_4_hBW:W.heap.size≤v4:=zj hBW.size Bz.size;replace hB:=bT (bT hB Bz) hN;replace hBW:=bT (bT hBW Bz) hN;replace HX0:=zba HX0 Bz hN;replace HX1:=zba HX1 Bz hN;replace HX2:=zba HX2 Bz hN;have HX3:=zh x3;have HX4:=zh x4;clear x3 x4 hN Bz hb3 hb4;have Bz:=zr V1;go_wp2_with fail
 have HST:Hid (SPN W v3 v4 (bnds V) L n m n (.int .i64 ((0:Nat):Int)) V1):=zh ⟨0,zFr,zFr,Nat.zero_le _,rfl,rfl,HX3.out.below Bz,HX4.out.below Bz,⟨(RN.zero _),Nat.le_trans sz_zero (Nat.le_add_right _ _)⟩,⟨(RN.zero _),Nat.le_trans sz_zero (Nat.le_add_right _ _)⟩,bT hBW Bz⟩;clear hB Bz HX3 HX4 HX0 HX1 HX2;go_loopg [15] n (fun gk s wr=>SPN W v3 v4 (bnds V) L n m gk s wr)
 case atStart=>exact HST.out
 case round =>
  clear HST;obtain⟨i,u,v,hi,hgk,rfl,x3,x4,hu,hv,hBW⟩:=hrel;have HGK:=zh hgk;have hB:=bT HBW0.out hBW;have HX0:=zh (HY0.out.below hBW);have HX1:=zh (HY1.out.below hBW);have HX2:=zh (HY2.out.below hBW);have HX3:=zh x3;have HX4:=zh x4;clear hgk x3 x4;by_cases hlt:i<n
  ·obtain⟨b,off,rfl,hel⟩:=hL.at Tm.cs_len zo zo;obtain⟨x,hxi⟩:∃x,L[i]?=some x:=⟨L[i]'(by rw[HLN.out];exact hlt),List.getElem?_eq_getElem _⟩;have HXF:=zh (hf.out x (List.mem_of_getElem? hxi));have hnd:=hel i x hxi;have HTI:=zh hxi;have HMU:Hid (1+(i+1)*(2*m+4)=1+i*(2*m+4)+(2*m+4)):=zh (by rw[Nat.add_mul,Nat.one_mul,Nat.add_assoc]);have hmu:1+i*(2*m+4)≤9000000000:=Nat.le_trans (Nat.add_le_add_left (Nat.mul_le_mul_right _ hi) 1) hK.out;have i1:(i:Int)<(n:Int):=zo;have i2:(0:Int)≤(i:Int):=zo;clear hel hxi;by_cases k1:x.at_<0
   ·have HT0:Hid (spT minQ (bnds V) (x.at_,x.x.q)=0):=zh (spT_neg k1);have HT1:Hid (spT maxQ (bnds V) (x.at_,x.x.q)=0):=zh (spT_neg k1);have Bz:=zr wr;obtain⟨pA0,pA1,pA2,pA3,pA4,-⟩:=(hnd.below (bT hB Bz)).ez;go_upto_region 5 with(fail)
    obtain⟨V11,hW,x5,hN⟩:=zAa wr #[.int .i64 x.at_,.bool x.x.s,.slice x.x.A x.x.l x.x.c,.bool x.x.s',.slice x.x.A' x.x.l' x.x.c'] 71;rw[←hW];clear hW;obtain⟨v5,hb5⟩:=ze wr.heap.size;rw[←hb5] at x5 ⊢;have o0_5:w.heap.size<v5:=zi (zx HX0 Bz).lt;have o1_5:w.heap.size+1<v5:=zi (zx HX1 Bz).lt;have o2_5:w.heap.size+1+1<v5:=zi (zx HX2 Bz).lt;have o3_5:v3<v5:=zi (zx HX3 Bz).lt;have o4_5:v4<v5:=zi (zx HX4 Bz).lt;have ow_5:w.heap.size≤v5:=zi (zw hB Bz);have ow_5_hBW:W.heap.size≤v5:=zj hBW.size Bz.size;replace hu:=hu.below hN;replace hv:=hv.below hN;replace hB:=bT (bT hB Bz) hN;replace hBW:=bT (bT hBW Bz) hN;replace HX0:=zba HX0 Bz hN;replace HX1:=zba HX1 Bz hN;replace HX2:=zba HX2 Bz hN;replace HX3:=zba HX3 Bz hN;replace HX4:=zba HX4 Bz hN;have HX5:=zh x5;clear x5 hN Bz hb5;have Bz:=zr V11;clear pA0 pA1 pA2 pA3 pA4;have pf0:=(zx HX5 Bz).cell 0 (.int .i64 x.at_) rfl;go_wp2_with fail
    go_roundg (n-(i+1))
    case measure=>have:=HGK.out;omega
    case rel=>exact⟨i+1,u,v,zo,rfl,by go_num,HX3.out.below (bT Bz),HX4.out.below (bT Bz),⟨by rw[spS_take HTI.out,HT0.out,Rat.add_zero];exact(NumIs.below hu).1,by rw[spS_take HTI.out,HT0.out,Rat.add_zero,HMU.out];exact Nat.le_trans (hu).2 (Nat.le_add_right _ _)⟩,⟨by rw[spS_take HTI.out,HT1.out,Rat.add_zero];exact(NumIs.below hv).1,by rw[spS_take HTI.out,HT1.out,Rat.add_zero,HMU.out];exact Nat.le_trans (hv).2 (Nat.le_add_right _ _)⟩,bT (bT hBW Bz)⟩
   ·have d1:decide (x.at_<0)=false:=decide_eq_false k1;by_cases k2:(vn:Int)≤x.at_
    ·have HT0:Hid (spT minQ (bnds V) (x.at_,x.x.q)=0):=zh (spT_high (by rw[hvsl.1];exact k2));have HT1:Hid (spT maxQ (bnds V) (x.at_,x.x.q)=0):=zh (spT_high (by rw[hvsl.1];exact k2));have Bz:=zr wr;obtain⟨pA0,pA1,pA2,pA3,pA4,-⟩:=(hnd.below (bT hB Bz)).ez;go_upto_region 5 with(fail)
     obtain⟨V11,hW,x5,hN⟩:=zAa wr #[.int .i64 x.at_,.bool x.x.s,.slice x.x.A x.x.l x.x.c,.bool x.x.s',.slice x.x.A' x.x.l' x.x.c'] 71;rw[←hW];clear hW;obtain⟨v5,hb5⟩:=ze wr.heap.size;rw[←hb5] at x5 ⊢;have o0_5:w.heap.size<v5:=zi (zx HX0 Bz).lt;have o1_5:w.heap.size+1<v5:=zi (zx HX1 Bz).lt;have o2_5:w.heap.size+1+1<v5:=zi (zx HX2 Bz).lt;have o3_5:v3<v5:=zi (zx HX3 Bz).lt;have o4_5:v4<v5:=zi (zx HX4 Bz).lt;have ow_5:w.heap.size≤v5:=zi (zw hB Bz);have ow_5_hBW:W.heap.size≤v5:=zj hBW.size Bz.size;replace hu:=hu.below hN;replace hv:=hv.below hN;replace hB:=bT (bT hB Bz) hN;replace hBW:=bT (bT hBW Bz) hN;replace HX0:=zba HX0 Bz hN;replace HX1:=zba HX1 Bz hN;replace HX2:=zba HX2 Bz hN;replace HX3:=zba HX3 Bz hN;replace HX4:=zba HX4 Bz hN;have HX5:=zh x5;clear x5 hN Bz hb5;have Bz:=zr V11;clear pA0 pA1 pA2 pA3 pA4;have pa0:=(zx HX0 Bz).cell 0 (.slice vA vn vc) rfl;have pf0:=(zx HX5 Bz).cell 0 (.int .i64 x.at_) rfl;go_wp2_with fail
     go_roundg (n-(i+1))
     case measure=>have:=HGK.out;omega
     case rel=>exact⟨i+1,u,v,zo,rfl,by go_num,HX3.out.below (bT Bz),HX4.out.below (bT Bz),⟨by rw[spS_take HTI.out,HT0.out,Rat.add_zero];exact(NumIs.below hu).1,by rw[spS_take HTI.out,HT0.out,Rat.add_zero,HMU.out];exact Nat.le_trans (hu).2 (Nat.le_add_right _ _)⟩,⟨by rw[spS_take HTI.out,HT1.out,Rat.add_zero];exact(NumIs.below hv).1,by rw[spS_take HTI.out,HT1.out,Rat.add_zero,HMU.out];exact Nat.le_trans (hv).2 (Nat.le_add_right _ _)⟩,bT (bT hBW Bz)⟩
    ·obtain⟨b',off',rfl,hel'⟩:=hvsl.at Vr.cs_len zo zo;obtain⟨y,hyi⟩:∃y,V[x.at_.toNat]?=some y:=⟨V[x.at_.toNat]'(zi hvsl.1),List.getElem?_eq_getElem _⟩;have HYF:=zh (HVO.out y (List.mem_of_getElem? hyi));have hnd':=hel' x.at_.toNat y hyi;have HT0:Hid (spT minQ (bnds V) (x.at_,x.x.q)=minQ (x.x.q*y.lo.q) (x.x.q*y.hi.q)):=zh (spT_at k1 hyi);have HT1:Hid (spT maxQ (bnds V) (x.at_,x.x.q)=maxQ (x.x.q*y.lo.q) (x.x.q*y.hi.q)):=zh (spT_at k1 hyi);have hsx:sz x.x.q≤m+1:=zi (R.sz HXF.out.r);have hz11:sz (x.x.q*y.lo.q)≤(m+1)+(m+1):=sz_mul hsx (zi (R.sz HYF.out.lof.r));have hz12:sz (x.x.q*y.hi.q)≤(m+1)+(m+1):=sz_mul hsx (zi (R.sz HYF.out.hif.r));have HU0:=zh hu;have HV0:=zh hv;have i3:¬(vn:Int)≤x.at_:=k2;have i4:0≤x.at_:=zo;have i5:x.at_<(vn:Int):=zo;clear hyi hel';have Bz:=zr wr;obtain⟨pA0,pA1,pA2,pA3,pA4,-⟩:=(hnd.below (bT hB Bz)).ez;go_upto_region 5 with(fail)
     obtain⟨V11,hW,x5,hN⟩:=zAa wr #[.int .i64 x.at_,.bool x.x.s,.slice x.x.A x.x.l x.x.c,.bool x.x.s',.slice x.x.A' x.x.l' x.x.c'] 71;rw[←hW];clear hW;obtain⟨v5,hb5⟩:=ze wr.heap.size;rw[←hb5] at x5 ⊢;have o0_5:w.heap.size<v5:=zi (zx HX0 Bz).lt;have o1_5:w.heap.size+1<v5:=zi (zx HX1 Bz).lt;have o2_5:w.heap.size+1+1<v5:=zi (zx HX2 Bz).lt;have o3_5:v3<v5:=zi (zx HX3 Bz).lt;have o4_5:v4<v5:=zi (zx HX4 Bz).lt;have ow_5:w.heap.size≤v5:=zi (zw hB Bz);have ow_5_hBW:W.heap.size≤v5:=zj hBW.size Bz.size;replace hu:=hu.below hN;replace hv:=hv.below hN;replace hB:=bT (bT hB Bz) hN;replace hBW:=bT (bT hBW Bz) hN;replace HX0:=zba HX0 Bz hN;replace HX1:=zba HX1 Bz hN;replace HX2:=zba HX2 Bz hN;replace HX3:=zba HX3 Bz hN;replace HX4:=zba HX4 Bz hN;have HX5:=zh x5;clear x5 hN Bz hb5;have Bz:=zr V11;clear pA0 pA1 pA2 pA3 pA4;have pa0:=(zx HX0 Bz).cell 0 (.slice (some ⟨b',off',none⟩) vn vc) rfl;have pf0:=(zx HX5 Bz).cell 0 (.int .i64 x.at_) rfl;obtain⟨pB0,pB1,pB2,pB3,pB4,pB5,pB6,pB7,pB8,-⟩:=(hnd'.below (bT hB Bz)).ez;go_wp2_with fail
     obtain⟨V12,hW,x6,hN⟩:=zAa V11 #[.bool y.lo.s,.slice y.lo.A y.lo.l y.lo.c,.bool y.lo.s',.slice y.lo.A' y.lo.l' y.lo.c',.bool y.hi.s,.slice y.hi.A y.hi.l y.hi.c,.bool y.hi.s',.slice y.hi.A' y.hi.l' y.hi.c',.bool y.int] 44;rw[←hW];clear hW;obtain⟨v6,hb6⟩:=ze V11.heap.size;rw[←hb6] at x6 ⊢;have o0_6:w.heap.size<v6:=zi (zx HX0 Bz).lt;have o1_6:w.heap.size+1<v6:=zi (zx HX1 Bz).lt;have o2_6:w.heap.size+1+1<v6:=zi (zx HX2 Bz).lt;have o3_6:v3<v6:=zi (zx HX3 Bz).lt;have o4_6:v4<v6:=zi (zx HX4 Bz).lt;have o5_6:v5<v6:=zi (zx HX5 Bz).lt;have ow_6:w.heap.size≤v6:=zi (zw hB Bz);have ow_6_hBW:W.heap.size≤v6:=zj hBW.size Bz.size;replace hu:=hu.below hN;replace hv:=hv.below hN;replace hB:=bT (bT hB Bz) hN;replace hBW:=bT (bT hBW Bz) hN;replace HX0:=zba HX0 Bz hN;replace HX1:=zba HX1 Bz hN;replace HX2:=zba HX2 Bz hN;replace HX3:=zba HX3 Bz hN;replace HX4:=zba HX4 Bz hN;replace HX5:=zba HX5 Bz hN;have HX6:=zh x6;clear x6 hN Bz hb6;have Bz:=zr V12;clear pa0 pf0 pB0 pB1 pB2 pB3 pB4 pB5 pB6 pB7 pB8;go_wp2_with fail
     have z7:=bT hB Bz;have z7w:=bT hBW Bz;have zz0:=HX0.out.below Bz;have zz1:=HX1.out.below Bz;have zz2:=HX2.out.below Bz;have zz3:=HX3.out.below Bz;have zz4:=HX4.out.below Bz;refine span7 (Nat.le_of_ble_eq_true rfl) rfl rfl (zx HX5 Bz) (zx HX6 Bz) (FrOk.below HXF.out z7) (VrOk.below HYF.out z7) zo (zh (Tab.below hT.out z7)) ?_;intro x36 x37 x38 x39 x40 x41 x42 x43 x44 x45 b11 b12 W7 s0 A0 c0 l0 s0r A0r c0r l0r s1 A1 c1 l1 s1r A1r c1r l1r k11 k12 k13 y11 r11 y12 r12 kb;simp only[uW,uX,uY,uZ]
     replace hB:=bT z7 kb;replace hBW:=bT z7w kb;replace HX0:=zh (zz0.below kb);replace HX1:=zh (zz1.below kb);replace HX2:=zh (zz2.below kb);replace HX3:=zh (zz3.below kb);replace HX4:=zh (zz4.below kb);clear HX5;clear HX6;replace hu:=hu.below (bT Bz kb);replace hv:=hv.below (bT Bz kb);have o0_7:w.heap.size<b11:=zi zz0.lt;have o0_8:w.heap.size<b12:=zi zz0.lt;have o1_7:w.heap.size+1<b11:=zi zz1.lt;have o1_8:w.heap.size+1<b12:=zi zz1.lt;have o2_7:w.heap.size+1+1<b11:=zi zz2.lt;have o2_8:w.heap.size+1+1<b12:=zi zz2.lt;have o3_7:v3<b11:=zi zz3.lt;have o3_8:v3<b12:=zi zz3.lt;have o4_7:v4<b11:=zi zz4.lt;have o4_8:v4<b12:=zi zz4.lt;have ow_7:w.heap.size≤b11:=zi z7.size;have ow_8:w.heap.size≤b12:=zi z7.size;have ow_7_hBW:W.heap.size≤b11:=zi z7w.size;have ow_8_hBW:W.heap.size≤b12:=zi z7w.size;have HX7:=zh y11;have HX8:=zh y12;clear Bz kb y11 y12 z7 z7w zz0 zz1 zz2 zz3 zz4;have Bz:=zr W7;obtain⟨pd0,pd1,pd2,pd3,-⟩:=(zx HX3 Bz).cz;have fd0:=(zx HX3 Bz).frozen 0;have fd1:=(zx HX3 Bz).frozen 1;have fd2:=(zx HX3 Bz).frozen 2;have fd3:=(zx HX3 Bz).frozen 3;have y3:=(zx HX3 Bz).lt;obtain⟨ph0,ph1,ph2,ph3,-⟩:=(zx HX7 Bz).cz;obtain⟨pi0,pi1,pi2,pi3,-⟩:=(zx HX8 Bz).cz;go_wp2_with fail
     (try simp only[vAa,vBa,vC])
     refine zl (zz [0,1,2] (.only 3 (.only 4 (.only 5 .done)))) [5] (zsa pd0 (zsa pd1 (zsa pd2 (zsa pd3 (zsa ph0 (zsa ph1 (zsa ph2 (zsa ph3 (zsa pi0 (zsa pi1 (zsa pi2 (zIa pi3)))))))))))) ?_;iterate 3 (refine zUa ?_;try simp only[uW,uX,uY,uZ])
     refine zC 49 rfl rfl (fun K hK=>?_);go_simp
     with_reducible refine(min_q (R.below r11.r) (R.below r12.r) zo (zt hT hB Bz)).mono ?_
     rintro e w21 ⟨s21,A21,c21,l21,s21r,A21r,c21r,l21r,rfl,h21,b21⟩;replace b21:=zq (a:=W7) b21;replace r11:=r11.below b21;replace r12:=r12.below b21;replace hu:=hu.below b21;replace hv:=hv.below b21;replace Bz:=bT Bz b21;clear b21;have hzm:=sz_minQ hz11 hz12;clear pd0 pd1 pd2 pd3 fd0 fd1 fd2 fd3 y3 ph0 ph1 ph2 ph3 pi0 pi1 pi2 pi3;obtain⟨pd0,pd1,pd2,pd3,-⟩:=(zx HX3 Bz).cz;have fd0:=(zx HX3 Bz).frozen 0;have fd1:=(zx HX3 Bz).frozen 1;have fd2:=(zx HX3 Bz).frozen 2;have fd3:=(zx HX3 Bz).frozen 3;have y3:=(zx HX3 Bz).lt;obtain⟨ph0,ph1,ph2,ph3,-⟩:=(zx HX7 Bz).cz;obtain⟨pi0,pi1,pi2,pi3,-⟩:=(zx HX8 Bz).cz;refine hK.out _ _ ⟨pd0,pd1,pd2,pd3,ph0,ph1,ph2,ph3,pi0,pi1,pi2,pi3⟩ (fun _=>?_);try simp only[uW,uX,uY,uZ]
     clear hK K;refine zC 50 rfl rfl (fun K hK=>?_);go_simp
     with_reducible refine(add_q (NumIs.rr (NumIs.below hu)) (R.below h21.r) zo (zt hT hB Bz)).mono ?_
     rintro e w22 ⟨s22,A22,c22,l22,s22r,A22r,c22r,l22r,rfl,h22,b22⟩;replace b22:=zq (a:=w21) b22;replace r11:=r11.below b22;replace r12:=r12.below b22;replace hv:=hv.below b22;replace Bz:=bT Bz b22;clear b22;clear pd0 pd1 pd2 pd3 fd0 fd1 fd2 fd3 y3 ph0 ph1 ph2 ph3 pi0 pi1 pi2 pi3;obtain⟨pd0,pd1,pd2,pd3,-⟩:=(zx HX3 Bz).cz;have fd0:=(zx HX3 Bz).frozen 0;have fd1:=(zx HX3 Bz).frozen 1;have fd2:=(zx HX3 Bz).frozen 2;have fd3:=(zx HX3 Bz).frozen 3;have y3:=(zx HX3 Bz).lt;obtain⟨ph0,ph1,ph2,ph3,-⟩:=(zx HX7 Bz).cz;obtain⟨pi0,pi1,pi2,pi3,-⟩:=(zx HX8 Bz).cz;refine hK.out _ _ ⟨pd0,pd1,pd2,pd3,ph0,ph1,ph2,ph3,pi0,pi1,pi2,pi3⟩ (fun _=>?_);try simp only[uW,uX,uY,uZ]
     clear hK K;refine wpPlan_late (o:=⟨none,_,_,_,_,_⟩) rfl rfl zda (fun K hK=>?_);go_simp
     refine hK.out _ _ ?_;try simp only[Act.put,uX,uY,uZ]
     clear hK K;refine wpPlan_done ?_;obtain⟨V21,hW,x,kk,far,bel⟩:=store4 (.bool s22) (.slice A22 l22 c22) (.bool s22r) (.slice A22r l22r c22r) (zx HX3 Bz) nofun nofun nofun nofun;rw[←hW];clear hW;replace h22:=h22.k kk;replace r11:=r11.k kk;replace r12:=r12.k kk;replace hv:=hv.k kk;replace hB:=bel w.heap.size w zo (bT hB Bz);replace hBW:=bel W.heap.size W zo (bT hBW Bz);replace HX0:=zf far HX0 Bz;replace HX1:=zf far HX1 Bz;replace HX2:=zf far HX2 Bz;replace HX4:=zf far HX4 Bz;replace HX7:=zf far HX7 Bz;replace HX8:=zf far HX8 Bz;replace HX3:=zh x;clear x kk far bel Bz;have Bz:=zr V21;clear pd0 pd1 pd2 pd3 fd0 fd1 fd2 fd3 y3 ph0 ph1 ph2 ph3 pi0 pi1 pi2 pi3;obtain⟨pe0,pe1,pe2,pe3,-⟩:=(zx HX4 Bz).cz;have fe0:=(zx HX4 Bz).frozen 0;have fe1:=(zx HX4 Bz).frozen 1;have fe2:=(zx HX4 Bz).frozen 2;have fe3:=(zx HX4 Bz).frozen 3;have y4:=(zx HX4 Bz).lt;obtain⟨ph0,ph1,ph2,ph3,-⟩:=(zx HX7 Bz).cz;obtain⟨pi0,pi1,pi2,pi3,-⟩:=(zx HX8 Bz).cz;go_wp2_with fail
     (try simp only[vAa,vBa,vC])
     refine zl (zz [0,1,2] (.only 3 (.only 4 (.only 5 .done)))) [5] (zsa pe0 (zsa pe1 (zsa pe2 (zsa pe3 (zsa ph0 (zsa ph1 (zsa ph2 (zsa ph3 (zsa pi0 (zsa pi1 (zsa pi2 (zIa pi3)))))))))))) ?_;iterate 3 (refine zUa ?_;try simp only[uW,uX,uY,uZ])
     refine zC 54 rfl rfl (fun K hK=>?_);go_simp
     with_reducible refine(max_q (R.below r11.r) (R.below r12.r) zo (zt hT hB Bz)).mono ?_
     rintro e w23 ⟨s23,A23,c23,l23,s23r,A23r,c23r,l23r,rfl,h23,b23⟩;replace b23:=zq (a:=V21) b23;replace h22:=h22.below b23;replace hv:=hv.below b23;replace Bz:=bT Bz b23;clear b23;have hzx:=sz_maxQ hz11 hz12;clear pe0 pe1 pe2 pe3 fe0 fe1 fe2 fe3 y4 ph0 ph1 ph2 ph3 pi0 pi1 pi2 pi3;obtain⟨pe0,pe1,pe2,pe3,-⟩:=(zx HX4 Bz).cz;have fe0:=(zx HX4 Bz).frozen 0;have fe1:=(zx HX4 Bz).frozen 1;have fe2:=(zx HX4 Bz).frozen 2;have fe3:=(zx HX4 Bz).frozen 3;have y4:=(zx HX4 Bz).lt;obtain⟨ph0,ph1,ph2,ph3,-⟩:=(zx HX7 Bz).cz;obtain⟨pi0,pi1,pi2,pi3,-⟩:=(zx HX8 Bz).cz;refine hK.out _ _ ⟨pe0,pe1,pe2,pe3,ph0,ph1,ph2,ph3,pi0,pi1,pi2,pi3⟩ (fun _=>?_);try simp only[uW,uX,uY,uZ]
     clear hK K;refine zC 55 rfl rfl (fun K hK=>?_);go_simp
     with_reducible refine(add_q (NumIs.rr (NumIs.below hv)) (R.below h23.r) zo (zt hT hB Bz)).mono ?_
     rintro e w24 ⟨s24,A24,c24,l24,s24r,A24r,c24r,l24r,rfl,h24,b24⟩;replace b24:=zq (a:=w23) b24;replace h22:=h22.below b24;replace Bz:=bT Bz b24;clear b24;clear pe0 pe1 pe2 pe3 fe0 fe1 fe2 fe3 y4 ph0 ph1 ph2 ph3 pi0 pi1 pi2 pi3;obtain⟨pe0,pe1,pe2,pe3,-⟩:=(zx HX4 Bz).cz;have fe0:=(zx HX4 Bz).frozen 0;have fe1:=(zx HX4 Bz).frozen 1;have fe2:=(zx HX4 Bz).frozen 2;have fe3:=(zx HX4 Bz).frozen 3;have y4:=(zx HX4 Bz).lt;obtain⟨ph0,ph1,ph2,ph3,-⟩:=(zx HX7 Bz).cz;obtain⟨pi0,pi1,pi2,pi3,-⟩:=(zx HX8 Bz).cz;refine hK.out _ _ ⟨pe0,pe1,pe2,pe3,ph0,ph1,ph2,ph3,pi0,pi1,pi2,pi3⟩ (fun _=>?_);try simp only[uW,uX,uY,uZ]
     clear hK K;refine wpPlan_late (o:=⟨none,_,_,_,_,_⟩) rfl rfl zda (fun K hK=>?_);go_simp
     refine hK.out _ _ ?_;try simp only[Act.put,uX,uY,uZ]
     clear hK K;refine wpPlan_done ?_;obtain⟨V22,hW,x,kk,far,bel⟩:=store4 (.bool s24) (.slice A24 l24 c24) (.bool s24r) (.slice A24r l24r c24r) (zx HX4 Bz) nofun nofun nofun nofun;rw[←hW];clear hW;replace h22:=h22.k kk;replace h24:=h24.k kk;replace hB:=bel w.heap.size w zo (bT hB Bz);replace hBW:=bel W.heap.size W zo (bT hBW Bz);replace HX0:=zf far HX0 Bz;replace HX1:=zf far HX1 Bz;replace HX2:=zf far HX2 Bz;replace HX3:=zf far HX3 Bz;replace HX7:=zf far HX7 Bz;replace HX8:=zf far HX8 Bz;replace HX4:=zh x;clear x kk far bel Bz;have Bz:=zr V22;clear pe0 pe1 pe2 pe3 fe0 fe1 fe2 fe3 y4 ph0 ph1 ph2 ph3 pi0 pi1 pi2 pi3;go_wp2_with fail
     go_roundg (n-(i+1))
     case measure=>have:=HGK.out;omega
     case rel=>exact⟨i+1,⟨s22,A22,c22,l22,s22r,A22r,c22r,l22r,spS minQ (bnds V) (prs (L.take (i+1))),true⟩,⟨s24,A24,c24,l24,s24r,A24r,c24r,l24r,spS maxQ (bnds V) (prs (L.take (i+1))),true⟩,zo,rfl,by go_num,HX3.out.below (bT Bz),HX4.out.below (bT Bz),⟨by rw[spS_take HTI.out,HT0.out];exact RN.below h22,by rw[spS_take HTI.out,HT0.out,HMU.out];have:=sz_add (HU0.out).2 hzm;omega⟩,⟨by rw[spS_take HTI.out,HT1.out];exact RN.below h24,by rw[spS_take HTI.out,HT1.out,HMU.out];have:=sz_add (HV0.out).2 hzx;omega⟩,bT (bT hBW Bz)⟩
  ·obtain rfl:i=n:=zo;have i1:¬(i:Int)<(i:Int):=zo;have ht:L.take i=L:=List.take_of_length_le (by rw[HLN.out];exact Nat.le_refl _);have HSU:Hid (spS minQ (bnds V) (prs (L.take i))=spS minQ (bnds V) (prs L)):=zh (by rw[ht]);have HSV:Hid (spS maxQ (bnds V) (prs (L.take i))=spS maxQ (bnds V) (prs L)):=zh (by rw[ht]);have HZU:=zh hu.2;have HZV:=zh hv.2;clear ht;have Bz:=zr wr;obtain⟨pb0,pb1,pb2,pb3,-⟩:=(zx HX1 Bz).cz;have fb0:=(zx HX1 Bz).frozen 0;have fb1:=(zx HX1 Bz).frozen 1;have fb2:=(zx HX1 Bz).frozen 2;have fb3:=(zx HX1 Bz).frozen 3;have y1:=(zx HX1 Bz).lt;obtain⟨pc0,pc1,pc2,pc3,-⟩:=(zx HX2 Bz).cz;have fc0:=(zx HX2 Bz).frozen 0;have fc1:=(zx HX2 Bz).frozen 1;have fc2:=(zx HX2 Bz).frozen 2;have fc3:=(zx HX2 Bz).frozen 3;have y2:=(zx HX2 Bz).lt;obtain⟨pd0,pd1,pd2,pd3,-⟩:=(zx HX3 Bz).cz;obtain⟨pe0,pe1,pe2,pe3,-⟩:=(zx HX4 Bz).cz;go_wp2_with fail
   (try simp only[vAa,vBa,vC])
   refine zl (zz [0,1] (.only 2 (.only 3 .done))) [3] (zsa pd0 (zsa pd1 (zsa pd2 (zsa pd3 (zsa pe0 (zsa pe1 (zsa pe2 (zIa pe3)))))))) ?_;iterate 2 (refine zUa ?_;try simp only[uW,uX,uY,uZ])
   refine wpPlan_call (o:=⟨none,_,_,_,_,_⟩) rfl rfl (fun K hK=>?_);go_simp
   refine hK.out _ _ ⟨(zAe zo).trans pd0,(zAe zo).trans pd1,(zAe zo).trans pd2,(zAe zo).trans pd3,(zAe zo).trans pe0,(zAe zo).trans pe1,(zAe zo).trans pe2,(zAe zo).trans pe3⟩ (fun _=>?_);try simp only[Act.put,uX,uY,uZ]
   clear hK K;refine wpPlan_late (o:=⟨none,_,_,_,_,_⟩) rfl rfl zda (fun K hK=>?_);go_simp
   refine hK.out _ _ ?_;try simp only[Act.put,uX,uY,uZ]
   clear hK K;refine wpPlan_done ?_;go_wp2_with fail
   have qc0:wr.cell? ⟨w.heap.size+2,0,none⟩=some (.bool false):=pc0;have qc1:wr.cell? ⟨w.heap.size+2,1,none⟩=some (.slice none 0 0):=pc1;have qc2:wr.cell? ⟨w.heap.size+2,2,none⟩=some (.bool false):=pc2;have qc3:wr.cell? ⟨w.heap.size+2,3,none⟩=some (.slice none 0 0):=pc3;(try simp only[Exit.inBlock,Exit.then])
   refine bodyPost_ret (by simp[results,Tryz.results23,go_sem,pb0,pb1,pb2,pb3,qc0,qc1,qc2,qc3];try rfl) rfl ?_;obtain⟨V31,hW,x,kk,far,bel⟩:=store4 (.bool u.s) (.slice u.A u.l u.c) (.bool u.s') (.slice u.A' u.l' u.c') (zx HX1 Bz) nofun nofun nofun nofun;rw[←hW];clear hW;replace hu:=hu.k kk;replace hv:=hv.k kk;replace hB:=bel w.heap.size w zo (bT hB Bz);replace HX0:=zf far HX0 Bz;replace HX2:=zf far HX2 Bz;replace HX3:=zf far HX3 Bz;replace HX4:=zf far HX4 Bz;replace HX1:=zh x;clear x kk far bel Bz;have Bz:=zr V31;obtain⟨V32,hW,x,kk,far,bel⟩:=store4 (.bool v.s) (.slice v.A v.l v.c) (.bool v.s') (.slice v.A' v.l' v.c') (zx HX2 Bz) nofun nofun nofun nofun;rw[←hW];clear hW;replace hu:=hu.k kk;replace hv:=hv.k kk;replace hB:=bel w.heap.size w zo (bT hB Bz);replace HX0:=zf far HX0 Bz;replace HX1:=zf far HX1 Bz;replace HX3:=zf far HX3 Bz;replace HX4:=zf far HX4 Bz;replace HX2:=zh x;clear x kk far bel Bz;have Bz:=zr V32;have hF:=bT (c:=V32) hB Bz;exact⟨u,v,rfl,⟨HSU.out ▸ (NumIs.below hu).1,HSU.out ▸ HZU.out⟩,⟨HSV.out ▸ (NumIs.below hv).1,HSV.out ▸ HZV.out⟩,bT hF⟩
theorem span_q {w:World} {m n c:Nat} {A:Option Addr} {p:Pg} {L:List Tm} (h:PgOk w m p) (hL:Sl Tm.cs 5 w A n c L) (hf:Hid (∀t∈L,FrOk w m t.x)) (hm:m≤1000000000) (hn:n≤2000000) (hK:Hid (1+n*(2*m+4)≤9000000000)) (hT:Hid (Tab w)) :
  Calls Tryz.prog 23 #[.agg #[.slice p.vA p.vn p.vc,.slice p.rA p.rn p.rc,.slice p.cA p.cn p.cc],.slice A n c] w (TellsQQ w (spS minQ (bnds p.V) (prs L)) (spS maxQ (bnds p.V) (prs L)) (1+n*(2*m+4))):=by
 obtain⟨vA,vn,vc,V,rA,rn,rc,RR,cA,cn,cc,C⟩:=p;exact span_r h hL hf hm hn hK hT
open Go.RowKit Tw
theorem elt_vcs:Elt Vc.cs 1 36 25:=Elt.of (.slice none 0 0) 24 Tryz.underlying36 (by kernel_rfl) zo (by kernel_rfl) (nou_list (by kernel_rfl)) Vc.cs_len
 (fun x u hu=>by simp[Vc.cs] at hu;subst hu;rfl) (fun x u hu n=>by simp[Vc.cs] at hu;subst hu;simp)
def vsl (v:Vc):Value:=.slice v.A v.n v.c
def zVc:Vc:=⟨none,0,0,[]⟩
theorem vc_zero {i:TypeInfo} {z:Value} (h:Tryz.prog.info? 25=some i) (hz:i.zero=some z):z.cells.toList=Vc.cs zVc:=by
 have h1:(Tryz.prog.info? 25).map (fun i=>i.zero)=some (some (.slice none 0 0)):=by kernel_rfl
 rw[h,Option.map_some,hz] at h1;obtain rfl:z=.slice none 0 0:=by simpa using h1
 rfl
theorem vc_store {w:World} {B g n cap i:Nat} {V:List Vc} (h:OwnR w B 25 1 (.slice (some ⟨g,0,none⟩) n cap) n (flat Vc.cs V)) {y:Vc} (hy:V[i]?=some y) (x:Vc) :
  ∃W,W=w.setCell ⟨g,i,none⟩ (.slice x.A x.n x.c)∧OwnR W B 25 1 (.slice (some ⟨g,0,none⟩) n cap) n (flat Vc.cs (V.set i x))∧Grew w W (.slice (some ⟨g,0,none⟩) n cap) (.slice (some ⟨g,0,none⟩) n cap):=by
 have:=elt_vcs.sets h hy (y:=x) [(0,.slice x.A x.n x.c)] (fun p hp=>by simp at hp;subst hp;exact⟨by simp,by simp⟩) rfl;simp only[setsW,Nat.mul_one,Nat.add_zero] at this
 exact⟨_,rfl,this⟩
theorem vc_cell {w:World} {B g n cap i:Nat} {V:List Vc} (h:OwnR w B 25 1 (.slice (some ⟨g,0,none⟩) n cap) n (flat Vc.cs V)) {y:Vc} (hy:V[i]?=some y):w.cell? ⟨g,i,none⟩=some (.slice y.A y.n y.c):=by
 have:=elt_vcs.cell h hy (j:=0) (u:=.slice y.A y.n y.c) zo rfl;rwa [Nat.mul_one,Nat.add_zero] at this
structure TS (w:World) (B g n:Nat) (X:Value) (nx:Nat) (xs:List Value) (V:List Vc) (M:Nat):Prop where
 out:OwnR w B 25 1 (.slice (some ⟨g,0,none⟩) n n) n (flat Vc.cs V)
 row:∀v∈V,OwnR w B 71 5 (vsl v) v.n (flat Tm.cs v.L)∧OnT w v.L (fun _=>M)
 og:∀v∈V,Ap (.slice (some ⟨g,0,none⟩) n n) (vsl v)∧Ap X (vsl v)
 xg:Ap X (.slice (some ⟨g,0,none⟩) n n)
 xo:OwnR w B 71 5 X nx xs
 ap:∀(i j:Nat) (u v:Vc),V[i]?=some u→V[j]?=some v→i≠j→Ap (vsl u) (vsl v)
theorem TS.len {w:World} {B g n nx M:Nat} {X:Value} {xs:List Value} {V:List Vc} (h:TS w B g n X nx xs V M):V.length=n:=h.out.eltn elt_vcs zo
theorem TS.below {w w':World} {B g n nx M:Nat} {X:Value} {xs:List Value} {V:List Vc} (h:TS w B g n X nx xs V M) (hb:Below w.heap.size w w':=by go_grown):TS w' B g n X nx xs V M :=
 ⟨h.out.below hb,fun v hv=>⟨(h.row v hv).1.below hb,(h.row v hv).2.below hb⟩,h.og,h.xg,h.xo.below hb,h.ap⟩
theorem TS.start {w:World} {B g n M:Nat} (h:OwnR w B 25 1 (.slice (some ⟨g,0,none⟩) n n) n (flat Vc.cs (List.replicate n zVc))):TS w B g n (.slice none 0 0) 0 [] (List.replicate n zVc) M :=
 have z:∀v∈List.replicate n zVc,v=zVc:=fun v hv=>List.eq_of_mem_replicate hv;⟨h,fun v hv=>by rw[z v hv];exact⟨OwnR.nil _ _ _ _,OnT.nil _ _⟩,fun v hv=>by rw[z v hv];exact⟨(Ap.nil _).symm,Ap.nil _⟩,Ap.nil _,OwnR.nil _ _ _ _,
  fun i j u v hu _ _=>by rw[z u (List.mem_of_getElem? hu)];exact Ap.nil _⟩
theorem TS.beside {w w':World} {B g n nx nx' M:Nat} {X X':Value} {xs xs':List Value} {V:List Vc} (h:TS w B g n X nx xs V M) (hb:Below w.heap.size w w') (hB:B≤w.heap.size) (hx:OwnR w' w.heap.size 71 5 X' nx' xs'):TS w' B g n X' nx' xs' V M:=by
 have key:∀{v:Value} {n k:Nat} {e:TypeId} {ys:List Value},OwnR w B e k v n ys→Ap X' v:=fun ho=>by
  cases e:X'.ownBlock with
  | none=>exact .inl e
  | some b =>
   refine .inr fun e2=>?_;rw[e] at e2;have h1:=hx.base b e;have h2:=ho.lt b e2.symm;omega
 have h':=h.below hb;exact⟨h'.out,h'.row,fun v hv=>⟨(h.og v hv).1,key (h.row v hv).1⟩,key h.out,hx.rebase hB,h.ap⟩
theorem TS.alone {w:World} {B g n nx M:Nat} {X:Value} {xs:List Value} {V:List Vc} (h:TS w B g n X nx xs V M):TS w B g n (.slice none 0 0) 0 [] V M :=
 ⟨h.out,h.row,fun v hv=>⟨(h.og v hv).1,Ap.nil _⟩,Ap.nil _,OwnR.nil _ _ _ _,h.ap⟩
theorem TS.step {w w':World} {B g n nx M a:Nat} {X:Value} {xs:List Value} {V:List Vc} (h:TS w B g n X nx xs V M) {v:Vc} (hv:V[a]?=some v) {t:Tm} {H:Option Addr} {c k:Nat}
  (ho:OwnR w' B 71 5 (.slice H k c) k (flat Tm.cs (v.L++[t]))) (hg:Grew w w' (.slice v.A v.n v.c) (.slice H k c)) (ht:OnT w' [t] (fun _=>M)) :
  ∃W,W=w'.setCell ⟨g,a,none⟩ (.slice H k c)∧TS W B g n X nx xs (V.set a ⟨H,k,c,v.L++[t]⟩) M∧Grew w' W (.slice (some ⟨g,0,none⟩) n n) (.slice (some ⟨g,0,none⟩) n n):=by
 have hg':Grew w w' (vsl v) (.slice H k c):=hg;have hm:=List.mem_of_getElem? hv;have ha:=(List.getElem?_eq_some_iff.1 hv).1;obtain⟨W,hW,h1,h2⟩:=vc_store (h.out.grown hg' (h.og v hm).1) hv ⟨H,k,c,v.L++[t]⟩;refine⟨W,hW,?_,h2⟩;have hn1:Ap (.slice (some ⟨g,0,none⟩) n n) (.slice H k c):=hg'.ap h.out (h.og v hm).1;have old:∀(j:Nat) (u:Vc),V[j]?=some u→j≠a→OwnR W B 71 5 (vsl u) u.n (flat Tm.cs u.L)∧OnT W u.L (fun _=>M):=fun j u hu hj=>by
  have hum:=List.mem_of_getElem? hu;exact⟨((h.row u hum).1.grown hg' (h.ap j a u v hu hv hj)).grown h2 (h.og u hum).1.symm,((h.row u hum).2.k hg'.k).k h2.k⟩
 have new:OwnR W B 71 5 (.slice H k c) k (flat Tm.cs (v.L++[t]))∧OnT W (v.L++[t]) (fun _=>M):=by
  refine⟨ho.grown h2 hn1.symm,fun u hu=>?_⟩;rcases List.mem_append.1 hu with hu | hu
  ·exact(((h.row v hm).2.k hg'.k).k h2.k) u hu
  ·exact(ht.k h2.k) u hu
 have get:∀(j:Nat) (u:Vc),(V.set a ⟨H,k,c,v.L++[t]⟩)[j]?=some u→(j=a∧u=⟨H,k,c,v.L++[t]⟩)∨(j≠a∧V[j]?=some u):=fun j u hu=>by
  by_cases e:j=a
  ·subst e;rw[List.getElem?_set_self ha] at hu;exact .inl ⟨rfl,(Option.some.inj hu).symm⟩
  ·rw[List.getElem?_set_ne (fun e2=>e e2.symm)] at hu;exact .inr ⟨e,hu⟩
 refine⟨h1,fun u hu=>?_,fun u hu=>?_,h.xg,(h.xo.grown hg' (h.og v hm).2).grown h2 h.xg,fun i j u u' hu hu' hij=>?_⟩
 ·obtain⟨j,hj⟩:=List.getElem?_of_mem hu;rcases get j u hj with⟨_,rfl⟩ | ⟨h3,h4⟩
  ·exact new
  ·exact old j u h4 h3
 ·obtain⟨j,hj⟩:=List.getElem?_of_mem hu;rcases get j u hj with⟨_,rfl⟩ | ⟨h3,h4⟩
  ·exact⟨hn1,hg'.ap h.xo (h.og v hm).2⟩
  ·exact h.og u (List.mem_of_getElem? h4)
 ·rcases get i u hu with⟨e1,rfl⟩ | ⟨h3,h4⟩<;>rcases get j u' hu' with⟨e2,rfl⟩ | ⟨h5,h6⟩
  ·exact absurd (e1.trans e2.symm) hij
  ·exact(hg'.ap (h.row u' (List.mem_of_getElem? h6)).1 (h.ap j a u' v h6 hv h5)).symm
  ·exact hg'.ap (h.row u (List.mem_of_getElem? h4)).1 (h.ap i a u v h4 hv h3)
  ·exact h.ap i j u u' h4 h6 hij
def CN (w:World) (v:Vc) (M:Nat):Prop:=Sl Tm.cs 5 w v.A v.n v.c v.L∧OnT w v.L (fun _=>M)∧(v.A=none→v.c=0)
theorem CN.nv {w:World} {v:Vc} {M:Nat} (h:CN w v M):NV w v.A v.n v.c (prs v.L) M:=⟨v.L,h.1,h.2.1,rfl,h.2.2⟩
theorem CN.below {w w':World} {v:Vc} {M:Nat} (h:CN w v M) (hb:Below w.heap.size w w':=by go_grown):CN w' v M:=⟨h.1.below hb,h.2.1.below hb,h.2.2⟩
theorem TS.cn {w:World} {B g n nx M:Nat} {X:Value} {xs:List Value} {V:List Vc} (h:TS w B g n X nx xs V M):Sl Vc.cs 1 w (some ⟨g,0,none⟩) n n V∧∀v∈V,CN w v M :=
 ⟨h.out.sl' elt_vcs h.len,fun v hv=>by
  obtain⟨h1,h2⟩:=h.row v hv;refine⟨h1.sl' elt_vec (h1.eltn elt_vec zo),h2,fun e=>?_⟩;obtain⟨H,c,e9,h9,_⟩:=h1.slice;unfold vsl at e9
  cases e9;exact(h9 e).2⟩
open Go.RowKit Tw
theorem elt_frs:Elt Fr.cs 4 37 33:=Elt.of (.agg #[.bool false,.slice none 0 0,.bool false,.slice none 0 0]) 64 Tryz.underlying37 (by kernel_rfl) zo (by kernel_rfl) (nou_list (by kernel_rfl)) Fr.cs_len
 (fun x u hu=>by simp[Fr.cs] at hu;rcases hu with rfl | rfl | rfl | rfl<;>rfl) (fun x u hu n=>by simp[Fr.cs] at hu;rcases hu with rfl | rfl | rfl | rfl<;>simp)
theorem fr_zero {i:TypeInfo} {z:Value} (h:Tryz.prog.info? 33=some i) (hz:i.zero=some z):z.cells.toList=Fr.cs zFr:=by
 have h1:(Tryz.prog.info? 33).map (fun i=>i.zero)=some (some (.agg #[.bool false,.slice none 0 0,.bool false,.slice none 0 0])):=by kernel_rfl
 rw[h,Option.map_some,hz] at h1;obtain rfl:z=.agg #[.bool false,.slice none 0 0,.bool false,.slice none 0 0]:=by simpa using h1
 rfl
theorem fr_store {w:World} {B g n cap i:Nat} {L:List Fr} (h:OwnR w B 33 4 (.slice (some ⟨g,0,none⟩) n cap) n (flat Fr.cs L)) {y:Fr} (hy:L[i]?=some y) (x:Fr) :
  ∃V,V=(((w.setCell ⟨g,i*4,none⟩ (.bool x.s)).setCell ⟨g,i*4+1,none⟩ (.slice x.A x.l x.c)).setCell ⟨g,i*4+2,none⟩ (.bool x.s')).setCell ⟨g,i*4+3,none⟩ (.slice x.A' x.l' x.c')∧
   OwnR V B 33 4 (.slice (some ⟨g,0,none⟩) n cap) n (flat Fr.cs (L.set i x))∧Grew w V (.slice (some ⟨g,0,none⟩) n cap) (.slice (some ⟨g,0,none⟩) n cap):=by
 have:=elt_frs.sets h hy (y:=x) [(0,.bool x.s),(1,.slice x.A x.l x.c),(2,.bool x.s'),(3,.slice x.A' x.l' x.c')] (fun p hp=>by simp at hp;rcases hp with rfl | rfl | rfl | rfl<;>exact⟨by simp,by simp⟩) rfl;exact⟨_,rfl,this⟩
theorem fr_0 {w:World} {B g n cap i:Nat} {L:List Fr} (h:OwnR w B 33 4 (.slice (some ⟨g,0,none⟩) n cap) n (flat Fr.cs L)) {y:Fr} (hy:L[i]?=some y):w.cell? ⟨g,i*4,none⟩=some (.bool y.s) :=
 elt_frs.cell h hy (j:=0) (u:=.bool y.s) zo rfl
def AllFr (w:World) (K:Nat) (L:List Fr):Prop:=∀x∈L,FrOk w K x
theorem AllFr.below {w w':World} {K:Nat} {L:List Fr} (h:AllFr w K L) (hb:Below w.heap.size w w':=by go_grown):AllFr w' K L:=fun x hx=>(h x hx).below hb
theorem AllFr.k {w w':World} {K:Nat} {L:List Fr} (h:AllFr w K L) (hb:K64 w w'):AllFr w' K L:=fun x hx=>(h x hx).k hb
theorem AllFr.set {w:World} {K:Nat} {L:List Fr} (h:AllFr w K L) (i:Nat) {x:Fr} (hx:FrOk w K x):AllFr w K (L.set i x):=fun y hy=>by
 rcases List.mem_or_eq_of_mem_set hy with hy | rfl
 ·exact h y hy
 ·exact hx
open Go.RowKit Tw
def AllRn (w:World) (K:Nat) (L:List Fr):Prop:=∀x∈L,RN w x.s x.A x.c x.l x.s' x.A' x.c' x.l' x.q∧x.ex=true∧sz x.q+1≤K
theorem AllRn.below {w w':World} {K:Nat} {L:List Fr} (h:AllRn w K L) (hb:Below w.heap.size w w':=by go_grown):AllRn w' K L:=fun x hx=>⟨(h x hx).1.below hb,(h x hx).2⟩
theorem AllRn.k {w w':World} {K:Nat} {L:List Fr} (h:AllRn w K L) (hb:K64 w w'):AllRn w' K L:=fun x hx=>⟨(h x hx).1.k hb,(h x hx).2⟩
theorem AllRn.set {w:World} {K:Nat} {L:List Fr} (h:AllRn w K L) (i:Nat) {x:Fr} (hx:RN w x.s x.A x.c x.l x.s' x.A' x.c' x.l' x.q∧x.ex=true∧sz x.q+1≤K):AllRn w K (L.set i x):=fun y hy=>by
 rcases List.mem_or_eq_of_mem_set hy with hy | rfl
 ·exact h y hy
 ·exact hx
theorem AllRn.put {w:World} {K:Nat} {s s':Bool} {A A':Option Addr} {c l c' l':Nat} {q:Rat} (h:RN w s A c l s' A' c' l' q) (hs:sz q+1≤K):RN w s A c l s' A' c' l' q∧true=true∧sz q+1≤K:=⟨h,rfl,hs⟩
theorem AllRn.zeros (w:World) (m:Nat) {K:Nat} (hK:2≤K):AllRn w K (List.replicate m zFr):=fun x hx=>by
 rw[List.eq_of_mem_replicate hx];refine⟨(zFr_ok w (m:=1) zo).rn.1 rfl,rfl,?_⟩;have:=sz_zero;show sz 0+1≤K
 omega
def denseF (P:List (Int×Rat)) (m:Nat):List Rat:=(List.range m).map fun(i:Nat)=>pget P (i:Int)
def DnsE (D:List Fr) (T:List Tm):Prop:=∀(i:Nat) y,D[i]?=some y→y.q=pget (prs T) (i:Int)
theorem dns_get {T:List Tm} {j:Nat} {x:Tm} (hx:T[j]?=some x) (a:Int):pget (prs (T.take (j+1))) a=pget (prs (T.take j)) a+if x.at_=a then x.x.q else 0:=by
 rw[take_snoc hx,prs_append,pget_append];congr 1
 exact pget_one (x.at_,x.x.q) a
theorem DnsE.skip {D:List Fr} {T:List Tm} {j:Nat} {x:Tm} (h:DnsE D (T.take j)) (hx:T[j]?=some x) (ho:x.at_<0∨(D.length:Int)≤x.at_):DnsE D (T.take (j+1)):=fun i y hy=>by
 have hi:=(List.getElem?_eq_some_iff.1 hy).1;rw[dns_get hx,if_neg zo,Rat.add_zero];exact h i y hy
theorem DnsE.step {D:List Fr} {T:List Tm} {j a:Nat} {x:Tm} {y:Fr} (h:DnsE D (T.take j)) (hr:Rise (prs T)) (hx:T[j]?=some x) (ha:x.at_=(a:Int)) (hy:D[a]?=some y) (r:Fr) (hq:r.q=x.x.q):DnsE (D.set a r) (T.take (j+1)):=fun i z hz=>by
 have hal:=(List.getElem?_eq_some_iff.1 hy).1;by_cases e:i=a
 ·subst e;rw[List.getElem?_set_self hal,Option.some.injEq] at hz;subst hz;have h2:Rise (prs (T.take (j+1))):=by rw[←prs_take];exact List.Pairwise.sublist (List.take_sublist _ _) hr
  have h3:(x.at_,x.x.q)∈prs (T.take (j+1)):=by rw[take_snoc hx,prs_append];exact List.mem_append_right _ (List.mem_singleton.2 rfl)
  rw[←ha,h2.get h3,hq]
 ·rw[List.getElem?_set_ne (fun e2=>e e2.symm)] at hz;rw[dns_get hx,if_neg zo,Rat.add_zero];exact h i z hz
theorem DnsE.done {D:List Fr} {T:List Tm} {m:Nat} (h:DnsE D T) (hl:D.length=m):D.map (fun x=>x.q)=denseF (prs T) m:=by
 apply List.ext_getElem?
 intro i;unfold denseF
 rw[List.getElem?_map,List.getElem?_map];by_cases hi:i<m
 ·rw[List.getElem?_range hi,List.getElem?_eq_getElem zo];simp only[Option.map_some]
  rw[h i _ (List.getElem?_eq_getElem zo)]
 ·rw[List.getElem?_eq_none zo,List.getElem?_eq_none (by rw[List.length_range];omega)];rfl
theorem idxP_get:∀(l:List Rat) (a:Int),pget (idxP l) a=if 0≤a∧a<(l.length:Int) then l.getD a.toNat 0 else 0:=by
 have key:∀(l:List Rat) (s:Nat) (a:Int),pget (l.mapIdx fun i q=>(((s+i:Nat):Int),q)) a=if(s:Int)≤a∧a<((s+l.length:Nat):Int) then l.getD (a.toNat-s) 0 else 0:=by
  intro l;induction l with
  | nil=>intro s a;rw[List.mapIdx_nil,pget_nil,if_neg (by rw[List.length_nil];omega)]
  | cons q l ih =>
   intro s a;rw[List.mapIdx_cons,zAc];have e:(l.mapIdx fun i q=>(((s+(i+1):Nat):Int),q))=l.mapIdx fun i q=>(((s+1+i:Nat):Int),q):=by
    congr 1
    funext i q
    congr 1
    omega
   rw[e,ih,List.length_cons];simp only[Nat.add_zero]
   by_cases h:(s:Int)=a
   ·rw[if_pos h,if_neg zo,if_pos zo,Rat.add_zero,show a.toNat-s=0 by omega];rfl
   ·rw[if_neg h];by_cases h2:(s:Int)≤a∧a<((s+(l.length+1):Nat):Int)
    ·rw[if_pos zo,if_pos h2,show a.toNat-s=(a.toNat-(s+1))+1 by omega,List.getD_cons_succ]
    ·rw[if_neg zo,if_neg h2]
 intro l a;have h:=key l 0 a;simp only[Nat.zero_add,Nat.sub_zero] at h
 unfold idxP
 simpa using h
def trnE (C:List (List (Int×Rat))):Nat→List (Int×Int×Rat)
 | 0=>[]
 | k+1=>trnE C k++(nrm (C.getD k [])).map fun x=>((k:Int),x.1,x.2)
def rowE (E:List (Int×Int×Rat)) (i:Int):List (Int×Rat):=(E.filter fun e=>decide (e.2.1=i)).map fun e=>(e.1,e.2.2)
def turnF (C:List (List (Int×Rat))) (i:Int):List (Int×Rat):=rowE (trnE C C.length) i
theorem rowE_append (E F:List (Int×Int×Rat)) (i:Int):rowE (E++F) i=rowE E i++rowE F i:=by unfold rowE;rw[List.filter_append,List.map_append]
theorem rowE_one (e:Int×Int×Rat) (i:Int):rowE [e] i=if e.2.1=i then [(e.1,e.2.2)] else []:=by
 unfold rowE
 rw[List.filter_cons,List.filter_nil];by_cases h:e.2.1=i
 ·rw[if_pos h,if_pos (by simpa using h)];rfl
 ·rw[if_neg h,if_neg (by simpa using h)];rfl
theorem rowE_col (k i:Int):∀{L:List (Int×Rat)},Nrm L→rowE (L.map fun x=>(k,x.1,x.2)) i=if pget L i=0 then [] else [(k,pget L i)]
 | [],_=>by rw[pget_nil,if_pos rfl];rfl
 | x :: L,h=>by
  have hr:=Rise.cons.1 h.rise;have e:rowE ((x :: L).map fun x=>(k,x.1,x.2)) i=rowE [(k,x.1,x.2)] i++rowE (L.map fun x=>(k,x.1,x.2)) i:=by rw[←rowE_append];rfl
  rw[e,rowE_one,rowE_col k i h.tail,zAc];by_cases hx:x.1=i
  ·have h0:pget L i=0:=pget_none fun y hy=>by have:=hr.1 y hy;omega
   have hz:=h.nz x List.mem_cons_self;simp only
   rw[if_pos hx,if_pos h0,if_pos hx,h0,Rat.add_zero,if_neg hz];rfl
  ·simp only
   rw[if_neg hx,if_neg hx];rfl
theorem trn_step (C:List (List (Int×Rat))) (k:Nat) (i:Int):rowE (trnE C (k+1)) i=rowE (trnE C k) i++(if pget (C.getD k []) i=0 then [] else [((k:Int),pget (C.getD k []) i)]):=by
 show rowE (trnE C k++_) i=_
 rw[rowE_append,rowE_col _ _ (nrm_nrm _),nrm_get]
def turnT (C:List (List (Int×Rat))) (n:Nat):List (List (Int×Rat)):=(List.range n).map fun(i:Nat)=>turnF C (i:Int)
open Go.RowKit Tw
def RowsE (V:List Vc) (E:List (Int×Int×Rat)):Prop:=∀(a:Nat) (v:Vc),V[a]?=some v→prs v.L=rowE E (a:Int)
def colE (k:Nat) (L:List (Int×Rat)):List (Int×Int×Rat):=L.map fun x=>((k:Int),x.1,x.2)
theorem colE_snoc (k:Nat) {T:List Tm} {j:Nat} {x:Tm} (h:T[j]?=some x):colE k (prs (T.take (j+1)))=colE k (prs (T.take j))++[((k:Int),x.at_,x.x.q)]:=by
 rw[take_snoc h,prs_append];exact List.map_append
theorem RowsE.skip {V:List Vc} {E:List (Int×Int×Rat)} (h:RowsE V E) {k at_:Int} {q:Rat} (ho:at_<0∨(V.length:Int)≤at_):RowsE V (E++[(k,at_,q)]):=fun a v hv=>by
 have ha:=(List.getElem?_eq_some_iff.1 hv).1;rw[rowE_append,rowE_one,if_neg (by simp only;omega),List.append_nil];exact h a v hv
theorem RowsE.step {V:List Vc} {E:List (Int×Int×Rat)} (h:RowsE V E) {a:Nat} {u:Vc} (hu:V[a]?=some u) (H:Option Addr) (m c:Nat) (t:Tm) (k:Int):RowsE (V.set a ⟨H,m,c,u.L++[⟨k,t.x⟩]⟩) (E++[(k,(a:Int),t.x.q)]):=fun b v hv=>by
 have ha:=(List.getElem?_eq_some_iff.1 hu).1;rw[rowE_append,rowE_one];by_cases e:b=a
 ·subst e;rw[List.getElem?_set_self ha,Option.some.injEq] at hv;subst hv;rw[if_pos rfl,prs_append,h b u hu];rfl
 ·rw[List.getElem?_set_ne (fun e2=>e e2.symm)] at hv;rw[if_neg (by simp only;omega),List.append_nil];exact h b v hv
theorem RowsE.done {V:List Vc} {C:List (List (Int×Rat))} {n:Nat} (h:RowsE V (trnE C C.length)) (hl:V.length=n):V.map (fun v=>prs v.L)=turnT C n:=by
 apply List.ext_getElem?
 intro a;unfold turnT
 rw[List.getElem?_map,List.getElem?_map];by_cases ha:a<n
 ·rw[List.getElem?_range ha,List.getElem?_eq_getElem zo];simp only[Option.map_some]
  rw[h a _ (List.getElem?_eq_getElem zo)];rfl
 ·rw[List.getElem?_eq_none zo,List.getElem?_eq_none (by rw[List.length_range];omega)];rfl
theorem trn_len (C:List (List (Int×Rat))) (i:Int):∀k,(rowE (trnE C k) i).length≤k
 | 0=>Nat.le_refl _
 | k+1=>by
  have:=trn_len C i k;rw[trn_step,List.length_append];split
  ·simp only[List.length_nil];omega
  ·simp only[List.length_cons,List.length_nil];omega
theorem RowsE.small {V:List Vc} {C:List (List (Int×Rat))} {k a:Nat} {L:List (Int×Rat)} {u:Vc} (h:RowsE V (trnE C k++colE k L)) (hu:V[a]?=some u):u.L.length≤k+L.length:=by
 have h1:=congrArg List.length (h a u hu);have h2:=trn_len C (a:Int) k;have h3:(rowE (colE k L) (a:Int)).length≤L.length:=by
  unfold rowE colE
  rw[List.length_map];refine Nat.le_trans (List.length_filter_le _ _) ?_;rw[List.length_map];exact Nat.le_refl _
 rw[prs_len,rowE_append,List.length_append] at h1;omega
theorem OnT.one {w:World} {M:Nat} {s s':Bool} {A A':Option Addr} {c l c' l':Nat} {q:Rat} (at_:Int) (h:RN w s A c l s' A' c' l' q) (hs:sz q+1≤M):OnT w [⟨at_,⟨s,A,c,l,s',A',c',l',q,true⟩⟩] (fun _=>M):=fun t ht=>by
 obtain rfl:=List.mem_singleton.1 ht;exact⟨h,rfl,hs⟩
open Go.RowKit Tw
theorem spS_lo {f:Rat→Rat→Rat} {B:List (Rat×Rat)} {M:List (Int×Rat)}:∀{P:List (Int×Rat)} {s r:Rat},s≤r→(∀t∈P,spT f B t≤t.2*pget M t.1)→P.foldl (fun s t=>s+spT f B t) s≤r+pdot P M
 | [],s,r,hs,_=>by rw[pdot_nil,Rat.add_zero];exact hs
 | t :: P,s,r,hs,h=>by
  rw[List.foldl_cons,pdot_cons,←Rat.add_assoc];have h1:=h t List.mem_cons_self;exact spS_lo (by grind) (fun x hx=>h x (List.mem_cons_of_mem _ hx))
theorem spS_hi {f:Rat→Rat→Rat} {B:List (Rat×Rat)} {M:List (Int×Rat)}:∀{P:List (Int×Rat)} {s r:Rat},r≤s→(∀t∈P,t.2*pget M t.1≤spT f B t)→r+pdot P M≤P.foldl (fun s t=>s+spT f B t) s
 | [],s,r,hs,_=>by rw[pdot_nil,Rat.add_zero];exact hs
 | t :: P,s,r,hs,h=>by
  rw[List.foldl_cons,pdot_cons,←Rat.add_assoc];have h1:=h t List.mem_cons_self;exact spS_hi (by grind) (fun x hx=>h x (List.mem_cons_of_mem _ hx))
theorem mul_between {q lo hi x:Rat} (h1:lo≤x) (h2:x≤hi):minQ (q*lo) (q*hi)≤q*x∧q*x≤maxQ (q*lo) (q*hi):=by
 unfold minQ maxQ
 rcases(Rat.le_total:0≤q∨q≤0) with hq | hq
 ·have a1:q*lo≤q*x:=Rat.mul_le_mul_of_nonneg_left h1 hq;have a2:q*x≤q*hi:=Rat.mul_le_mul_of_nonneg_left h2 hq;constructor<;>split<;>grind
 ·have hn:0≤-q:=by grind
  have a1:-q*lo≤-q*x:=Rat.mul_le_mul_of_nonneg_left h1 hn;have a2:-q*x≤-q*hi:=Rat.mul_le_mul_of_nonneg_left h2 hn;constructor<;>split<;>grind
end Go.Proofs.YtjkgjiofmgapfaaGreatDoor
