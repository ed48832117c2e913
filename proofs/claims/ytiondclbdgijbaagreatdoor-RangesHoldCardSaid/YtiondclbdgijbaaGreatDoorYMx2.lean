import Derived.Test.YtiondclbdgijbaaGreatDoorYRdV
import Derived.Test.YtiondclbdgijbaaGreatDoorYVj
import Derived.Test.YtiondclbdgijbaaGreatDoorYSo1
import Derived.Maps.OwnSet
set_option maxHeartbeats 4000000
set_option maxRecDepth 100000
namespace Go.Proofs.YtiondclbdgijbaaGreatDoor
open Go.RowKit Tw
section
variable {α:Type} {f:α→List Value} {k:Nat} {t te:TypeId}
theorem Elt.makeN (E:Elt f k t te) (z0:α) (hz0:∀i z,Tryz.prog.info? te=some i→i.zero=some z→z.cells.toList=f z0) {w:World} {ops:Array Oper} {rest:List Oper} {o:Oper} {a:Act} {Q:Exit→Act→World→Prop} (hgd:o.guard=none) (l c:Operand) (ho:o.op=.makeSlice t l c)
  (kl kc:IntKind) (n:Nat) (hl:a.eval l=.int kl (n:Int)) (hc:a.eval c=.int kc (n:Int)) (hn:n≤100000000000) (B:Nat) (hB:B≤w.heap.size)
  (hK:∀g w',OwnR w' B te k (.slice (some ⟨g,0,none⟩) n n) n (flat f (List.replicate n z0))→Below w.heap.size w w'→wpList Tryz.prog ops Q rest (a.put o.dst (.slice (some ⟨g,0,none⟩) n n)) w'):wpList Tryz.prog ops Q (o :: rest) a w:=by
 obtain⟨i,z,h1,h2,h3,h4,h5,h6⟩:=E.info;have hzc:=hz0 i z h1 h2;refine wpList_plain hgd fun K hK'=>?_;have hb:(i.bytes:Int)*(n:Int)≤281474976710656:=by
  have h:=xE h4 hn;have h':((i.bytes*n:Nat):Int)≤281474976710656:=zo;rwa [pF] at h'
 have hrun:=run_make (P:=Tryz.prog) w t te i z E.ut h1 h2 kl kc n n zo (Int.le_refl _) hb zo;simp only[Int.toNat_natCast] at hrun
 have hcells:(madeCells z.cells (n*i.size)).toList=flat f (List.replicate n z0):=by
  rw[h3];apply jF
  intro j;by_cases hj:j<n*k
  ·have k0:0<k:=by
    rcases qC k with h | h
    ·subst h;omega
    ·exact h
   have hi:j / k<n:=Nat.div_lt_of_lt_mul (by rw[qB];exact hj);have hm:j % k<k:=fC _ k0;have e:j / k*k+j % k=j:=by rw[qB];exact bC j k
   have h7:=flat_get E.len (List.replicate n z0) (j / k) z0 (by rw[List.getElem?_replicate,bB hi]) (j % k) hm;rw[e] at h7;rw[h7,←hzc,dE,dE];unfold madeCells
   rw[Array.getElem?_map,Array.getElem?_range,bB hj,vE,h5,getElem!_pos z.cells (j % k) zo,nD zo]
  ·rw[cB (by rw[Array.length_toList,size_madeCells];omega),cB (by rw[flat_len E.len,List.length_replicate];omega)]
 unfold Oper.wp
 simp[execOp,ho,hl,hc,hrun,Result.andThen]
 refine hK' _ _ (hK _ _ ⟨by rw[flat_len E.len,List.length_replicate],.inr ⟨w.heap.size,n,madeCells z.cells (n*i.size),rfl,hB,Bx.new w _ _,aA _,by unfold maxLen;omega,by rw[size_madeCells,h3],?_,h6.made _⟩⟩ (zAe _ _));rw[hcells,fA (by rw[flat_len E.len,List.length_replicate];exact aA _)]
end
def zTm:Tm:=⟨0,⟨false,none,0,0,false,none,0,0,0,true⟩⟩
theorem tm_zero {i:TypeInfo} {z:Value} (h:Tryz.prog.info? 60=some i) (hz:i.zero=some z):z.cells.toList=Tm.cs zTm:=by
 have h1:(Tryz.prog.info? 60).map (fun i=>i.zero)=some (some (.agg #[.int .i64 0,.bool false,.slice none 0 0,.bool false,.slice none 0 0])):=by kernel_rfl
 rw[h,vE,hz] at h1;obtain rfl:z=.agg #[.int .i64 0,.bool false,.slice none 0 0,.bool false,.slice none 0 0]:=by simpa using h1
 rfl
def idxT (L:List Fr):List Tm:=L.mapIdx fun i x=>⟨(i:Int),x⟩
def idxK (L:List Fr) (k:Nat):List Tm:=(idxT L).take k++List.replicate (L.length-k) zTm
def idxP (l:List Rat):List (Int×Rat):=l.mapIdx fun i q=>((i:Int),q)
theorem idxT_len (L:List Fr):(idxT L).length=L.length:=List.length_mapIdx
theorem idxT_get {L:List Fr} {i:Nat} {x:Fr} (h:L[i]?=some x):(idxT L)[i]?=some ⟨(i:Int),x⟩:=by unfold idxT;rw[List.getElem?_mapIdx,h];rfl
theorem idxK_len (L:List Fr) {k:Nat} (h:k≤L.length):(idxK L k).length=L.length:=by unfold idxK;rw[eD,mB,idxT_len,List.length_replicate];omega
theorem idxK_set {L:List Fr} {i:Nat} {x:Fr} (h:L[i]?=some x):(idxK L i).set i ⟨(i:Int),x⟩=idxK L (i+1):=by
 have hi:=(dC.1 h).1;have hl:((idxT L).take i).length=i:=by rw[mB,idxT_len];omega
 unfold idxK
 rw[List.set_append_right _ _ zo,hl,Nat.sub_self,zAi (idxT_get h),show L.length-i=(L.length-(i+1))+1 by omega,List.replicate_succ,sD,rE];rfl
theorem idxK_end {L:List Fr} {n:Nat} (h:L.length=n):idxK L n=idxT L:=by
 unfold idxK
 rw[fA (by rw[idxT_len];omega),h,Nat.sub_self,List.replicate_zero,eF]
theorem idx_prs (L:List Fr):prs (idxT L)=idxP (L.map fun x=>x.q):=by
 unfold prs idxT idxP
 apply jF
 intro i;rw[mA,List.getElem?_mapIdx,List.getElem?_mapIdx,mA];cases L[i]?<;>rfl
theorem idx_rise (L:List Fr):Rise (prs (idxT L)):=by
 rw[idx_prs];unfold Rise idxP
 rw[List.pairwise_iff_getElem];intro i j hi hj hij;rw[List.getElem_mapIdx,List.getElem_mapIdx];simp only
 omega
def OF1 (w:World) (g n:Nat) (L:List Fr) (gk:Nat) (s:Value) (wr:World):Prop:=∃i:Nat,i≤n∧n-i=gk∧s=.int .i64 (i:Int)∧OwnR wr w.heap.size 60 5 (.slice (some ⟨g,0,none⟩) n n) n (flat Tm.cs (idxK L i))∧Below w.heap.size w wr
theorem ofV_q {w:World} {A:Option Addr} {n c m:Nat} {L:List Fr} (h:Sl Fr.cs 4 w A n c L) (hok:Hid (∀x∈L,FrOk w m x)) (hm:m≤15000000000) (hn:n≤1000000) (hT:Hid (Tab w)) :
  Calls Tryz.prog 89 #[.slice A n c] w (TellsV w (nrm (idxP (L.map fun x=>x.q))) (m+2)):=by
 have H:=zh h;have HLN:=zh h.1;clear h;go_enter Tryz.func89,Tryz.ntmps89
 go_wp2_with (at_make;refine And.left (b:=True) ?_)
 refine⟨?_,trivial⟩;refine Elt.makeN elt_term zTm (fun i z h1 h2=>tm_zero h1 h2) rfl _ _ rfl .i64 .i64 n rfl rfl zo w.heap.size (aA _) ?_;intro g w1 ho1 b1;have HO1:Hid (OwnR w1 w.heap.size 60 5 (.slice (some ⟨g,0,none⟩) n n) n (flat Tm.cs (idxK L 0))):=zh (by unfold idxK;rw[HLN.out,List.take_zero,uE,Nat.sub_zero];exact ho1);have HB1:=zh b1;clear ho1 b1;go_wp2_with fail
 go_loopg [11] n (fun gk s wr=>OF1 w g n L gk s wr)
 case atStart=>exact⟨0,uA _,rfl,rfl,HO1.out.below (by go_grown),bT HB1.out⟩
 case round =>
  clear HO1 HB1;obtain⟨i,hi,hgk,rfl,ho,hB⟩:=hrel;have HGK:=zh hgk;clear hgk;by_cases hlt:i<n
  ·obtain⟨b,off,rfl,hel⟩:=H.out.at Fr.cs_len zo zo;obtain⟨x,hx⟩:∃x,L[i]?=some x:=⟨L[i]'(by rw[HLN.out];exact hlt),cA _⟩;have hnd:=hel i x hx;obtain⟨y,hy⟩:∃y,(idxK L i)[i]?=some y:=⟨(idxK L i)[i]'(by rw[idxK_len L (by rw[HLN.out];exact hi),HLN.out];exact hlt),cA _⟩;have HY:=zh hy;have HE:=zh (idxK_set hx);have i1:(i:Int)<(n:Int):=zo;have i2:(0:Int)≤(i:Int):=zo;clear hel hx hy;have Bz:=zr wr;obtain⟨pA0,pA1,pA2,pA3,-⟩:=(hnd.below (bT hB Bz)).ez;go_upto_region 5 with(fail)
   obtain⟨V1,hW,x0,hN⟩:=zAb wr #[.bool x.s,.slice x.A x.l x.c,.bool x.s',.slice x.A' x.l' x.c'] 47;rw[←hW];clear hW;obtain⟨v0,hb0⟩:=ze wr.heap.size;rw[←hb0] at x0 ⊢;have ow_0:w.heap.size≤v0:=zi (zw hB Bz);replace ho:=ho.below hN;replace hB:=bT (bT hB Bz) hN;have HX0:=zh x0;clear x0 hN Bz hb0;have Bz:=zr V1;clear pA0 pA1 pA2 pA3;obtain⟨pa0,pa1,pa2,pa3,-⟩:=(zx HX0 Bz).cz;have pB0:=cell_0 ho HY.out;have pB1:=elt_vec.cell ho HY.out (j:=1) (u:=.bool y.x.s) zo rfl;have pB2:=elt_vec.cell ho HY.out (j:=2) (u:=.slice y.x.A y.x.l y.x.c) zo rfl;have pB3:=elt_vec.cell ho HY.out (j:=3) (u:=.bool y.x.s') zo rfl;have pB4:=elt_vec.cell ho HY.out (j:=4) (u:=.slice y.x.A' y.x.l' y.x.c') zo rfl;have fB0:=ho.frozen (i*5);have fB1:=ho.frozen (i*5+1);have fB2:=ho.frozen (i*5+2);have fB3:=ho.frozen (i*5+3);have fB4:=ho.frozen (i*5+4);have y51:=ho.blk.1;go_upto_region 6 with(fail)
   obtain⟨V2,hV,ho2,hg2⟩:=tm_store elt_vec ho HY.out ⟨(i:Int),x⟩;rw[←hV];clear hV;replace hB:=(bT hB Bz).trans (hg2.below (zi (zw hB Bz)) (fun g' hg'=>ho.base g' hg'));clear HX0;clear ho;have ho:=ho2;clear ho2 hg2 Bz;have Bz:=zr V2;clear pa0 pa1 pa2 pa3 pB0 pB1 pB2 pB3 pB4 fB0 fB1 fB2 fB3 fB4 y51;go_wp2_with fail
   go_roundg (n-(i+1))
   case measure=>have:=HGK.out;omega
   case rel=>exact⟨i+1,zo,rfl,by go_num,by have h9:=OwnR.below ho;rw[HE.out] at h9;exact h9,bT (bT hB Bz)⟩
  ·obtain rfl:i=n:=zo;have i1:¬(i:Int)<(i:Int):=zo;rw[idxK_end HLN.out] at ho;have hfr:∀t∈idxT L,FrOk w m t.x:=fun t ht=>by
    obtain⟨j,hj⟩:=nE ht;unfold idxT at hj
    rw[List.getElem?_mapIdx] at hj;cases e:L[j]? with
    | none=>rw[e] at hj;cases hj
    | some x=>rw[e] at hj;cases hj;exact hok.out x (eA e)
   have hg:GV wr (some ⟨g,0,none⟩) i i (idxP (L.map fun x=>x.q)) (m+2):=⟨idxT L,ho.sl' elt_vec (by rw[idxT_len];exact HLN.out),fun t ht=>((hfr t ht).below hB).rep,idx_prs L,wsum_rise (idx_rise L) (fun t ht=>by have:=(hfr t ht).r.len;unfold dgT;omega),(fun e=>(by cases e))⟩;have hnq:=normV_q hg zo hn (zh (hT.out.below hB));clear hg ho;go_wp2_with fail
   with_reducible refine hnq.mono ?_
   rintro e w3 ⟨A3,n3,c3,rfl,h3,b3⟩;have H3:=zh h3;clear h3 hnq;go_wp2_with fail
   go_ret
   exact⟨A3,n3,c3,rfl,H3.out,bT hB b3⟩
theorem idxP_get:∀(l:List Rat) (a:Int),pget (idxP l) a=if 0≤a∧a<(l.length:Int) then l.getD a.toNat 0 else 0:=by
 have key:∀(l:List Rat) (s:Nat) (a:Int),pget (l.mapIdx fun i q=>(((s+i:Nat):Int),q)) a=if(s:Int)≤a∧a<((s+l.length:Nat):Int) then l.getD (a.toNat-s) 0 else 0:=by
  intro l;induction l with
  | nil=>intro s a;rw[List.mapIdx_nil,pget_nil,dA (by rw[List.length_nil];omega)]
  | cons q l ih =>
   intro s a;rw[List.mapIdx_cons,zAd];have e:(l.mapIdx fun i q=>(((s+(i+1):Nat):Int),q))=l.mapIdx fun i q=>(((s+1+i:Nat):Int),q):=by
    congr 1
    funext i q
    congr 1
    omega
   rw[e,ih,cC];simp only[bD]
   by_cases h:(s:Int)=a
   ·rw[bB h,dA zo,bB zo,sE,show a.toNat-s=0 by omega];rfl
   ·rw[dA h];by_cases h2:(s:Int)≤a∧a<((s+(l.length+1):Nat):Int)
    ·rw[bB zo,bB h2,show a.toNat-s=(a.toNat-(s+1))+1 by omega,List.getD_cons_succ]
    ·rw[dA zo,dA h2]
 intro l a;have h:=key l 0 a;simp only[mC,Nat.sub_zero] at h
 unfold idxP
 simpa using h
end Go.Proofs.YtiondclbdgijbaaGreatDoor
