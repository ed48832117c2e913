/-
  matrix.Inverse, matrix.Move. Written by wip/gen/mx2.py.
-/
import Derived.Test.YtljjgfmeaejnfaaGreatDoorYMx1
import Derived.Test.YtljjgfmeaejnfaaGreatDoorYVj
import Derived.Test.YtljjgfmeaejnfaaGreatDoorYSo4
set_option maxHeartbeats 8000000
set_option maxRecDepth 100000
namespace Go.Proofs.YtljjgfmeaejnfaaGreatDoor
open Go.RowKit Tw
theorem elt_ics:Elt ics 1 34 3:=Elt.of (.int .i64 0) 8 Tryz.underlying34 (by kernel_rfl) zo (by kernel_rfl) (nou_list (by kernel_rfl)) ics_len (fun x u hu=>by simp[ics] at hu;subst hu;rfl) (fun x u hu n=>by simp[ics] at hu;subst hu;simp)
section
variable {α:Type} {f:α→List Value} {k:Nat} {t te:TypeId}
theorem Elt.makeN (E:Elt f k t te) (z0:α) (hz0:∀i z,Tryz.prog.info? te=some i→i.zero=some z→z.cells.toList=f z0) {w:World} {ops:Array Oper} {rest:List Oper} {o:Oper} {a:Act} {Q:Exit→Act→World→Prop} (hgd:o.guard=none) (l c:Operand) (ho:o.op=.makeSlice t l c)
  (kl kc:IntKind) (n:Nat) (hl:a.eval l=.int kl (n:Int)) (hc:a.eval c=.int kc (n:Int)) (hn:n≤100000000000) (B:Nat) (hB:B≤w.heap.size)
  (hK:∀g w',OwnR w' B te k (.slice (some ⟨g,0,none⟩) n n) n (flat f (List.replicate n z0))→Below w.heap.size w w'→wpList Tryz.prog ops Q rest (a.put o.dst (.slice (some ⟨g,0,none⟩) n n)) w'):wpList Tryz.prog ops Q (o :: rest) a w:=by
 obtain⟨i,z,h1,h2,h3,h4,h5,h6⟩:=E.info;have hzc:=hz0 i z h1 h2;refine wpList_plain hgd fun K hK'=>?_;have hb:(i.bytes:Int)*(n:Int)≤281474976710656:=by
  have h:=Nat.mul_le_mul h4 hn;have h':((i.bytes*n:Nat):Int)≤281474976710656:=zo;rwa [Int.natCast_mul] at h'
 have hrun:=run_make (P:=Tryz.prog) w t te i z E.ut h1 h2 kl kc n n zo (Int.le_refl _) hb zo;simp only[Int.toNat_natCast] at hrun
 have hcells:(madeCells z.cells (n*i.size)).toList=flat f (List.replicate n z0):=by
  rw[h3];apply List.ext_getElem?
  intro j;by_cases hj:j<n*k
  ·have k0:0<k:=by
    rcases Nat.eq_zero_or_pos k with h | h
    ·subst h;omega
    ·exact h
   have hi:j / k<n:=Nat.div_lt_of_lt_mul (by rw[Nat.mul_comm];exact hj);have hm:j % k<k:=Nat.mod_lt _ k0;have e:j / k*k+j % k=j:=by rw[Nat.mul_comm];exact Nat.div_add_mod j k
   have h7:=flat_get E.len (List.replicate n z0) (j / k) z0 (by rw[List.getElem?_replicate,if_pos hi]) (j % k) hm;rw[e] at h7;rw[h7,←hzc,Array.getElem?_toList,Array.getElem?_toList];unfold madeCells
   rw[Array.getElem?_map,Array.getElem?_range,if_pos hj,Option.map_some,h5,getElem!_pos z.cells (j % k) zo,Array.getElem?_eq_getElem zo]
  ·rw[List.getElem?_eq_none (by rw[Array.length_toList,size_madeCells];omega),List.getElem?_eq_none (by rw[flat_len E.len,List.length_replicate];omega)]
 unfold Oper.wp
 simp[execOp,ho,hl,hc,hrun,Result.andThen]
 refine hK' _ _ (hK _ _ ⟨by rw[flat_len E.len,List.length_replicate],.inr ⟨w.heap.size,n,madeCells z.cells (n*i.size),rfl,hB,Bx.new w _ _,Nat.le_refl _,by unfold maxLen;omega,by rw[size_madeCells,h3],?_,h6.made _⟩⟩ (zAj _ _));rw[hcells,List.take_of_length_le (by rw[flat_len E.len,List.length_replicate];exact Nat.le_refl _)]
end
theorem int_zero {i:TypeInfo} {z:Value} (h:Tryz.prog.info? 3=some i) (hz:i.zero=some z):z.cells.toList=ics 0:=by
 have h1:(Tryz.prog.info? 3).map (fun i=>i.zero)=some (some (.int .i64 0)):=by kernel_rfl
 rw[h,Option.map_some,hz] at h1;obtain rfl:z=.int .i64 0:=by simpa using h1
 rfl
theorem int_store {w:World} {B g n cap i:Nat} {L:List Int} (h:OwnR w B 3 1 (.slice (some ⟨g,0,none⟩) n cap) n (flat ics L)) {y:Int} (hy:L[i]?=some y) (x:Int) :
  ∃V,V=w.setCell ⟨g,i,none⟩ (.int .i64 x)∧OwnR V B 3 1 (.slice (some ⟨g,0,none⟩) n cap) n (flat ics (L.set i x))∧Grew w V (.slice (some ⟨g,0,none⟩) n cap) (.slice (some ⟨g,0,none⟩) n cap):=by
 have:=elt_ics.sets h hy (y:=x) [(0,.int .i64 x)] (fun p hp=>by simp at hp;subst hp;exact⟨by simp,by simp⟩) rfl;refine⟨_,rfl,?_⟩;have e:setsW w g (i*1) [(0,.int .i64 x)]=w.setCell ⟨g,i,none⟩ (.int .i64 x):=by simp[setsW]
 rw[e] at this;exact this
theorem int_cell {w:World} {B g n cap i:Nat} {L:List Int} (h:OwnR w B 3 1 (.slice (some ⟨g,0,none⟩) n cap) n (flat ics L)) {y:Int} (hy:L[i]?=some y):w.cell? ⟨g,i,none⟩=some (.int .i64 y):=by
 have:=elt_ics.cell h hy (j:=0) (u:=.int .i64 y) zo rfl;simpa using this
def invK (L:List Int):Nat→List Int
 | 0=>List.replicate L.length 0
 | k+1=>(invK L k).set (L.getD k 0).toNat (k:Int)
theorem invK_len (L:List Int):∀k,(invK L k).length=L.length
 | 0=>List.length_replicate
 | k+1=>by unfold invK;rw[List.length_set,invK_len L k]
def invL (L:List Int):List Int:=invK L L.length
theorem perm_mem {L:List Int} (h:permL L=true) {i:Nat} {x:Int} (hx:L[i]?=some x):0≤x∧x<(L.length:Int):=by
 unfold permL at h
 simp only[Bool.and_eq_true,decide_eq_true_eq,List.all_eq_true] at h
 exact h.2 x (List.mem_of_getElem? hx)
def TellsIE (w:World) (l:List Int) (z:Int) (e:Ending) (w':World):Prop:=∃A n c,e=.returned (.tuple #[.slice A n c,.int .i64 z])∧Sl ics 1 w' A n c l∧n≤c∧Below w.heap.size w w'
def IV1 (w:World) (g n:Nat) (L:List Int) (gk:Nat) (s:Value) (wr:World):Prop:=∃i:Nat,i≤n∧n-i=gk∧s=.int .i64 (i:Int)∧OwnR wr w.heap.size 3 1 (.slice (some ⟨g,0,none⟩) n n) n (flat ics (invK L i))∧Below w.heap.size w wr
theorem inverse_q {w:World} {A:Option Addr} {n c:Nat} {L:List Int} (h:Sl ics 1 w A n c L) (hw:Hid (∀x∈L,I64 x)) (hn:n≤1000000) :
  Calls Tryz.prog 52 #[.slice A n c] w (if permL L=true then TellsIE w (invL L) 0 else TellsIE w [] 2):=by
 have H:=zh h;have HLN:=zh h.1;cases hp:permL L
 ·rw[if_neg (by simp)];have hpq:=perm_q h hw hn false (zh hp);clear h hp;go_enter Tryz.func52,Tryz.ntmps52
  go_wp2_with fail
  with_reducible refine hpq.mono ?_
  rintro e w1 ⟨rfl,b1⟩;go_wp2_with fail
  go_ret2
  exact⟨none,0,0,rfl,Sl.nil _,Nat.le_refl _,b1⟩
 ·rw[if_pos rfl];have hpq:=perm_q h hw hn true (zh hp);have HP:=zh hp;clear h hp;go_enter Tryz.func52,Tryz.ntmps52
  go_wp2_with fail
  with_reducible refine hpq.mono ?_
  rintro e w1 ⟨rfl,b1⟩;clear hpq;go_wp2_with (at_make;refine And.left (b:=True) ?_)
  refine⟨?_,trivial⟩;refine Elt.makeN elt_ics 0 (fun i z h1 h2=>by have h3:Tryz.prog.info? 3=some i:=h1;exact int_zero h3 h2) rfl _ _ rfl .i64 .i64 n rfl rfl zo w.heap.size b1.size ?_;intro g w2 ho2 b2;have HO2:Hid (OwnR w2 w.heap.size 3 1 (.slice (some ⟨g,0,none⟩) n n) n (flat ics (invK L 0))):=zh (by unfold invK;rw[HLN.out];exact ho2);have HB2:=zh (zAa b1 b2);clear ho2 b1 b2;go_wp2_with fail
  go_loopg [15] n (fun gk s wr=>IV1 w g n L gk s wr)
  case atStart=>exact⟨0,Nat.zero_le _,rfl,rfl,HO2.out.below (by go_grown),zAa HB2.out (by go_grown)⟩
  case round =>
   clear HO2 HB2;obtain⟨i,hi,hgk,rfl,ho,hB⟩:=hrel;have HGK:=zh hgk;clear hgk;by_cases hlt:i<n
   ·obtain⟨b,off,rfl,hel⟩:=H.out.at ics_len zo zo;obtain⟨x,hx⟩:∃x,L[i]?=some x:=⟨L[i]'(by rw[HLN.out];exact hlt),List.getElem?_eq_getElem _⟩;have hxr:=perm_mem HP.out hx;rw[HLN.out] at hxr;obtain⟨v,rfl⟩:∃v:Nat,x=(v:Int):=⟨x.toNat,zo⟩;have hcell:wr.cell? ⟨b,off+i,none⟩=some (.int .i64 (v:Int)):=by
     have h1:=hel i _ hx 0 (.int .i64 (v:Int)) rfl;rw[Nat.mul_one,Nat.add_zero] at h1;exact(hB.cell (World.block_lt_of_cell? w _ h1)).trans h1
    obtain⟨y,hy⟩:∃y,(invK L i)[v]?=some y:=⟨(invK L i)[v]'(by rw[invK_len,HLN.out];omega),List.getElem?_eq_getElem _⟩;have p1:=int_cell ho hy;have f1:=ho.frozen v;have y1:=ho.blk.1;have HY:=zh hy;have HE:Hid ((invK L i).set v (i:Int)=invK L (i+1)):=zh (by
     show _=(invK L i).set (L.getD i 0).toNat (i:Int)
     rw[List.getD_eq_getElem?_getD,hx];rfl)
    have i1:(i:Int)<(n:Int):=zo;have i2:(0:Int)≤(i:Int):=zo;have v1:(v:Int)<(n:Int):=zo;have v2:(0:Int)≤(v:Int):=zo;clear hel hx hy;go_upto_region 8 with(fail)
    obtain⟨V,hV,ho2,hg2⟩:=int_store ho HY.out (i:Int);rw[←hV];clear hV;have HB2:Hid (Below w.heap.size w V):=zh (hB.trans (hg2.below hB.size (fun g' hg'=>ho.base g' hg')));rw[HE.out] at ho2;have HO2:=zh ho2;clear ho2 hg2 ho p1 f1 y1 hB;go_wp2_with fail
    go_roundg (n-(i+1))
    case measure=>have:=HGK.out;omega
    case rel=>exact⟨i+1,zo,rfl,by go_num,HO2.out.below (by go_grown),zAa HB2.out (by go_grown)⟩
   ·obtain rfl:i=n:=zo;have i1:¬(i:Int)<(i:Int):=zo;have HS:=zh (ho.sl' elt_ics (ho.eltn elt_ics zo));clear ho;go_wp2_with fail
    go_ret2
    refine⟨_,_,_,rfl,?_,Nat.le_refl _,zAa hB (by go_grown)⟩;unfold invL
    rw[HLN.out];exact HS.out.below (by go_grown)
open Go.RowKit Tw
theorem at_store {t:TypeId} (E:Elt Tm.cs 5 t 114) {w:World} {B g n cap i:Nat} {L:List Tm} (h:OwnR w B 114 5 (.slice (some ⟨g,0,none⟩) n cap) n (flat Tm.cs L)) {x:Tm} (hx:L[i]?=some x) (y:Int) :
  ∃V,V=w.setCell ⟨g,i*5,none⟩ (.int .i64 y)∧OwnR V B 114 5 (.slice (some ⟨g,0,none⟩) n cap) n (flat Tm.cs (L.set i ⟨y,x.x⟩))∧Grew w V (.slice (some ⟨g,0,none⟩) n cap) (.slice (some ⟨g,0,none⟩) n cap):=by
 have:=E.sets h hx (y:=⟨y,x.x⟩) [(0,.int .i64 y)] (fun p hp=>by simp at hp;subst hp;exact⟨by simp,by simp⟩) rfl;exact⟨_,rfl,this⟩
def mvT (L:List Int) (t:Tm):Tm:=⟨L.getD t.at_.toNat 0,t.x⟩
def mvK (L:List Int) (T:List Tm) (i:Nat):List Tm:=(T.take i).map (mvT L)++T.drop i
def movF (L:List Int) (P:List (Int×Rat)):List (Int×Rat):=P.map fun x=>(L.getD x.1.toNat 0,x.2)
def okM (n:Nat) (P:List (Int×Rat)):Bool:=P.all fun x=>decide (0≤x.1)&&decide (x.1<(n:Int))
theorem mvK_get {L:List Int} {T:List Tm} {i:Nat} {x:Tm} (h:T[i]?=some x):(mvK L T i)[i]?=some x:=by
 have hi:=(List.getElem?_eq_some_iff.1 h).1;unfold mvK
 rw[List.getElem?_append_right (by simp;omega),List.length_map,List.length_take,Nat.min_eq_left zo,Nat.sub_self,List.getElem?_drop,Nat.add_zero];exact h
theorem mvK_set {L:List Int} {T:List Tm} {i:Nat} {x:Tm} (h:T[i]?=some x):(mvK L T i).set i (mvT L x)=mvK L T (i+1):=by
 have hi:=(List.getElem?_eq_some_iff.1 h).1;have hl:((T.take i).map (mvT L)).length=i:=by rw[List.length_map,List.length_take,Nat.min_eq_left zo]
 unfold mvK
 rw[List.set_append_right _ _ zo,hl,Nat.sub_self,List.drop_eq_getElem_cons hi,(List.getElem?_eq_some_iff.1 h).2,zAk h,List.map_append];simp
theorem mvK_end {L:List Int} {T:List Tm} {n:Nat} (h:T.length=n):mvK L T n=T.map (mvT L):=by
 unfold mvK
 rw[List.take_of_length_le zo,List.drop_eq_nil_of_le zo,List.append_nil]
theorem mv_prs (L:List Int) (T:List Tm):prs (T.map (mvT L))=movF L (prs T):=by
 unfold prs movF
 rw[List.map_map,List.map_map];rfl
theorem wsum_apart {L:List Tm} {M:Nat} (hr:L.Pairwise fun x y=>x.at_≠y.at_) (h:∀t∈L,dgT t+2≤M) (a:Int):wsum L a≤M:=by
 induction L with
 | nil=>exact Nat.zero_le _
 | cons x L ih =>
  have hc:=List.pairwise_cons.1 hr;simp only[wsum]
  by_cases e:x.at_=a
  ·subst e;rw[if_pos rfl,wsum_none (fun t ht e=>hc.1 t ht e.symm)];exact h x List.mem_cons_self
  ·rw[if_neg e,Nat.zero_add];exact ih hc.2 fun t ht=>h t (List.mem_cons_of_mem _ ht)
theorem mv_apart {L:List Int} {T:List Tm} (hp:permL L=true) (hr:Rise (prs T)) (ho:∀t∈T,0≤t.at_∧t.at_<(L.length:Int)):(T.map (mvT L)).Pairwise fun x y=>x.at_≠y.at_:=by
 have hnd:L.Nodup:=by
  unfold permL at hp
  simp only[Bool.and_eq_true,decide_eq_true_eq] at hp
  exact hp.1
 rw[List.pairwise_map];have h1:T.Pairwise fun x y=>x.at_<y.at_:=by
  have h2:=hr;unfold Rise prs at h2
  rw[List.pairwise_map] at h2;exact h2
 refine h1.imp_of_mem fun {x y} hx hy hxy e=>?_;have hx2:=ho x hx;have hy2:=ho y hy;have e2:L.getD x.at_.toNat 0=L.getD y.at_.toNat 0:=e;rw[List.getD_eq_getElem?_getD,List.getD_eq_getElem?_getD,List.getElem?_eq_getElem zo,List.getElem?_eq_getElem zo] at e2;simp only[Option.getD_some] at e2
 have:=(List.getElem_inj hnd).1 e2;omega
def TellsVE (w:World) (P:List (Int×Rat)) (M:Nat) (e:Ending) (w':World):Prop:=∃A n c,e=.returned (.tuple #[.slice A n c,.int .i64 0])∧NV w' A n c P M∧Below w.heap.size w w'
def TellsE2 (w:World) (e:Ending) (w':World):Prop:=e=.returned (.tuple #[.slice none 0 0,.int .i64 2])∧Below w.heap.size w w'
def TellsMv (w:World) (n:Nat) (L:List Int) (P:List (Int×Rat)) (M:Nat) (e:Ending) (w':World):Prop:=if okM n (nrm P)=true then TellsVE w (nrm (movF L (nrm P))) (M+1) e w' else TellsE2 w e w'
def MV1 (w:World) (g nm cm n:Nat) (L:List Int) (T:List Tm) (M:Nat) (gk:Nat) (s:Value) (wr:World):Prop:=∃i:Nat,i≤nm∧nm-i=gk∧s=.int .i64 (i:Int)∧OwnR wr w.heap.size 114 5 (.slice (some ⟨g,0,none⟩) nm cm) nm (flat Tm.cs (mvK L T i))∧OnT wr T (fun _=>M)∧(∀t∈T.take i,0≤t.at_∧t.at_<(n:Int))∧Below w.heap.size w wr
theorem move_no {w:World} {A X:Option Addr} {n c nx cx:Nat} {L:List Int} (h:Sl ics 1 w A n c L) (hw:Hid (∀x∈L,I64 x)) (hn:n≤1000000) (hp:permL L=false) :
  Calls Tryz.prog 54 #[.slice A n c,.slice X nx cx] w (TellsE2 w):=by
 have hpq:=perm_q h hw hn false (zh hp);clear h hp;go_enter Tryz.func54,Tryz.ntmps54
 go_wp2_with fail
 with_reducible refine hpq.mono ?_
 rintro e w1 ⟨rfl,b1⟩;go_wp2_with fail
 go_ret2
 exact⟨rfl,b1⟩
theorem okM_all {n:Nat} {T:List Tm} (h:∀t∈T,0≤t.at_∧t.at_<(n:Int)):okM n (prs T)=true:=by
 unfold okM
 rw[List.all_eq_true];intro x hx;obtain⟨t,ht,rfl⟩:=prs_mem hx;have:=h t ht;simp only[Bool.and_eq_true,decide_eq_true_eq]
 exact this
theorem okM_no {n:Nat} {T:List Tm} {i:Nat} {t:Tm} (ht:T[i]?=some t) (h:t.at_<0∨(n:Int)≤t.at_):¬okM n (prs T)=true:=by
 unfold okM
 rw[List.all_eq_true];intro hx;have:=hx (t.at_,t.x.q) (List.mem_map_of_mem (List.mem_of_getElem? ht));simp only[Bool.and_eq_true,decide_eq_true_eq] at this
 omega
theorem move_yes {w:World} {A X:Option Addr} {n c nx cx M:Nat} {L:List Int} {P:List (Int×Rat)} (h:Sl ics 1 w A n c L) (hw:Hid (∀x∈L,I64 x)) (hn:n≤1000000) (hp:permL L=true) (hx:GV w X nx cx P M) (hM:M≤18000) (hnx:nx≤1000000) (hT:Hid (Tab w)) :
  Calls Tryz.prog 54 #[.slice A n c,.slice X nx cx] w (TellsMv w n L P M):=by
 have H:=zh h;have HLN:=zh h.1;have hpq:=perm_q h hw hn true (zh hp);have HP:=zh hp;have HX:=zh hx;have HPL:=zh hx.len;clear h hp hx;go_enter Tryz.func54,Tryz.ntmps54
 go_wp2_with fail
 with_reducible refine hpq.mono ?_
 rintro e w1 ⟨rfl,b1⟩;have hnq:=normO_q (HX.out.below b1) zo hnx (zh (hT.out.below b1));clear hpq;go_wp2_with fail
 with_reducible refine hnq.mono ?_
 rintro e w2 ⟨Am,nm,cm,T,rfl,ho2,on2,ep,b2⟩;have HO2:=zh (ho2.rebase b1.size);have HN2:=zh on2;have HEP:=zh ep;have HTL:=zh (ho2.eltn elt_vec zo);have HB2:=zh (zAa b1 b2);have hnm:nm≤1000000:=by
  have h1:=nrm_len P;rw[←ep,prs_len,ho2.eltn elt_vec zo] at h1;have:=HPL.out;omega
 clear hnq ho2 on2 ep b1 b2;by_cases hn0:nm=0
 ·subst hn0;have HT0:Hid (T=[]):=zh (List.eq_nil_of_length_eq_zero HTL.out);have hok:okM n (prs T)=true:=by rw[HT0.out];rfl
  have HOK:=zh hok;clear hok;go_wp2_with fail
  go_loopg [16] 0 (fun gk s wr=>gk=0∧s=.int .i64 0∧wr=w2)
  case atStart=>exact⟨rfl,rfl,rfl⟩
  case round =>
   obtain⟨rfl,rfl,rfl⟩:=hrel;have hg:GV wr Am 0 cm (movF L (prs T)) (M+1):=⟨[],by have:=HO2.out.sl' elt_vec HTL.out;rw[HT0.out] at this;exact this,(fun t ht=>(by cases ht)),by rw[HT0.out];rfl,(fun a=>Nat.zero_le _),fun hn=>by obtain⟨_,_,e9,h9,_⟩:=HO2.out.slice;cases e9;exact(h9 hn).2⟩;have hnq:=normV_q hg zo zo (zh (hT.out.below HB2.out));clear hg;go_wp2_with fail
   with_reducible refine hnq.mono ?_
   rintro e w3 ⟨A3,n3,c3,rfl,h3,b3⟩;have H3:=zh h3;clear h3 hnq;go_wp2_with fail
   go_ret2
   unfold TellsMv
   rw[←HEP.out,if_pos HOK.out];exact⟨A3,n3,c3,rfl,H3.out,zAa HB2.out b3⟩
 ·obtain⟨g,rfl⟩:=HO2.out.some zo;go_wp2_with fail
  go_loopg [16] nm (fun gk s wr=>MV1 w g nm cm n L T M gk s wr)
  case atStart=>exact⟨0,Nat.zero_le _,rfl,rfl,by unfold mvK;rw[List.take_zero,List.map_nil,List.nil_append,List.drop_zero];exact HO2.out,HN2.out,by simp,HB2.out⟩
  case round =>
   clear HO2 HN2 HB2;obtain⟨i,hi,hgk,rfl,ho,hon,hrg,hB⟩:=hrel;have HGK:=zh hgk;have HRG:=zh hrg;clear hgk hrg;by_cases hlt:i<nm
   ·obtain⟨x,hx⟩:∃x,T[i]?=some x:=⟨T[i]'(by rw[HTL.out];exact hlt),List.getElem?_eq_getElem _⟩;have HI:Hid ((mvK L T i)[i]?=some x):=zh (mvK_get hx);have i1:(i:Int)<(nm:Int):=zo;have i2:(0:Int)≤(i:Int):=zo;by_cases hx0:x.at_<0
    ·have HNO:Hid (¬okM n (prs T)=true):=zh (okM_no hx (.inl hx0));have g1:x.at_<0:=hx0;clear hx hx0;have Bz:=Below.refl wr.heap.size wr;have pA0:=cell_0 ho HI.out;have pA1:=elt_vec.cell ho HI.out (j:=1) (u:=.bool x.x.s) zo rfl;have pA2:=elt_vec.cell ho HI.out (j:=2) (u:=.slice x.x.A x.x.l x.x.c) zo rfl;have pA3:=elt_vec.cell ho HI.out (j:=3) (u:=.bool x.x.s') zo rfl;have pA4:=elt_vec.cell ho HI.out (j:=4) (u:=.slice x.x.A' x.x.l' x.x.c') zo rfl;go_upto_region 7 with(fail)
     obtain⟨V1,hW,x0,hN⟩:=zAf wr #[.int .i64 x.at_,.bool x.x.s,.slice x.x.A x.x.l x.x.c,.bool x.x.s',.slice x.x.A' x.x.l' x.x.c'] 114;rw[←hW];clear hW;obtain⟨v0,hb0⟩:∃b,b=wr.heap.size:=⟨_,rfl⟩;rw[←hb0] at x0 ⊢;have ow_0:w.heap.size≤v0:=zia (zw hB Bz);replace hB:=zAa (zAa hB Bz) hN;have HX0:=zh x0;clear x0 hN Bz hb0;have Bz:=Below.refl V1.heap.size V1;clear pA0 pA1 pA2 pA3 pA4;have pa0:=(zxb HX0 Bz).cell 0 (.int .i64 x.at_) rfl;go_wp2_with fail
     go_ret2
     have hF:=zAa (c:=V1) hB Bz;unfold TellsMv
     rw[←HEP.out,if_neg HNO.out];exact⟨rfl,zAa hF (by go_grown)⟩
    ·have g1:¬x.at_<0:=hx0;by_cases hxn:(n:Int)≤x.at_
     ·have HNO:Hid (¬okM n (prs T)=true):=zh (okM_no hx (.inr hxn));have g2:(n:Int)≤x.at_:=hxn;clear hx hx0 hxn;have Bz:=Below.refl wr.heap.size wr;have pA0:=cell_0 ho HI.out;have pA1:=elt_vec.cell ho HI.out (j:=1) (u:=.bool x.x.s) zo rfl;have pA2:=elt_vec.cell ho HI.out (j:=2) (u:=.slice x.x.A x.x.l x.x.c) zo rfl;have pA3:=elt_vec.cell ho HI.out (j:=3) (u:=.bool x.x.s') zo rfl;have pA4:=elt_vec.cell ho HI.out (j:=4) (u:=.slice x.x.A' x.x.l' x.x.c') zo rfl;go_upto_region 7 with(fail)
      obtain⟨V1,hW,x0,hN⟩:=zAf wr #[.int .i64 x.at_,.bool x.x.s,.slice x.x.A x.x.l x.x.c,.bool x.x.s',.slice x.x.A' x.x.l' x.x.c'] 114;rw[←hW];clear hW;obtain⟨v0,hb0⟩:∃b,b=wr.heap.size:=⟨_,rfl⟩;rw[←hb0] at x0 ⊢;have ow_0:w.heap.size≤v0:=zia (zw hB Bz);replace hB:=zAa (zAa hB Bz) hN;have HX0:=zh x0;clear x0 hN Bz hb0;have Bz:=Below.refl V1.heap.size V1;clear pA0 pA1 pA2 pA3 pA4;have pa0:=(zxb HX0 Bz).cell 0 (.int .i64 x.at_) rfl;go_wp2_with fail
      go_ret2
      have hF:=zAa (c:=V1) hB Bz;unfold TellsMv
      rw[←HEP.out,if_neg HNO.out];exact⟨rfl,zAa hF (by go_grown)⟩
     ·have g2:¬(n:Int)≤x.at_:=hxn;obtain⟨b,off,rfl,hel⟩:=H.out.at ics_len zo zo;obtain⟨v,hv⟩:∃v:Nat,x.at_=(v:Int):=⟨x.at_.toNat,zo⟩;obtain⟨y,hy⟩:∃y,L[v]?=some y:=⟨L[v]'(by rw[HLN.out];omega),List.getElem?_eq_getElem _⟩;have hnd:ElA w b (off+v) (ics y):=by have:=hel v y hy;rwa [Nat.mul_one] at this
      have HE:Hid ((mvK L T i).set i ⟨y,x.x⟩=mvK L T (i+1)):=zh (by
       rw[←mvK_set hx];congr 1
       unfold mvT
       rw[hv,Int.toNat_natCast,List.getD_eq_getElem?_getD,hy];rfl)
      have HR2:Hid (∀t∈T.take (i+1),0≤t.at_∧t.at_<(n:Int)):=zh (fun t ht=>by
       rw[zAk hx] at ht;rcases List.mem_append.1 ht with ht | ht
       ·exact HRG.out t ht
       ·obtain rfl:=List.mem_singleton.1 ht;omega)
      have hv1:x.at_<(n:Int):=zo;have hv2:(0:Int)≤x.at_:=zo;have hv3:x.at_.toNat=v:=zo;clear hx hel hy hx0 hxn hv;have Bz:=Below.refl wr.heap.size wr;have pA0:=cell_0 ho HI.out;have pA1:=elt_vec.cell ho HI.out (j:=1) (u:=.bool x.x.s) zo rfl;have pA2:=elt_vec.cell ho HI.out (j:=2) (u:=.slice x.x.A x.x.l x.x.c) zo rfl;have pA3:=elt_vec.cell ho HI.out (j:=3) (u:=.bool x.x.s') zo rfl;have pA4:=elt_vec.cell ho HI.out (j:=4) (u:=.slice x.x.A' x.x.l' x.x.c') zo rfl;go_upto_region 7 with(fail)
      obtain⟨V1,hW,x0,hN⟩:=zAf wr #[.int .i64 x.at_,.bool x.x.s,.slice x.x.A x.x.l x.x.c,.bool x.x.s',.slice x.x.A' x.x.l' x.x.c'] 114;rw[←hW];clear hW;obtain⟨v0,hb0⟩:∃b,b=wr.heap.size:=⟨_,rfl⟩;rw[←hb0] at x0 ⊢;have ow_0:w.heap.size≤v0:=zia (zw hB Bz);replace hon:=hon.below hN;replace ho:=ho.below hN;replace hB:=zAa (zAa hB Bz) hN;have HX0:=zh x0;clear x0 hN Bz hb0;have Bz:=Below.refl V1.heap.size V1;clear pA0 pA1 pA2 pA3 pA4;have pa0:=(zxb HX0 Bz).cell 0 (.int .i64 x.at_) rfl;have pA0:=cell_0 ho HI.out;have fA0:=ho.frozen (i*5);have y50:=ho.blk.1;have pB0:=(hnd.below (zAa hB Bz)).c0 (u:=.int .i64 y) rfl;go_upto_region 10 with(fail)
      obtain⟨V2,hV,ho2,hg2⟩:=at_store elt_vec ho HI.out y;rw[←hV];clear hV;replace hB:=(zAa hB Bz).trans (hg2.below (zia (zw hB Bz)) (fun g' hg'=>ho.base g' hg'));clear HX0;replace hon:=hon.k hg2.k;clear ho;have ho:=ho2;clear ho2 hg2 Bz;have Bz:=Below.refl V2.heap.size V2;clear pa0 pA0 fA0 y50 pB0;go_wp2_with fail
      go_roundg (nm-(i+1))
      case measure=>have:=HGK.out;omega
      case rel=>exact⟨i+1,zo,rfl,by go_num,by have h9:=OwnR.below ho (by go_grown);rw[HE.out] at h9;exact h9,OnT.below hon (by go_grown),HR2.out,zAa (zAa hB Bz) (by go_grown)⟩
   ·obtain rfl:i=nm:=zo;have i1:¬(i:Int)<(i:Int):=zo;have hrg:∀t∈T,0≤t.at_∧t.at_<(n:Int):=by have:=HRG.out;rwa [List.take_of_length_le (by rw[HTL.out];exact Nat.le_refl _)] at this
    rw[mvK_end HTL.out] at ho;have HOK:=zh (okM_all hrg);have hrise:Rise (prs T):=by rw[HEP.out];exact(nrm_nrm _).rise
    have hg:GV wr (some ⟨g,0,none⟩) i cm (movF L (prs T)) (M+1):=⟨T.map (mvT L),ho.sl' elt_vec (ho.eltn elt_vec zo),fun t ht=>by obtain⟨u,hu,rfl⟩:=List.mem_map.1 ht;exact hon.ok u hu,mv_prs L T,
     wsum_apart (mv_apart HP.out hrise (by rw[HLN.out];exact hrg)) (fun t ht=>by obtain⟨u,hu,rfl⟩:=List.mem_map.1 ht;have h1:=hon.dg u hu;have h2:=(hon u hu).2.2;show dgT u+2≤M+1;simp only at h2;omega),(fun e=>(by cases e))⟩
    have hnq:=normV_q hg zo zo (zh (hT.out.below hB));clear hg ho hon;go_wp2_with fail
    with_reducible refine hnq.mono ?_
    rintro e w3 ⟨A3,n3,c3,rfl,h3,b3⟩;have H3:=zh h3;clear h3 hnq;go_wp2_with fail
    go_ret2
    unfold TellsMv
    rw[←HEP.out,if_pos HOK.out];exact⟨A3,n3,c3,rfl,H3.out,zAa hB b3⟩
theorem perm_inj {L:List Int} (h:permL L=true) {i j:Nat} {v:Int} (hi:L[i]?=some v) (hj:L[j]?=some v):i=j:=by
 have hn:L.Nodup:=by
  unfold permL at h
  simp only[Bool.and_eq_true,decide_eq_true_eq] at h
  exact h.1
 exact(List.getElem?_inj (List.getElem?_eq_some_iff.1 hi).1 hn).1 (hi.trans hj.symm)
theorem invK_get {L:List Int} (h:permL L=true):∀k,k≤L.length→∀i v,i<k→L[i]?=some v→(invK L k)[v.toNat]?=some (i:Int)
 | 0,_,i,v,hi,_=>absurd hi (Nat.not_lt_zero i)
 | k+1,hk,i,v,hi,hv=>by
  have hb:=perm_mem h hv;unfold invK
  rcases Nat.lt_or_eq_of_le (Nat.le_of_lt_succ hi) with hlt | rfl
  ·obtain⟨u,hu⟩:∃u,L[k]?=some u:=⟨_,List.getElem?_eq_getElem zo⟩;have hub:=perm_mem h hu;have hne:u.toNat≠v.toNat:=by
    intro e;have:u=v:=zo;subst this;have:=perm_inj h hu hv;omega
   have hg:L.getD k 0=u:=by rw[List.getD_eq_getElem?_getD,hu];rfl
   rw[hg,List.getElem?_set_ne hne];exact invK_get h k zo i v hlt hv
  ·have hg:L.getD i 0=v:=by rw[List.getD_eq_getElem?_getD,hv];rfl
   rw[hg,List.getElem?_set_self (by rw[invK_len];omega)]
theorem invL_len (L:List Int):(invL L).length=L.length:=invK_len L _
theorem invL_get {L:List Int} (h:permL L=true) {i:Nat} {v:Int} (hv:L[i]?=some v):(invL L)[v.toNat]?=some (i:Int) :=
 invK_get h L.length (Nat.le_refl _) i v (List.getElem?_eq_some_iff.1 hv).1 hv
theorem perm_onto {L:List Int} (h:permL L=true) {j:Nat} (hj:j<L.length):∃i:Nat,L[i]?=some (j:Int):=by
 have hn:L.Nodup:=by
  unfold permL at h
  simp only[Bool.and_eq_true,decide_eq_true_eq] at h
  exact h.1
 refine List.mem_iff_getElem?.1 (Decidable.byContradiction fun hm=>?_);have hl:=List.Nodup.length_le_of_subset (l₂:=(List.range L.length).map fun(k:Nat)=>(k:Int)) (List.nodup_cons.2 ⟨hm,hn⟩) (fun x hx=>by
  rcases List.mem_cons.1 hx with rfl | hx
  ·exact List.mem_map.2 ⟨j,List.mem_range.2 hj,rfl⟩
  ·obtain⟨i,hi⟩:=List.mem_iff_getElem?.1 hx;have hb:=perm_mem h hi;exact List.mem_map.2 ⟨x.toNat,List.mem_range.2 zo,zo⟩)
 rw[List.length_cons,List.length_map,List.length_range] at hl;omega
def shL (L:List Int) (k:Nat) (j:Int):List Int:=L.take k++j :: L.drop k
theorem shL_start (L:List Int) (j:Int):shL L L.length j=L++[j]:=by
 unfold shL
 rw[List.take_length,List.drop_length]
theorem shL_len (L:List Int) (k:Nat) (j:Int):(shL L k j).length=L.length+1:=by
 unfold shL
 rw[List.length_append,List.length_cons,List.length_take,List.length_drop];omega
theorem shL_set {L:List Int} {k:Nat} (h:k≤L.length) (j v:Int):(shL L k j).set k v=shL L k v:=by
 have hl:(L.take k).length=k:=by rw[List.length_take];omega
 unfold shL
 rw[List.set_append_right _ _ zo,hl,Nat.sub_self,List.set_cons_zero]
theorem shL_get {L:List Int} {k:Nat} {u:Int} (h:L[k]?=some u) (j:Int):(shL L (k+1) j)[k]?=some u:=by
 have hi:=(List.getElem?_eq_some_iff.1 h).1;unfold shL
 rw[List.getElem?_append_left (by rw[List.length_take];omega),List.getElem?_take_of_lt zo,h]
theorem shL_step {L:List Int} {k:Nat} {u:Int} (h:L[k]?=some u) (j:Int):(shL L (k+1) j).set (k+1) u=shL L k u:=by
 have hi:=(List.getElem?_eq_some_iff.1 h).1;rw[shL_set zo];have hd:L.drop k=u :: L.drop (k+1):=by
  rw[List.drop_eq_getElem_cons hi];rw[List.getElem?_eq_getElem hi,Option.some.injEq] at h;rw[h]
 unfold shL
 rw[hd,List.take_add_one,h,List.append_assoc];rfl
structure PlS (L S:List Int):Prop where
 asc:L.Pairwise (·<·)
 mem:∀b,b∈L↔b∈S
theorem PlS.nil:PlS [] []:=⟨List.Pairwise.nil,fun _=>Iff.rfl⟩
theorem PlS.lt {L S:List Int} (h:PlS L S) {i j:Nat} {x y:Int} (hx:L[i]?=some x) (hy:L[j]?=some y) (hij:i<j):x<y:=by
 obtain⟨hi,rfl⟩:=List.getElem?_eq_some_iff.1 hx;obtain⟨hj,rfl⟩:=List.getElem?_eq_some_iff.1 hy;exact List.pairwise_iff_getElem.1 h.asc i j hi hj hij
theorem PlS.same {L S:List Int} (h:PlS L S) {n:Nat} {a:Int} (hn:L[n]?=some a):PlS L (S++[a]):=⟨h.asc,fun b=>by
 rw[List.mem_append,List.mem_singleton,←h.mem];refine⟨.inl,fun e=>?_⟩;rcases e with e | rfl
 ·exact e
 ·exact List.mem_of_getElem? hn⟩
theorem PlS.new {L S:List Int} (h:PlS L S) {n:Nat} {a:Int} (hn:n≤L.length) (lo:∀i u,i<n→L[i]?=some u→u<a) (hi:∀u,L[n]?=some u→a<u):PlS (shL L n a) (S++[a]):=by
 have hlo:∀u∈L.take n,u<a:=fun u hu=>by
  obtain⟨i,e⟩:=List.getElem?_of_mem hu;have hi:=(List.getElem?_eq_some_iff.1 e).1;rw[List.length_take] at hi;rw[List.getElem?_take_of_lt zo] at e;exact lo i u zo e
 have hhi:∀u∈L.drop n,a<u:=fun u hu=>by
  obtain⟨i,e⟩:=List.getElem?_of_mem hu;rw[List.getElem?_drop] at e;have hl:=(List.getElem?_eq_some_iff.1 e).1;have h1:=hi _ (List.getElem?_eq_getElem zo);rcases Nat.eq_zero_or_pos i with rfl | h0
  ·rw[Nat.add_zero,List.getElem?_eq_getElem zo,Option.some.injEq] at e;rw[←e];exact h1
  ·exact Int.lt_trans h1 (h.lt (List.getElem?_eq_getElem zo) e zo)
 refine⟨?_,fun b=>?_⟩
 ·unfold shL
  refine List.pairwise_append.2 ⟨h.asc.sublist (List.take_sublist _ _),List.pairwise_cons.2 ⟨hhi,h.asc.sublist (List.drop_sublist _ _)⟩,fun x hx y hy=>?_⟩;rcases List.mem_cons.1 hy with rfl | hy
  ·exact hlo x hx
  ·exact Int.lt_trans (hlo x hx) (hhi y hy)
 ·unfold shL
  rw[List.mem_append,List.mem_cons,List.mem_append,List.mem_singleton,←h.mem];have e:b∈L↔b∈L.take n∨b∈L.drop n:=by rw[←List.mem_append,List.take_append_drop]
  rw[e];constructor
  ·rintro(h | h | h)
   ·exact .inl (.inl h)
   ·exact .inr h
   ·exact .inl (.inr h)
  ·rintro((h | h) | h)
   ·exact .inl h
   ·exact .inr (.inr h)
   ·exact .inr (.inl h)
theorem nodup_len:∀{L S:List Int},L.Nodup→(∀b∈L,b∈S)→L.length≤S.length
 | [],_,_,_=>Nat.zero_le _
 | a :: L,S,hn,hs=>by
  have h1:=List.nodup_cons.1 hn;have h2:=hs a List.mem_cons_self;have h3:=nodup_len (L:=L) (S:=S.erase a) h1.2 fun b hb=>(List.mem_erase_of_ne (by rintro rfl;exact h1.1 hb)).2 (hs b (List.mem_cons_of_mem _ hb));rw[List.length_erase_of_mem h2] at h3;have h4:=List.length_pos_of_mem h2;rw[List.length_cons];omega
theorem PlS.len {L S:List Int} (h:PlS L S):L.length≤S.length:=by
 have hn:L.Nodup:=h.asc.imp fun e=>by omega
 exact nodup_len hn fun b hb=>(h.mem b).1 hb
def atP (L:List Int) (P:List (Int×Rat)):List (Int×Rat):=L.map fun a=>(a,pget P a)
theorem atP_len (L:List Int) (P:List (Int×Rat)):(atP L P).length=L.length:=List.length_map _
theorem atP_rise {L S:List Int} (h:PlS L S) (P:List (Int×Rat)):Rise (atP L P):=List.pairwise_map.2 h.asc
theorem atP_at {L:List Int} {i:Nat} {a:Int} (h:L[i]?=some a) (P:List (Int×Rat)):(atP L P)[i]?=some (a,pget P a):=by unfold atP;rw[List.getElem?_map,h];rfl
theorem atP_get {L S:List Int} (h:PlS L S) {P:List (Int×Rat)} (hS:∀x∈P,x.1∈S) (b:Int):pget (atP L P) b=pget P b:=by
 by_cases hb:b∈L
 ·exact(atP_rise h P).get (x:=(b,pget P b)) (List.mem_map_of_mem (f:=fun a=>(a,pget P a)) hb)
 ·rw[pget_none (fun x hx e=>?_),pget_none (fun x hx e=>hb ?_)]
  ·subst e;exact(h.mem _).2 (hS x hx)
  ·obtain⟨a,ha,rfl⟩:=List.mem_map.1 hx;exact hb (e ▸ ha)
theorem atP_nrm {L S:List Int} (h:PlS L S) {P:List (Int×Rat)} (hS:∀x∈P,x.1∈S):(atP L P).filter (fun x=>decide (x.2≠0))=nrm P:=by
 refine(nrm_eq ⟨(atP_rise h P).sublist List.filter_sublist,fun x hx=>?_⟩ fun a=>?_).symm
 ·exact of_decide_eq_true (List.mem_filter.1 hx).2
 ·rw[pget_nz,atP_get h hS]
theorem atP_dot {L S:List Int} (h:PlS L S) {P:List (Int×Rat)} (hS:∀x∈P,x.1∈S) (Q:List (Int×Rat)):pdot (atP L P) Q=pdot P Q:=pdot_congr_left (atP_get h hS) Q
open Go.RowKit Tw
def zTm:Tm:=⟨0,⟨false,none,0,0,false,none,0,0,0,true⟩⟩
theorem tm_zero {i:TypeInfo} {z:Value} (h:Tryz.prog.info? 114=some i) (hz:i.zero=some z):z.cells.toList=Tm.cs zTm:=by
 have h1:(Tryz.prog.info? 114).map (fun i=>i.zero)=some (some (.agg #[.int .i64 0,.bool false,.slice none 0 0,.bool false,.slice none 0 0])):=by kernel_rfl
 rw[h,Option.map_some,hz] at h1;obtain rfl:z=.agg #[.int .i64 0,.bool false,.slice none 0 0,.bool false,.slice none 0 0]:=by simpa using h1
 rfl
def idxT (L:List Fr):List Tm:=L.mapIdx fun i x=>⟨(i:Int),x⟩
def idxK (L:List Fr) (k:Nat):List Tm:=(idxT L).take k++List.replicate (L.length-k) zTm
def idxP (l:List Rat):List (Int×Rat):=l.mapIdx fun i q=>((i:Int),q)
theorem idxT_len (L:List Fr):(idxT L).length=L.length:=List.length_mapIdx
theorem idxT_get {L:List Fr} {i:Nat} {x:Fr} (h:L[i]?=some x):(idxT L)[i]?=some ⟨(i:Int),x⟩:=by unfold idxT;rw[List.getElem?_mapIdx,h];rfl
theorem idxK_len (L:List Fr) {k:Nat} (h:k≤L.length):(idxK L k).length=L.length:=by unfold idxK;rw[List.length_append,List.length_take,idxT_len,List.length_replicate];omega
theorem idxK_set {L:List Fr} {i:Nat} {x:Fr} (h:L[i]?=some x):(idxK L i).set i ⟨(i:Int),x⟩=idxK L (i+1):=by
 have hi:=(List.getElem?_eq_some_iff.1 h).1;have hl:((idxT L).take i).length=i:=by rw[List.length_take,idxT_len];omega
 unfold idxK
 rw[List.set_append_right _ _ zo,hl,Nat.sub_self,zAk (idxT_get h),show L.length-i=(L.length-(i+1))+1 by omega,List.replicate_succ,List.set_cons_zero,List.append_assoc];rfl
theorem idxK_end {L:List Fr} {n:Nat} (h:L.length=n):idxK L n=idxT L:=by
 unfold idxK
 rw[List.take_of_length_le (by rw[idxT_len];omega),h,Nat.sub_self,List.replicate_zero,List.append_nil]
theorem idx_prs (L:List Fr):prs (idxT L)=idxP (L.map fun x=>x.q):=by
 unfold prs idxT idxP
 apply List.ext_getElem?
 intro i;rw[List.getElem?_map,List.getElem?_mapIdx,List.getElem?_mapIdx,List.getElem?_map];cases L[i]?<;>rfl
theorem idx_rise (L:List Fr):Rise (prs (idxT L)):=by
 rw[idx_prs];unfold Rise idxP
 rw[List.pairwise_iff_getElem];intro i j hi hj hij;rw[List.getElem_mapIdx,List.getElem_mapIdx];simp only
 omega
def OF1 (w:World) (g n:Nat) (L:List Fr) (gk:Nat) (s:Value) (wr:World):Prop:=∃i:Nat,i≤n∧n-i=gk∧s=.int .i64 (i:Int)∧OwnR wr w.heap.size 114 5 (.slice (some ⟨g,0,none⟩) n n) n (flat Tm.cs (idxK L i))∧Below w.heap.size w wr
theorem ofV_q {w:World} {A:Option Addr} {n c m:Nat} {L:List Fr} (h:Sl Fr.cs 4 w A n c L) (hok:Hid (∀x∈L,FrOk w m x)) (hm:m≤15000) (hn:n≤1000000) (hT:Hid (Tab w)) :
  Calls Tryz.prog 111 #[.slice A n c] w (TellsV w (nrm (idxP (L.map fun x=>x.q))) (m+2)):=by
 have H:=zh h;have HLN:=zh h.1;clear h;go_enter Tryz.func111,Tryz.ntmps111
 go_wp2_with (at_make;refine And.left (b:=True) ?_)
 refine⟨?_,trivial⟩;refine Elt.makeN elt_term zTm (fun i z h1 h2=>tm_zero h1 h2) rfl _ _ rfl .i64 .i64 n rfl rfl zo w.heap.size (Nat.le_refl _) ?_;intro g w1 ho1 b1;have HO1:Hid (OwnR w1 w.heap.size 114 5 (.slice (some ⟨g,0,none⟩) n n) n (flat Tm.cs (idxK L 0))):=zh (by unfold idxK;rw[HLN.out,List.take_zero,List.nil_append,Nat.sub_zero];exact ho1);have HB1:=zh b1;clear ho1 b1;go_wp2_with fail
 go_loopg [11] n (fun gk s wr=>OF1 w g n L gk s wr)
 case atStart=>exact⟨0,Nat.zero_le _,rfl,rfl,HO1.out.below (by go_grown),zAa HB1.out (by go_grown)⟩
 case round =>
  clear HO1 HB1;obtain⟨i,hi,hgk,rfl,ho,hB⟩:=hrel;have HGK:=zh hgk;clear hgk;by_cases hlt:i<n
  ·obtain⟨b,off,rfl,hel⟩:=H.out.at Fr.cs_len zo zo;obtain⟨x,hx⟩:∃x,L[i]?=some x:=⟨L[i]'(by rw[HLN.out];exact hlt),List.getElem?_eq_getElem _⟩;have hnd:=hel i x hx;obtain⟨y,hy⟩:∃y,(idxK L i)[i]?=some y:=⟨(idxK L i)[i]'(by rw[idxK_len L (by rw[HLN.out];exact hi),HLN.out];exact hlt),List.getElem?_eq_getElem _⟩;have HY:=zh hy;have HE:=zh (idxK_set hx);have i1:(i:Int)<(n:Int):=zo;have i2:(0:Int)≤(i:Int):=zo;clear hel hx hy;have Bz:=Below.refl wr.heap.size wr;obtain⟨pA0,pA1,pA2,pA3,-⟩:=(hnd.below (zAa hB Bz)).ez;go_upto_region 5 with(fail)
   obtain⟨V1,hW,x0,hN⟩:=zAf wr #[.bool x.s,.slice x.A x.l x.c,.bool x.s',.slice x.A' x.l' x.c'] 50;rw[←hW];clear hW;obtain⟨v0,hb0⟩:∃b,b=wr.heap.size:=⟨_,rfl⟩;rw[←hb0] at x0 ⊢;have ow_0:w.heap.size≤v0:=zia (zw hB Bz);replace ho:=ho.below hN;replace hB:=zAa (zAa hB Bz) hN;have HX0:=zh x0;clear x0 hN Bz hb0;have Bz:=Below.refl V1.heap.size V1;clear pA0 pA1 pA2 pA3;obtain⟨pa0,pa1,pa2,pa3,-⟩:=(zxb HX0 Bz).cz;have pB0:=cell_0 ho HY.out;have pB1:=elt_vec.cell ho HY.out (j:=1) (u:=.bool y.x.s) zo rfl;have pB2:=elt_vec.cell ho HY.out (j:=2) (u:=.slice y.x.A y.x.l y.x.c) zo rfl;have pB3:=elt_vec.cell ho HY.out (j:=3) (u:=.bool y.x.s') zo rfl;have pB4:=elt_vec.cell ho HY.out (j:=4) (u:=.slice y.x.A' y.x.l' y.x.c') zo rfl;have fB0:=ho.frozen (i*5);have fB1:=ho.frozen (i*5+1);have fB2:=ho.frozen (i*5+2);have fB3:=ho.frozen (i*5+3);have fB4:=ho.frozen (i*5+4);have y51:=ho.blk.1;go_upto_region 6 with(fail)
   obtain⟨V2,hV,ho2,hg2⟩:=tm_store elt_vec ho HY.out ⟨(i:Int),x⟩;rw[←hV];clear hV;replace hB:=(zAa hB Bz).trans (hg2.below (zia (zw hB Bz)) (fun g' hg'=>ho.base g' hg'));clear HX0;clear ho;have ho:=ho2;clear ho2 hg2 Bz;have Bz:=Below.refl V2.heap.size V2;clear pa0 pa1 pa2 pa3 pB0 pB1 pB2 pB3 pB4 fB0 fB1 fB2 fB3 fB4 y51;go_wp2_with fail
   go_roundg (n-(i+1))
   case measure=>have:=HGK.out;omega
   case rel=>exact⟨i+1,zo,rfl,by go_num,by have h9:=OwnR.below ho (by go_grown);rw[HE.out] at h9;exact h9,zAa (zAa hB Bz) (by go_grown)⟩
  ·obtain rfl:i=n:=zo;have i1:¬(i:Int)<(i:Int):=zo;rw[idxK_end HLN.out] at ho;have hfr:∀t∈idxT L,FrOk w m t.x:=fun t ht=>by
    obtain⟨j,hj⟩:=List.getElem?_of_mem ht;unfold idxT at hj
    rw[List.getElem?_mapIdx] at hj;cases e:L[j]? with
    | none=>rw[e] at hj;cases hj
    | some x=>rw[e] at hj;cases hj;exact hok.out x (List.mem_of_getElem? e)
   have hg:GV wr (some ⟨g,0,none⟩) i i (idxP (L.map fun x=>x.q)) (m+2):=⟨idxT L,ho.sl' elt_vec (by rw[idxT_len];exact HLN.out),fun t ht=>((hfr t ht).below hB).rep,idx_prs L,wsum_rise (idx_rise L) (fun t ht=>by have:=(hfr t ht).r.len;unfold dgT;omega),(fun e=>(by cases e))⟩;have hnq:=normV_q hg zo hn (zh (hT.out.below hB));clear hg ho;go_wp2_with fail
   with_reducible refine hnq.mono ?_
   rintro e w3 ⟨A3,n3,c3,rfl,h3,b3⟩;have H3:=zh h3;clear h3 hnq;go_wp2_with fail
   go_ret
   exact⟨A3,n3,c3,rfl,H3.out,zAa hB b3⟩
open Go.RowKit Tw
theorem elt_vcs:Elt Vc.cs 1 77 55:=Elt.of (.slice none 0 0) 24 Tryz.underlying77 (by kernel_rfl) zo (by kernel_rfl) (nou_list (by kernel_rfl)) Vc.cs_len
 (fun x u hu=>by simp[Vc.cs] at hu;subst hu;rfl) (fun x u hu n=>by simp[Vc.cs] at hu;subst hu;simp)
def vsl (v:Vc):Value:=.slice v.A v.n v.c
def zVc:Vc:=⟨none,0,0,[]⟩
theorem vc_zero {i:TypeInfo} {z:Value} (h:Tryz.prog.info? 55=some i) (hz:i.zero=some z):z.cells.toList=Vc.cs zVc:=by
 have h1:(Tryz.prog.info? 55).map (fun i=>i.zero)=some (some (.slice none 0 0)):=by kernel_rfl
 rw[h,Option.map_some,hz] at h1;obtain rfl:z=.slice none 0 0:=by simpa using h1
 rfl
theorem vc_store {w:World} {B g n cap i:Nat} {V:List Vc} (h:OwnR w B 55 1 (.slice (some ⟨g,0,none⟩) n cap) n (flat Vc.cs V)) {y:Vc} (hy:V[i]?=some y) (x:Vc) :
  ∃W,W=w.setCell ⟨g,i,none⟩ (.slice x.A x.n x.c)∧OwnR W B 55 1 (.slice (some ⟨g,0,none⟩) n cap) n (flat Vc.cs (V.set i x))∧Grew w W (.slice (some ⟨g,0,none⟩) n cap) (.slice (some ⟨g,0,none⟩) n cap):=by
 have:=elt_vcs.sets h hy (y:=x) [(0,.slice x.A x.n x.c)] (fun p hp=>by simp at hp;subst hp;exact⟨by simp,by simp⟩) rfl;simp only[setsW,Nat.mul_one,Nat.add_zero] at this
 exact⟨_,rfl,this⟩
theorem vc_cell {w:World} {B g n cap i:Nat} {V:List Vc} (h:OwnR w B 55 1 (.slice (some ⟨g,0,none⟩) n cap) n (flat Vc.cs V)) {y:Vc} (hy:V[i]?=some y):w.cell? ⟨g,i,none⟩=some (.slice y.A y.n y.c):=by
 have:=elt_vcs.cell h hy (j:=0) (u:=.slice y.A y.n y.c) zo rfl;rwa [Nat.mul_one,Nat.add_zero] at this
structure TS (w:World) (B g n:Nat) (X:Value) (nx:Nat) (xs:List Value) (V:List Vc) (M:Nat):Prop where
 out:OwnR w B 55 1 (.slice (some ⟨g,0,none⟩) n n) n (flat Vc.cs V)
 row:∀v∈V,OwnR w B 114 5 (vsl v) v.n (flat Tm.cs v.L)∧OnT w v.L (fun _=>M)
 og:∀v∈V,Ap (.slice (some ⟨g,0,none⟩) n n) (vsl v)∧Ap X (vsl v)
 xg:Ap X (.slice (some ⟨g,0,none⟩) n n)
 xo:OwnR w B 114 5 X nx xs
 ap:∀(i j:Nat) (u v:Vc),V[i]?=some u→V[j]?=some v→i≠j→Ap (vsl u) (vsl v)
theorem TS.len {w:World} {B g n nx M:Nat} {X:Value} {xs:List Value} {V:List Vc} (h:TS w B g n X nx xs V M):V.length=n:=h.out.eltn elt_vcs zo
theorem TS.below {w w':World} {B g n nx M:Nat} {X:Value} {xs:List Value} {V:List Vc} (h:TS w B g n X nx xs V M) (hb:Below w.heap.size w w'):TS w' B g n X nx xs V M :=
 ⟨h.out.below hb,fun v hv=>⟨(h.row v hv).1.below hb,(h.row v hv).2.below hb⟩,h.og,h.xg,h.xo.below hb,h.ap⟩
theorem TS.start {w:World} {B g n M:Nat} (h:OwnR w B 55 1 (.slice (some ⟨g,0,none⟩) n n) n (flat Vc.cs (List.replicate n zVc))):TS w B g n (.slice none 0 0) 0 [] (List.replicate n zVc) M :=
 have z:∀v∈List.replicate n zVc,v=zVc:=fun v hv=>List.eq_of_mem_replicate hv;⟨h,fun v hv=>by rw[z v hv];exact⟨OwnR.nil _ _ _ _,OnT.nil _ _⟩,fun v hv=>by rw[z v hv];exact⟨(Ap.nil _).symm,Ap.nil _⟩,Ap.nil _,OwnR.nil _ _ _ _,
  fun i j u v hu _ _=>by rw[z u (List.mem_of_getElem? hu)];exact Ap.nil _⟩
theorem TS.beside {w w':World} {B g n nx nx' M:Nat} {X X':Value} {xs xs':List Value} {V:List Vc} (h:TS w B g n X nx xs V M) (hb:Below w.heap.size w w') (hB:B≤w.heap.size) (hx:OwnR w' w.heap.size 114 5 X' nx' xs'):TS w' B g n X' nx' xs' V M:=by
 have key:∀{v:Value} {n k:Nat} {e:TypeId} {ys:List Value},OwnR w B e k v n ys→Ap X' v:=fun ho=>by
  cases e:X'.ownBlock with
  | none=>exact .inl e
  | some b =>
   refine .inr fun e2=>?_;rw[e] at e2;have h1:=hx.base b e;have h2:=ho.lt b e2.symm;omega
 have h':=h.below hb;exact⟨h'.out,h'.row,fun v hv=>⟨(h.og v hv).1,key (h.row v hv).1⟩,key h.out,hx.rebase hB,h.ap⟩
theorem TS.alone {w:World} {B g n nx M:Nat} {X:Value} {xs:List Value} {V:List Vc} (h:TS w B g n X nx xs V M):TS w B g n (.slice none 0 0) 0 [] V M :=
 ⟨h.out,h.row,fun v hv=>⟨(h.og v hv).1,Ap.nil _⟩,Ap.nil _,OwnR.nil _ _ _ _,h.ap⟩
theorem TS.step {w w':World} {B g n nx M a:Nat} {X:Value} {xs:List Value} {V:List Vc} (h:TS w B g n X nx xs V M) {v:Vc} (hv:V[a]?=some v) {t:Tm} {H:Option Addr} {c k:Nat}
  (ho:OwnR w' B 114 5 (.slice H k c) k (flat Tm.cs (v.L++[t]))) (hg:Grew w w' (.slice v.A v.n v.c) (.slice H k c)) (ht:OnT w' [t] (fun _=>M)) :
  ∃W,W=w'.setCell ⟨g,a,none⟩ (.slice H k c)∧TS W B g n X nx xs (V.set a ⟨H,k,c,v.L++[t]⟩) M∧Grew w' W (.slice (some ⟨g,0,none⟩) n n) (.slice (some ⟨g,0,none⟩) n n):=by
 have hg':Grew w w' (vsl v) (.slice H k c):=hg;have hm:=List.mem_of_getElem? hv;have ha:=(List.getElem?_eq_some_iff.1 hv).1;obtain⟨W,hW,h1,h2⟩:=vc_store (h.out.grown hg' (h.og v hm).1) hv ⟨H,k,c,v.L++[t]⟩;refine⟨W,hW,?_,h2⟩;have hn1:Ap (.slice (some ⟨g,0,none⟩) n n) (.slice H k c):=hg'.ap h.out (h.og v hm).1;have old:∀(j:Nat) (u:Vc),V[j]?=some u→j≠a→OwnR W B 114 5 (vsl u) u.n (flat Tm.cs u.L)∧OnT W u.L (fun _=>M):=fun j u hu hj=>by
  have hum:=List.mem_of_getElem? hu;exact⟨((h.row u hum).1.grown hg' (h.ap j a u v hu hv hj)).grown h2 (h.og u hum).1.symm,((h.row u hum).2.k hg'.k).k h2.k⟩
 have new:OwnR W B 114 5 (.slice H k c) k (flat Tm.cs (v.L++[t]))∧OnT W (v.L++[t]) (fun _=>M):=by
  refine⟨ho.grown h2 hn1.symm,fun u hu=>?_⟩;rcases List.mem_append.1 hu with hu | hu
  ·exact(((h.row v hm).2.k hg'.k).k h2.k) u hu
  ·exact(ht.k h2.k) u hu
 have get:∀(j:Nat) (u:Vc),(V.set a ⟨H,k,c,v.L++[t]⟩)[j]?=some u→(j=a∧u=⟨H,k,c,v.L++[t]⟩)∨(j≠a∧V[j]?=some u):=fun j u hu=>by
  by_cases e:j=a
  ·subst e;rw[List.getElem?_set_self ha] at hu;exact .inl ⟨rfl,(Option.some.inj hu).symm⟩
  ·rw[List.getElem?_set_ne (fun e2=>e e2.symm)] at hu;exact .inr ⟨e,hu⟩
 refine⟨h1,fun u hu=>?_,fun u hu=>?_,h.xg,(h.xo.grown hg' (h.og v hm).2).grown h2 h.xg,fun i j u u' hu hu' hij=>?_⟩
 ·obtain⟨j,hj⟩:=List.getElem?_of_mem hu;rcases get j u hj with⟨_,rfl⟩ | ⟨h3,h4⟩
  ·exact new
  ·exact old j u h4 h3
 ·obtain⟨j,hj⟩:=List.getElem?_of_mem hu;rcases get j u hj with⟨_,rfl⟩ | ⟨h3,h4⟩
  ·exact⟨hn1,hg'.ap h.xo (h.og v hm).2⟩
  ·exact h.og u (List.mem_of_getElem? h4)
 ·rcases get i u hu with⟨e1,rfl⟩ | ⟨h3,h4⟩<;>rcases get j u' hu' with⟨e2,rfl⟩ | ⟨h5,h6⟩
  ·exact absurd (e1.trans e2.symm) hij
  ·exact(hg'.ap (h.row u' (List.mem_of_getElem? h6)).1 (h.ap j a u' v h6 hv h5)).symm
  ·exact hg'.ap (h.row u (List.mem_of_getElem? h4)).1 (h.ap i a u v h4 hv h3)
  ·exact h.ap i j u u' h4 h6 hij
def CN (w:World) (v:Vc) (M:Nat):Prop:=Sl Tm.cs 5 w v.A v.n v.c v.L∧OnT w v.L (fun _=>M)∧(v.A=none→v.c=0)
theorem CN.nv {w:World} {v:Vc} {M:Nat} (h:CN w v M):NV w v.A v.n v.c (prs v.L) M:=⟨v.L,h.1,h.2.1,rfl,h.2.2⟩
theorem CN.below {w w':World} {v:Vc} {M:Nat} (h:CN w v M) (hb:Below w.heap.size w w'):CN w' v M:=⟨h.1.below hb,h.2.1.below hb,h.2.2⟩
theorem TS.cn {w:World} {B g n nx M:Nat} {X:Value} {xs:List Value} {V:List Vc} (h:TS w B g n X nx xs V M):Sl Vc.cs 1 w (some ⟨g,0,none⟩) n n V∧∀v∈V,CN w v M :=
 ⟨h.out.sl' elt_vcs h.len,fun v hv=>by
  obtain⟨h1,h2⟩:=h.row v hv;refine⟨h1.sl' elt_vec (h1.eltn elt_vec zo),h2,fun e=>?_⟩;obtain⟨H,c,e9,h9,_⟩:=h1.slice;unfold vsl at e9
  cases e9;exact(h9 e).2⟩
end Go.Proofs.YtljjgfmeaejnfaaGreatDoor
