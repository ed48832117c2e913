import Derived.Test.YteggjbgbknkoiaaGreatDoorYRead
import Derived.Test.YteggjbgbknkoiaaGreatDoorYVj
import Derived.Test.YteggjbgbknkoiaaGreatDoorYSo4
import Derived.Maps.OwnSet
namespace Go.Proofs.YteggjbgbknkoiaaGreatDoor
open Go.RowKit Tw
section
variable {α:Type} {f:α→List Value} {k:Nat} {t te:TypeId}
theorem Elt.makeN (E:Elt f k t te) (z0:α) (hz0:∀i z,Tryz.prog.info? te=some i→i.zero=some z→z.cells.toList=f z0) {w:World} {ops:Array Oper} {rest:List Oper} {o:Oper} {a:Act} {Q:Exit→Act→World→Prop} (hgd:o.guard=none) (l c:Operand) (ho:o.op=.makeSlice t l c)
  (kl kc:IntKind) (n:Nat) (hl:a.eval l=.int kl (n:Int)) (hc:a.eval c=.int kc (n:Int)) (hn:n≤100000000000) (B:Nat) (hB:B≤w.heap.size)
  (hK:∀g w',OwnR w' B te k (.slice (some ⟨g,0,none⟩) n n) n (flat f (List.replicate n z0))→Below w.heap.size w w'→wpList Tryz.prog ops Q rest (a.put o.dst (.slice (some ⟨g,0,none⟩) n n)) w'):wpList Tryz.prog ops Q (o :: rest) a w:=by
 obtain⟨i,z,h1,h2,h3,h4,h5,h6⟩:=E.info;have hzc:=hz0 i z h1 h2;refine wpList_plain hgd fun K hK'=>?_;have hb:(i.bytes:Int)*(n:Int)≤281474976710656:=by
  have h:=Nat.mul_le_mul h4 hn;have h':((i.bytes*n:Nat):Int)≤281474976710656:=zo;rwa [Int.natCast_mul] at h'
 have hrun:=run_make (P:=Tryz.prog) w t te i z E.ut h1 h2 kl kc n n zo (Int.le_refl _) hb zo;simp only[Int.toNat_natCast] at hrun
 have hcells:(madeCells z.cells (n*i.size)).toList=flat f (List.replicate n z0):=by
  rw[h3];apply List.ext_getElem?
  intro j;by_cases hj:j<n*k
  ·have k0:0<k:=by
    rcases yB k with h | h
    ·subst h;omega
    ·exact h
   have hi:j / k<n:=Nat.div_lt_of_lt_mul (by rw[qA];exact hj);have hm:j % k<k:=kB _ k0;have e:j / k*k+j % k=j:=by rw[qA];exact eB j k
   have h7:=flat_get E.len (List.replicate n z0) (j / k) z0 (by rw[List.getElem?_replicate,yA hi]) (j % k) hm;rw[e] at h7;rw[h7,←hzc,aD,aD];unfold madeCells
   rw[Array.getElem?_map,Array.getElem?_range,yA hj,dE,h5,getElem!_pos z.cells (j % k) zo,gD zo]
  ·rw[uA (by rw[Array.length_toList,size_madeCells];omega),uA (by rw[flat_len E.len,List.length_replicate];omega)]
 unfold Oper.wp
 simp[execOp,ho,hl,hc,hrun,Result.andThen]
 refine hK' _ _ (hK _ _ ⟨by rw[flat_len E.len,List.length_replicate],.inr ⟨w.heap.size,n,madeCells z.cells (n*i.size),rfl,hB,Bx.new w _ _,aA _,by unfold maxLen;omega,by rw[size_madeCells,h3],?_,h6.made _⟩⟩ (zAf _ _));rw[hcells,fA (by rw[flat_len E.len,List.length_replicate];exact aA _)]
end
end Go.Proofs.YteggjbgbknkoiaaGreatDoor
