import Derived.Test.YtiondclbdgijbaaGreatDoorYZWa
import Derived.ProofKit
import Derived.OpenShut
import Derived.ShutString
import Derived.ChangeOld
import Derived.Deep.DeepHandedRow
import Derived.Lib.LaidTab
import Derived.Lib.SmallJoins
set_option maxRecDepth 100000
namespace Go.Proofs.YtiondclbdgijbaaGreatDoor
open Go.ChangeShapes Go.WideShapes Go.ChangeAt Go.RowKit Tw
theorem own:ownKnob Tryz.prog.godebug=none:=by kernel_rfl
theorem laidOut:laidOutB Tryz.prog=true:=by kernel_rfl
def In (w:World) (A:Option Addr) (l c:Nat):Prop:=(∃n,V w A c l n)∧l≤9223372036854775807
theorem nat_of {z:Int} (h:(Lit.int .u64 z).wf=true):0≤z∧z<18446744073709551616:=by
 have:=bounds_u64 h;omega
theorem in_of {H:Type} {enc:TypeId×Value→H} {W:World} {b:Nat} {sp:Nat→Bool} {hd:Bool} {A:Option Addr} {l c:Nat} {d:DataW H} {p:List MemPlace}
  (h:DataW.Trod enc Tryz.prog W b sp hd 43 (.slice A l c) d p):In W A l c:=by
 obtain⟨fuel,hf⟩:=h;rcases open_ints Tryz.underlying43 Tryz.underlying114 (by kernel_rfl) hf with⟨hcs,_⟩ | ⟨x,l',c',zs,hcs,_,hl,hm,hz,_,hcell,hwz⟩
 ·simp[Value.cells] at hcs
  obtain⟨rfl,rfl,rfl⟩:=hcs;exact⟨⟨0,[],Nums.nil _ _ _,rfl,rfl⟩,zo⟩
 ·simp[Value.cells] at hcs
  obtain⟨rfl,rfl,rfl⟩:=hcs;have hzl:l≤zs.length:=by rw[hz];split<;>omega
  have hlen:((zs.take l).map Int.toNat).length=l:=by rw[nA,mB];omega
  refine⟨⟨_,(zs.take l).map Int.toNat,⟨?_,by rw[hlen];exact hl,fun hp=>?_⟩,hlen,rfl⟩,by unfold maxLen at hm;omega⟩
  ·intro y hy;obtain⟨z,hz1,rfl⟩:=xC.1 hy;have:=nat_of (hwz z (xF hz1));rw[B_eq];omega
  ·rw[hlen] at hp;obtain⟨b,off,rfl,hc⟩:=ints_at hcell zo;refine⟨b,off,rfl,fun k hk=>?_⟩;rw[hlen] at hk;rw[hc k zo];have h1:zs.getD k 0=zs[k]'zo:=by rw[qA,cA zo];rfl
   have h2:=nat_of (hwz _ (cG (l:=zs) (n:=k) zo));have h3:dg ((zs.take l).map Int.toNat) k=(zs[k]'zo).toNat:=by
    unfold dg
    rw[qA,mA,rD,bB hk,cA zo];rfl
   rw[h1,h3,wC h2.1]
def InI (w:World) (b:Bool) (A:Option Addr) (l c:Nat):Prop:=(∃z,I w b A c l z)∧l≤9223372036854775807
theorem int_of {H:Type} {enc:TypeId×Value→H} {W:World} {b:Nat} {sp:Nat→Bool} {hd:Bool} {v:Value} {d:DataW H} {p:List MemPlace}
  (h:DataW.Trod enc Tryz.prog W b sp hd 45 v d p) (hv:∃cs,v=.agg cs):∃s A l c,v=.agg #[.bool s,.slice A l c]∧InI W s A l c:=by
 obtain⟨cs,rfl⟩:=hv;obtain⟨fuel,hf⟩:=h;obtain⟨y0,y1,n,hx,hl,h0,h1⟩:=trod_struct2 Tryz.underlying45 hf;have hC:Tryz.prog.cellsOf 45=2:=by kernel_rfl
 have hC0:Tryz.prog.cellsOf 4=1:=by kernel_rfl
 have hC1:Tryz.prog.cellsOf 43=1:=by kernel_rfl
 have hl':cs.size=2:=by rw[←hC,←hl];simp[Value.cells]
 obtain⟨c0,c1,rfl⟩:=Joins.array2 hl';simp[Value.cells,hC0] at h0
 simp[Value.cells,hC1] at h1
 obtain⟨s,rfl⟩:∃s,c0=.bool s:=by
  cases n with
  | zero=>simp[DataW.trod] at h0
  | succ n=>cases c0<;>simp[DataW.trod,Tryz.underlying4] at h0;exact⟨_,rfl⟩
 obtain⟨A,l,c,e⟩:=Joins.slice_form Tryz.underlying43 h1;obtain rfl:c1=.slice A l c:=by simpa using e
 obtain⟨⟨n,hn⟩,hl⟩:=in_of (A:=A) (l:=l) (c:=c) (d:=y1.1) (p:=y1.2) ⟨n,by simpa [Value.cells] using h1⟩;exact⟨s,A,l,c,rfl,⟨_,n,hn,rfl⟩,hl⟩
end Go.Proofs.YtiondclbdgijbaaGreatDoor
