import Derived.Test.YtiondclbdgijbaaGreatDoorYZTab
import Derived.Test.YtiondclbdgijbaaGreatDoorYWG
import Derived.Deep.Slices
set_option maxRecDepth 100000
namespace Go.Proofs.YtiondclbdgijbaaGreatDoor
open Go.ChangeShapes Go.WideShapes Go.ChangeAt Go.RowKit Tw
def InR (w:World) (s:Bool) (A:Option Addr) (l c:Nat) (s':Bool) (A':Option Addr) (l' c':Nat):Prop:=InI w s A l c∧InI w s' A' l' c'
theorem InR.r {w:World} {s s':Bool} {A A':Option Addr} {l c l' c' m:Nat} (h:InR w s A l c s' A' l' c') (hl:l≤m) (hl':l'≤m):∃q,R w s A c l s' A' c' l' q m:=by
 obtain⟨⟨⟨n,h1⟩,_⟩,⟨d,h2⟩,_⟩:=h;exact⟨_,n,d,h1,h2,rfl,hl,hl'⟩
theorem rat_of {H:Type} {enc:TypeId×Value→H} {W:World} {b:Nat} {sp:Nat→Bool} {hd:Bool} {fuel:Nat} {cs:List Value} {y:DataW H×List MemPlace}
  (hf:DataW.trod enc Tryz.prog W b sp hd fuel 47 cs=some y) (hl:cs.length=4):∃s A l c s' A' l' c',cs=[.bool s,.slice A l c,.bool s',.slice A' l' c']∧InR W s A l c s' A' l' c':=by
 obtain⟨y0,y1,n,hx,hl4,h0,h1⟩:=trod_struct2 Tryz.underlying47 hf;have hC0:Tryz.prog.cellsOf 45=2:=by kernel_rfl
 match cs,hl with
 | [c0,c1,c2,c3],_ =>
  simp[hC0] at h0 h1
  obtain⟨s,A,l,c,e,i0⟩:=int_of (v:=.agg #[c0,c1]) (d:=y0.1) (p:=y0.2) ⟨n,by simpa [Value.cells] using h0⟩ ⟨_,rfl⟩;obtain⟨s',A',l',c',e',i1⟩:=int_of (v:=.agg #[c2,c3]) (d:=y1.1) (p:=y1.2) ⟨n,by simpa [Value.cells] using h1⟩ ⟨_,rfl⟩;simp at e e'
  obtain⟨rfl,rfl⟩:=e;obtain⟨rfl,rfl⟩:=e';exact⟨s,A,l,c,s',A',l',c',rfl,i0,i1⟩
end Go.Proofs.YtiondclbdgijbaaGreatDoor
