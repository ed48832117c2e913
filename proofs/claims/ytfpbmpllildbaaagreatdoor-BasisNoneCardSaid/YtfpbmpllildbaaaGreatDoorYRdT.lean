/-
  Terms and numbers that came in, small ones. By hand.
-/
import Derived.Test.YtfpbmpllildbaaaGreatDoorYVm
import Derived.Test.YtfpbmpllildbaaaGreatDoorYRdV
set_option maxRecDepth 100000
namespace Go.Proofs.YtfpbmpllildbaaaGreatDoor
open Go.RowKit Tw
theorem tm_lens {w:World} {t:Tm} (h:TmIn w t):t.x.l≤9223372036854775807∧t.x.l'≤9223372036854775807:=⟨h.1.1,h.1.2.1⟩
def TsIn (W:World) (v:Value):Prop:=∃(A:Option Addr) (n c:Nat) (L:List Tm),v=.slice A n c∧Sl Tm.cs 5 W A n c L∧(∀t∈L,TmIn W t)∧n≤9223372036854775807∧(A=none→c=0)
open Go.ChangeShapes Go.WideShapes Go.ChangeAt in
theorem ts_of {H:Type} {enc:TypeId×Value→H} {W:World} {b:Nat} {sp:Nat→Bool} {hd:Bool} {v:Value} {d:DataW H} {p:List MemPlace}
  (h:DataW.Trod enc Tryz.prog W b sp hd 34 v d p) (hv:∃A n c,v=.slice A n c):TsIn W v:=by
 obtain⟨A,n,c,rfl⟩:=hv;obtain⟨fuel,hf⟩:=h;have hf2:DataW.trod enc Tryz.prog W b sp hd fuel 34 [.slice A n c]=some (d,p):=by simpa [Value.cells] using hf
 obtain⟨A',n',c',L,e,h1,h2,h3,h4⟩:=slice_of Tm.cs 5 (TmIn W) Tryz.underlying34 (by kernel_rfl) zo Tm.cs_len tm_in hf2;have hn:A=none→c=0:=by
  intro e0;subst e0;rcases Go.Deep.open_slice Tryz.underlying34 hf2 with⟨k1,_⟩ | ⟨a,len,cap,m,k,D,Pl,k1,_⟩
  ·simp at k1;exact k1.2
  ·simp at k1
 simp only[List.cons.injEq,Value.slice.injEq,and_true] at e
 obtain⟨rfl,rfl,rfl⟩:=e;exact⟨A,n,c,L,rfl,h3,h4,by unfold maxLen at h2;omega,hn⟩
end Go.Proofs.YtfpbmpllildbaaaGreatDoor
