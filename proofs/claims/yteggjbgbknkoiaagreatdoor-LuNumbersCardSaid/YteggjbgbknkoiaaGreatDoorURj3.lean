import Derived.Test.YteggjbgbknkoiaaGreatDoorURj2
namespace Go.Proofs.YteggjbgbknkoiaaGreatDoor
open Go.RowKit Tw
theorem FT.snoc {w w':World} {B M i hc hc':Nat} {V:List Fw} {H H':Option Addr} {X:Fw} (h:FT w B [roL H i hc V] M V) (hx:FOk w X M) (hxa:∀a,X.A=some a→a.block<w.heap.size∧B≤a.block) (hxb:∀a,X.A=some a→some a.block≠(Value.slice H i hc).ownBlock)
  (ho:OwnR w' B 49 1 (.slice H' (i+1) hc') (i+1) (flat Fw.cs (V++[X]))) (hg:Grew w w' (.slice H i hc) (.slice H' (i+1) hc')):FT w' B [roL H' (i+1) hc' (V++[X])] M (V++[X]):=by
 have h1:FT w' B [roL H' (i+1) hc' (V++[X])] M V:=h.upd (i:=0) (r':=roL H' (i+1) hc' (V++[X])) rfl ho hg;refine⟨h1.own,h1.ap,fun v hv=>?_⟩;rcases bC.1 hv with h2 | h2
 ·exact h1.row v h2
 ·obtain rfl:=cC.1 h2;refine⟨hx.grow (fun a ha=>⟨(hxa a ha).1,hxb a ha⟩) hg,fun a ha=>⟨eB (hxa a ha).1 hg.size,fun j r hr=>?_⟩⟩;cases j with
  | zero=>obtain rfl:=Option.some.inj hr;exact hg.ne (hxa a ha).1 (hxb a ha)
  | succ j=>cases hr
theorem one_some {α:Type} {x r:α} {i:Nat} (h:[x][i]?=some r):i=0∧r=x:=by
 cases i with
 | zero=>exact⟨rfl,(Option.some.inj h).symm⟩
 | succ i=>cases h
theorem FT.nil (w:World) (B M:Nat):FT w B [roL none 0 0 []] M []:=by
 refine⟨fun i r hr=>?_,fun i j r s hr hs hij=>?_,fun v hv=>(by cases hv)⟩
 ·obtain⟨_,rfl⟩:=one_some hr;exact OwnR.nil _ _ _ _
 ·exact absurd ((one_some hr).1.trans (one_some hs).1.symm) hij
def FRow (w:World) (R:List Ro) (v:Fw):Prop:=FOk w v 1900∧∀a,v.A=some a→a.block<w.heap.size∧∀(i:Nat) (r:Ro),R[i]?=some r→some a.block≠r.v.ownBlock
theorem FRow.below {w w':World} {R:List Ro} {v:Fw} (h:FRow w R v) (hb:Below w.heap.size w w':=by go_grown):FRow w' R v:=⟨h.1.below hb,fun a ha=>⟨eB (h.2 a ha).1 hb.size,(h.2 a ha).2⟩⟩
theorem FRow.grow {w W:World} {g n hc:Nat} {V V':List Fw} {v:Fw} (h:FRow w [roT g n hc V] v) (hg:Grew w W (.slice (some ⟨g,0,none⟩) n hc) (.slice (some ⟨g,0,none⟩) n hc)):FRow W [roT g n hc V'] v :=
 ⟨h.1.grow (fun a ha=>⟨(h.2 a ha).1,(h.2 a ha).2 0 _ rfl⟩) hg,fun a ha=>⟨eB (h.2 a ha).1 hg.size,fun i r hr=>by
  obtain⟨_,rfl⟩:=one_some hr;exact(h.2 a ha).2 0 (roT g n hc V) rfl⟩⟩
end Go.Proofs.YteggjbgbknkoiaaGreatDoor
