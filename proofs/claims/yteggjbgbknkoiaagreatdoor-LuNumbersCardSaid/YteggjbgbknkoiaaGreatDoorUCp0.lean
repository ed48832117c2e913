import Derived.Test.YteggjbgbknkoiaaGreatDoorUZTab
import Derived.Test.YteggjbgbknkoiaaGreatDoorUVj
namespace Go.Proofs.YteggjbgbknkoiaaGreatDoor
open Go.RowKit Tw
variable {w':World} {A:Option Addr} {x:Fr}
def All2 {α β:Type} (R:α→β→Prop) (L:List α) (D:List β):Prop:=L.length=D.length∧∀(i:Nat) x d,L[i]?=some x→D[i]?=some d→R x d
theorem All2.nil {α β:Type} {R:α→β→Prop}:All2 R [] []:=⟨rfl,fun i x d h=>by rw[List.getElem?_nil] at h;cases h⟩
theorem All2.mono {α β:Type} {R S:α→β→Prop} {L:List α} {D:List β} (h:All2 R L D) (hi:∀x d,R x d→S x d):All2 S L D:=⟨h.1,fun i x d hx hd=>hi x d (h.2 i x d hx hd)⟩
theorem All2.snoc {α β:Type} {R:α→β→Prop} {L:List α} {D:List β} {x:α} {d:β} (h:All2 R L D) (hx:R x d):All2 R (L++[x]) (D++[d]):=by
 refine⟨by rw[yC,yC,h.1];rfl,fun i y e hy he=>?_⟩;rcases kB i L.length with hi | hi
 ·rw[gF hi] at hy;rw[gF (by rw[←h.1];exact hi)] at he;exact h.2 i y e hy he
 ·rw[fD hi,List.getElem?_singleton] at hy;rw[fD (by rw[←h.1];exact hi),←h.1,List.getElem?_singleton] at he;split at hy
  ·rename_i h0
   rw[gA h0] at he;cases hy;cases he;exact hx
  ·cases hy
theorem All2.take {α β:Type} {R:α→β→Prop} {L:List α} {D:List β} {i:Nat} {x:α} {d:β} (h:All2 R L (D.take i)) (hd:D[i]?=some d) (hx:R x d):All2 R (L++[x]) (D.take (i+1)):=by
 rw[take_snoc hd];exact h.snoc hx
theorem All2.of {α β:Type} {R:α→β→Prop}:∀{L:List α},(∀x∈L,∃d,R x d)→∃D,All2 R L D
 | [],_=>⟨[],All2.nil⟩
 | x :: L,h=>by
  obtain⟨d,hd⟩:=h x pA;obtain⟨D,hD⟩:=All2.of (L:=L) fun y hy=>h y (qA _ hy);refine⟨d :: D,by rw[qC,qC,hD.1],fun i y e hy he=>?_⟩;cases i with
  | zero=>cases hy;cases he;exact hd
  | succ i=>exact hD.2 i y e (by simpa using hy) (by simpa using he)
theorem All2.has {α β:Type} {R:α→β→Prop} {L:List α} {D:List β} (h:All2 R L D) {i:Nat} (hi:i<L.length):∃x d,L[i]?=some x∧D[i]?=some d∧R x d :=
 ⟨_,_,aA hi,aA (by rw[←h.1];exact hi),h.2 i _ _ (aA hi) (aA (by rw[←h.1];exact hi))⟩
theorem Nx.k {w:World} {c l:Nat} {xs:List Nat} (h:Nx w A c l xs) (hk:K64 w w'):Nx w' A c l xs:=⟨h.1.k hk,h.2⟩
structure Dg where
 s:Bool
 xs:List Nat
 s':Bool
 xs':List Nat
def FrD (w:World) (d:Dg) (x:Fr):Prop:=x.s=d.s∧x.s'=d.s'∧Nx w x.A x.c x.l d.xs∧Nx w x.A' x.c' x.l' d.xs'
theorem FrD.below {w:World} {d:Dg} (h:FrD w d x) (hb:Below w.heap.size w w':=by go_grown):FrD w' d x:=⟨h.1,h.2.1,h.2.2.1.below hb,h.2.2.2.below hb⟩
theorem FrD.k {w:World} {d:Dg} (h:FrD w d x) (hb:K64 w w'):FrD w' d x:=⟨h.1,h.2.1,h.2.2.1.k hb,h.2.2.2.k hb⟩
theorem FrD.n1 {w:World} {d:Dg} (h:FrD w d x):Nx w x.A x.c x.l d.xs:=h.2.2.1
theorem FrD.n2 {w:World} {d:Dg} (h:FrD w d x):Nx w x.A' x.c' x.l' d.xs':=h.2.2.2
theorem FrOk.dg {w:World} {m:Nat} (h:FrOk w m x):∃d,FrD w d x:=by
 obtain⟨_,xs,ys,h1,h2,_⟩:=h;exact⟨⟨x.s,xs,x.s',ys⟩,rfl,rfl,h1,h2⟩
def TmD (w:World) (t:Tm) (d:Int×Dg):Prop:=t.at_=d.1∧FrD w d.2 t.x
theorem TmD.below {w:World} {t:Tm} {d:Int×Dg} (h:TmD w t d) (hb:Below w.heap.size w w':=by go_grown):TmD w' t d:=⟨h.1,h.2.below hb⟩
theorem TmD.k {w:World} {t:Tm} {d:Int×Dg} (h:TmD w t d) (hb:K64 w w'):TmD w' t d:=⟨h.1,h.2.k hb⟩
def TsD (w:World) (L:List Tm) (D:List (Int×Dg)):Prop:=All2 (TmD w) L D
theorem TsD.below {w:World} {L:List Tm} {D:List (Int×Dg)} (h:TsD w L D) (hb:Below w.heap.size w w':=by go_grown):TsD w' L D:=All2.mono h fun _ _ hx=>hx.below hb
theorem TsD.k {w:World} {L:List Tm} {D:List (Int×Dg)} (h:TsD w L D) (hb:K64 w w'):TsD w' L D:=All2.mono h fun _ _ hx=>hx.k hb
def VcD (w:World) (A:Option Addr) (n c:Nat) (D:List (Int×Dg)):Prop:=(∃L,Sl Tm.cs 5 w A n c L∧TsD w L D)∧∀d∈D,d.2.xs.length≤800000∧d.2.xs'.length≤800000
theorem VcD.below {w:World} {n c:Nat} {D:List (Int×Dg)} (h:VcD w A n c D) (hb:Below w.heap.size w w':=by go_grown):VcD w' A n c D:=by
 obtain⟨⟨L,h1,h2⟩,h3⟩:=h;exact⟨⟨L,h1.below hb,h2.below hb⟩,h3⟩
theorem VcD.len {w:World} {n c:Nat} {D:List (Int×Dg)} (h:VcD w A n c D):D.length=n:=by
 obtain⟨⟨L,h1,h2⟩,_⟩:=h;rw[←h2.1,h1.1]
end Go.Proofs.YteggjbgbknkoiaaGreatDoor
