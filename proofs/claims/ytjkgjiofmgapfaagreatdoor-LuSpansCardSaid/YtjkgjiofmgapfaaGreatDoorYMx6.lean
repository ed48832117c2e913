/-
  The examples of layer 6; contracts of Inverse, Move, Turn with numbers. Written by wip/gen/mx6.py.
-/
import Derived.Test.YtjkgjiofmgapfaaGreatDoorYMxC
namespace Go.Proofs.YtjkgjiofmgapfaaGreatDoor
open Go.RowKit Tw
theorem sl_litG {α:Type} {f:α→List Value} {k:Nat} {w:World} {b n:Nat} {cs:Array Value} {te:TypeId} {L:List α} (hk:∀x,(f x).length=k) (h:Bx w b cs te) (hcs:cs.toList=flat f L) (hl:L.length=n):Sl f k w (some ⟨b,0,none⟩) n n L:=by
 subst hl;refine⟨rfl,by rw[flat_len hk],_,_,rfl,(fun h=>(by cases h)),fun a ha j u hu=>?_⟩;cases ha;rw[add_off,Nat.zero_add];refine h.cell j u ?_;rw[←hcs] at hu;simpa using hu
theorem cn_mk {w:World} {A:Option Addr} {n c M:Nat} {L:List Tm} (h1:Sl Tm.cs 5 w A n c L) (h2:OnT w L (fun _=>M)) (h3:A=none→c=0):CN w ⟨A,n,c,L⟩ M:=⟨h1,h2,h3⟩
theorem cns_nil (w:World) (M:Nat):∀u∈([]:List Vc),CN w u M:=fun u hu=>by cases hu
theorem cns_cons {w:World} {v:Vc} {CL:List Vc} {M:Nat} (h:CN w v M) (hs:∀u∈CL,CN w u M):∀u∈v :: CL,CN w u M:=fun u hu=>by
 rcases List.mem_cons.1 hu with rfl | hu
 ·exact h
 ·exact hs u hu
theorem cm_lit {w:World} {b n M:Nat} {cs:Array Value} {te:TypeId} (CL:List Vc) (h:Bx w b cs te) (hcs:cs.toList=flat Vc.cs CL) (hl:CL.length=n) (hs:∀u∈CL,CN w u M) (C:List (List (Int×Rat))) (hC:CL.map (fun v=>prs v.L)=C):CM w (some ⟨b,0,none⟩) n n C M:=⟨CL,sl_litG Vc.cs_len h hcs hl,hs,hC⟩
theorem wtot_on {w:World} {L:List Tm} {M n:Nat} (h:OnT w L (fun _=>M)) (hn:L.length*M=n):wtot (prs L)≤n:=by
 have h1:=wtot_le (m:=M) (L:=prs L) fun x hx=>by
  obtain⟨t,ht,rfl⟩:=prs_mem hx;exact(h t ht).2.2
 rwa [zAh,hn] at h1
theorem CM.dg {w:World} {A:Option Addr} {n c M k m:Nat} {C:List (List (Int×Rat))} (h:CM w A n c C M) (hk:(∀x∈C,x.length≤k)∧k*M=m):∀x∈C,x.length≤k∧wtot x≤m:=fun x hx=>by
 obtain⟨CL,h1,h2,rfl⟩:=h;refine⟨hk.1 x hx,?_⟩;obtain⟨v,hv,rfl⟩:=List.mem_map.1 hx;refine Nat.le_trans (wtot_on (h2 v hv).2.1 rfl) ?_;have h3:=hk.1 _ hx;rw[zAh] at h3;rw[←hk.2];exact Nat.mul_le_mul_right _ h3
end Go.Proofs.YtjkgjiofmgapfaaGreatDoor
