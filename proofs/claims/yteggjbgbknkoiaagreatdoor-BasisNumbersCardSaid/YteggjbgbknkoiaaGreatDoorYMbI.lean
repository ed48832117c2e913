import Derived.Test.YteggjbgbknkoiaaGreatDoorYRdT
import Derived.Test.YteggjbgbknkoiaaGreatDoorYMx5
namespace Go.Proofs.YteggjbgbknkoiaaGreatDoor
open Go.RowKit Tw
theorem VgIn.below {w w':World} {v:Vc} (h:VgIn w v) (hb:Below w.heap.size w w':=by go_grown):Sl Tm.cs 5 w' v.A v.n v.c v.L∧v.n≤9223372036854775807∧∀x∈v.L,x.x.l≤9223372036854775807∧x.x.l'≤9223372036854775807 :=
 ⟨h.2.1.below hb,by have:=h.1;unfold maxLen at this;omega,fun x hx=>tm_lens (h.2.2.1 x hx)⟩
theorem VgIn.sl {w:World} {v:Vc} (h:VgIn w v):Sl Tm.cs 5 w v.A v.n v.c v.L:=h.2.1
def TellsL14 (w:World) (P:List (Int×Rat)) (e:Ending) (w':World):Prop:=∃A m c,e=.returned (.tuple #[.slice A m c,.int .i64 0])∧NV w' A m c P 500000000∧m≤14∧Below w.heap.size w w'
theorem layF_len {n:Nat} (F:Int→Rat):(layF n F).length≤n:=wA (nrm_len _) (by rw[idx_len,xB,zF];exact aA _)
theorem ma_small {C:List (List (Int×Rat))} (h:∀x∈C,Rise x∧∀y∈x,sz y.2+1≤4) (j a:Int):sz (mA C j a)≤3:=by
 unfold mA
 rw[dA];cases e:C[a.toNat]? with
 | none=>exact wA sz_zero zd
 | some c =>
  by_cases h0:pget c j=0
  ·show sz (pget c j)≤3
   rw[h0];exact wA sz_zero zd
  ·obtain⟨t,ht,rfl⟩:=pget_mem h0;have h1:=h c (eA e);have h2:=h1.2 t ht;show sz (pget c t.1)≤3
   rw[h1.1.get ht];omega
theorem ftranS {w:World} {fb n bn bc S:Nat} {C:List (List (Int×Rat))} {X:Option Addr} {P:List (Int×Rat)} (h:LuAt w fb n 4 C) (hC:∀x∈C,Rise x∧∀y∈x,sz y.2+1≤4) (hb:GV w X bn bc P S) (hS2:2≤S) (hS:S≤1999) (hbn:bn≤1000) (hn:n≤14) (hfit:fitsB n (nrm P)=true) (hT:Hid (Tab w)) :
  Calls Tryz.prog 8 #[.pointer (some ⟨fb,0,none⟩),.slice X bn bc] w (TellsL14 w (layF n (back (fwd (facST C n) (pget P)) (facST C n)))):=by
 have k1:=sol_small hn (show S+1≤2000 by omega);have k2:=pow_small hn (show S≤2000 by omega);have k3:=fac_small hn;have k4:n*(facM 4 n / 2+(solG 3 (S+1) (n-1)+2))≤14*1842177278:=eF hn zo;refine(ftranC (KX:=solG 3 (S+1) (n-1)+2) h hb hS2 hbn zo hfit zo zo zo (zh fun a h0 h1=>?_) zo zo hT).mono ?_
 ·have:=h.sz (D:=3) (S:=S+1) (fun j _ a _=>ma_small hC j a) (f:=pget P) (fun j _=>hb.getsz j) a h0 h1;omega
 ·rintro e w' ⟨A,m,c,rfl,h1,h2⟩;exact⟨A,m,c,rfl,h1.mono zo,by rw[←h1.len];exact wA (layF_len _) hn,h2⟩
theorem nv_szs {w:World} {A:Option Addr} {n c M:Nat} {P:List (Int×Rat)} (h:NV w A n c P M):∀x∈P,sz x.2+1≤M:=fun x hx=>by
 obtain⟨L,_,h2,rfl,_⟩:=h;obtain⟨t,ht,rfl⟩:=prs_mem hx;exact(h2 t ht).2.2
theorem rightS {w:World} {A:Option Addr} {n c M:Nat} {P:List (Int×Rat)} {k:Int} (h:NV w A n c P M) (hM:M≤20000000000) (hn:n≤1000000000) (hP:Nrm P) (hin:∀x∈P,0≤x.1∧x.1<k) (hT:Hid (Tab w)) :
  Calls Tryz.prog 21 #[.slice A n c,.int .i64 k] w fun e w'=>e=.returned (.bool true)∧Below w.heap.size w w':=by
 obtain⟨L,h1,h2,rfl,_⟩:=h;refine right_q (m:=M) h1 (h2.fr fun _=>aA _) hM hn true (zh (rightB_of hP fun t ht=>?_)) hT;have h3:=hin (t.at_,t.x.q) (wD (f:=fun t:Tm=>(t.at_,t.x.q)) ht);exact⟨h3.1,h3.2,(h2 t ht).2.1⟩
section
variable {C:List (List (Int×Rat))} {n:Nat} {P:List (Int×Rat)}
theorem lay_nrm (n:Nat) (F:Int→Rat):Nrm (layF n F):=nrm_nrm _
theorem lay_at (n:Nat) (F:Int→Rat):∀t∈layF n F,0≤t.1∧t.1<(n:Int):=lay_in n F
end
theorem CM.szs {w:World} {A:Option Addr} {n c M:Nat} {C:List (List (Int×Rat))} (h:CM w A n c C M):∀x∈C,∀y∈x,sz y.2+1≤M:=fun x hx=>by
 obtain⟨CL,_,h2,rfl⟩:=h;obtain⟨v,hv,rfl⟩:=rC.1 hx;exact nv_szs (h2 v hv).nv
end Go.Proofs.YteggjbgbknkoiaaGreatDoor
