import Derived.Test.YtfpbmpllildbaaaGreatDoorYVm
import Derived.Test.YtfpbmpllildbaaaGreatDoorYRdV
set_option maxRecDepth 100000
namespace Go.Proofs.YtfpbmpllildbaaaGreatDoor
open Go.RowKit Tw
theorem tm_lens {w:World} {t:Tm} (h:TmIn w t):t.x.l≤9223372036854775807∧t.x.l'≤9223372036854775807:=⟨h.1.1,h.1.2.1⟩
theorem wsum_len {L:List Tm} {m:Nat} (h:∀t∈L,dgT t≤m) (a:Int):wsum L a≤(m+2)*L.length:=by
 induction L with
 | nil=>exact cA _
 | cons x L ih =>
  have h1:=ih fun t ht=>h t (uA _ ht);have h2:=h x tA;simp only[wsum,wC]
  rw[wA,bD];split<;>omega
theorem gv_small {w:World} {A:Option Addr} {n c cnt most:Nat} {L:List Tm} (h:Sl Tm.cs 5 w A n c L) (hi:∀t∈L,TmIn w t) (hc:A=none→c=0) (hs:shortVc (cnt:Int) (most:Int) ⟨A,n,c,L⟩=true):GV w A n c (prs L) ((most+2)*cnt)∧n≤cnt:=by
 unfold shortVc at hs
 simp only[wB,dC,nC] at hs
 have hd:∀t∈L,dgT t≤most:=fun t ht=>by
  have:=hs.2 t ht;unfold shortFr at this
  simp only[wB,dC] at this
  unfold dgT
  omega
 refine⟨⟨L,h,fun t ht=>(hi t ht).1.2.2 (dgT t) (by unfold dgT;omega) (by unfold dgT;omega),rfl,fun a=>nA (wsum_len hd a) (eC _ (zi h.1)),hc⟩,zo⟩
theorem sz_small {w:World} {A:Option Addr} {n c cnt most:Nat} {L:List Tm} (hi:∀t∈L,TmIn w t) (hs:shortVc (cnt:Int) (most:Int) ⟨A,n,c,L⟩=true):∀x∈prs L,sz x.2+1≤most+2:=fun x hx=>by
 obtain⟨t,ht,rfl⟩:=prs_mem hx;unfold shortVc at hs
 simp only[wB,dC,nC] at hs
 have h1:=hs.2 t ht;unfold shortFr at h1
 simp only[wB,dC] at h1
 have h2:=((hi t ht).1.2.2 most zo zo).szd;show sz t.x.q+1≤most+2
 omega
def TsIn (W:World) (v:Value):Prop:=∃(A:Option Addr) (n c:Nat) (L:List Tm),v=.slice A n c∧Sl Tm.cs 5 W A n c L∧(∀t∈L,TmIn W t)∧n≤9223372036854775807∧(A=none→c=0)
open Go.ChangeShapes Go.WideShapes Go.ChangeAt in
theorem ts_of {H:Type} {enc:TypeId×Value→H} {W:World} {b:Nat} {sp:Nat→Bool} {hd:Bool} {v:Value} {d:DataW H} {p:List MemPlace}
  (h:DataW.Trod enc Tryz.prog W b sp hd 34 v d p) (hv:∃A n c,v=.slice A n c):TsIn W v:=by
 obtain⟨A,n,c,rfl⟩:=hv;obtain⟨fuel,hf⟩:=h;have hf2:DataW.trod enc Tryz.prog W b sp hd fuel 34 [.slice A n c]=some (d,p):=by simpa [Value.cells] using hf
 obtain⟨A',n',c',L,e,h1,h2,h3,h4⟩:=slice_of Tm.cs 5 (TmIn W) Tryz.underlying34 (by kernel_rfl) zo Tm.cs_len tm_in hf2;have hn:A=none→c=0:=by
  intro e0;subst e0;rcases Go.Deep.open_slice Tryz.underlying34 hf2 with⟨k1,_⟩ | ⟨a,len,cap,m,k,D,Pl,k1,_⟩
  ·simp at k1;exact k1.2
  ·simp at k1
 simp only[List.cons.injEq,Value.slice.injEq,and_true] at e
 obtain⟨rfl,rfl,rfl⟩:=e;exact⟨A,n,c,L,rfl,h3,h4,by unfold maxLen at h2;omega,hn⟩
end Go.Proofs.YtfpbmpllildbaaaGreatDoor
