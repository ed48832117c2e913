import Derived.Test.YtiondclbdgijbaaGreatDoorYHd24
import Derived.Test.YtiondclbdgijbaaGreatDoorYHd13
namespace Go.Proofs.YtiondclbdgijbaaGreatDoor
open Go.RowKit Tw
theorem qt_btw {a b:Rat} (h:a≤b) {q:Int} (h0:0≤q) (h4:q≤4):a≤a+qof q 4*(b-a)∧a+qof q 4*(b-a)≤b:=by
 have hd:0≤b-a:=by grind
 have ht:0≤qof q 4∧qof q 4≤1:=by
  have:q=0∨q=1∨q=2∨q=3∨q=4:=zo;rcases this with rfl | rfl | rfl | rfl | rfl<;>decide +kernel
 have h1:=Rat.mul_nonneg ht.1 hd;have h2:=Rat.mul_le_mul_of_nonneg_right ht.2 hd;rw[Rat.one_mul] at h2;constructor<;>grind
theorem qt_holds {X U O:List Fr} {n:Int} (hq:QtF X U O) (hl:O.length=X.length) (hb:boxB n (X.map fun x=>x.q) (U.map fun x=>x.q)=true):HoldsS (X.map (fun x=>x.q),U.map fun x=>x.q) (O.map fun x=>x.q):=by
 have hb2:=boxB_len hb;rw[nA,nA] at hb2;refine⟨by rw[nA,nA,hl],by rw[nA,nA,hl];omega,fun a=>?_⟩;simp only[mA]
 rcases eB a X.length with h | h
 ·have hx:=cA h;have hu:=cA (l:=U) (i:=a) zo;have ho:=cA (l:=O) (i:=a) zo;obtain⟨q,h0,h4,e⟩:=hq a _ _ _ ho hx hu;have hxy:=hb2.2.2 a _ _ (by rw[mA,hx];rfl) (by rw[mA,hu];rfl);rw[hx,hu,ho];simp only[vE,Option.getD_some]
  rw[e];exact qt_btw hxy h0 h4
 ·rw[cB h,cB (l:=U) zo,cB (l:=O) zo];exact⟨pE,pE⟩
theorem point_at {LV:List Lv} {x:List Rat} {i:Nat} (hi:i<LV.length):aheadS LV (x,x) (i+1)=(aheadT LV x (i+1),aheadT LV x (i+1)):=by
 have h1:=spans_at (L:=LV) (s:=(x,x)) hi;rw[point_all,mA,trace_at hi] at h1;exact(Option.some.inj h1).symm
structure Units (w:World) (N D:Nat) (vL vM tL pL pM:List Fr):Prop where
 a1:AllRn w (D+1) vL
 a2:AllRn w (D+1) vM
 a3:AllRn w (D+1) tL
 a4:AllRn w (D+1) pL
 a5:AllRn w (D+1) pM
 le:∀(k:Nat) (a b z c d:Fr),vL[k]?=some a→vM[k]?=some b→tL[k]?=some z→pL[k]?=some c→pM[k]?=some d→a.q≤z.q∧z.q≤b.q∧c.q=z.q∧d.q=z.q
theorem Units.mk3 {w:World} {v p:Sp} {t:Fq} {D:Nat} {a b x:List Rat} (hv:SpanU w v (D+1,a,b)) (ht:FqU w t (D+1,x)) (hp:SpanU w p (D+1,x,x)) (hh:HoldsS (a,b) x):∃N vA vc vL vB vd vM tA tc tL pA pc pL pB pd pM,v=⟨vA,N,vc,vL,vB,vd,vM⟩∧t=⟨tA,N,tc,tL⟩∧p=⟨pA,N,pc,pL,pB,pd,pM⟩∧N=x.length∧
  (Sl Fr.cs 4 w vA N vc vL∧Sl Fr.cs 4 w vB N vd vM∧Sl Fr.cs 4 w tA N tc tL∧Sl Fr.cs 4 w pA N pc pL∧Sl Fr.cs 4 w pB N pd pM)∧Units w N D vL vM tL pL pM:=by
 obtain⟨vA,vc,vL,vB,vd,vM,rfl,⟨h1,h2,h3⟩,h4,h5,h6⟩:=span_n (n:=x.length) hv hh.1;obtain⟨pA,pc,pL,pB,pd,pM,rfl,⟨k1,k2,k3⟩,k4,k5,k6⟩:=span_n (n:=x.length) hp rfl;obtain⟨tA,tn,tc,tL⟩:=t;obtain⟨m1,m2,m3⟩:=ht;have m4:(tL.map fun x=>x.q)=x:=m3;obtain rfl:tn=x.length:=by
  have e1:=congrArg List.length m4;rw[nA] at e1;have e2:tL.length=tn:=m1.1;omega
 refine⟨x.length,vA,vc,vL,vB,vd,vM,tA,tc,tL,pA,pc,pL,pB,pd,pM,rfl,rfl,rfl,rfl,⟨h1,h4,m1,k1,k4⟩,h2,h5,m2,k2,k5,fun k fa fb fz fc fd ha hb hz hc hd=>?_⟩;have e:=hh.2.2 k;have ea:a[k]?=some fa.q:=by rw[←h3,mA,ha];rfl
 have eb:b[k]?=some fb.q:=by rw[←h6,mA,hb];rfl
 have ez:x[k]?=some fz.q:=by rw[←m4,mA,hz];rfl
 have ec:x[k]?=some fc.q:=by rw[←k3,mA,hc];rfl
 have ed:x[k]?=some fd.q:=by rw[←k6,mA,hd];rfl
 simp only[ea,eb,ez,Option.getD_some] at e
 rw[ez] at ec ed;exact⟨e.1,e.2,(Option.some.inj ec).symm,(Option.some.inj ed).symm⟩
end Go.Proofs.YtiondclbdgijbaaGreatDoor
