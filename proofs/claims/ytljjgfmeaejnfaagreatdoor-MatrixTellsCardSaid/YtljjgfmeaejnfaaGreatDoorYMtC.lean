/-
  Mt: the card. Written by wip/gen/splitcard.py.
-/
import Derived.Test.YtljjgfmeaejnfaaGreatDoorYRv5
import Derived.Test.YtljjgfmeaejnfaaGreatDoorYCp
import Derived.Test.YtljjgfmeaejnfaaGreatDoorYRdT
set_option maxHeartbeats 32000000
set_option maxRecDepth 100000
namespace Go.Proofs.YtljjgfmeaejnfaaGreatDoor
open Go.RowKit Tw
def TellsDn (w:World) (P:List (Int×Rat)) (m K:Nat) (e:Ending) (w':World):Prop:=∃A c L,e=.returned (.slice A m c)∧Sl Fr.cs 4 w' A m c L∧AllRn w' K L∧L.map (fun x=>x.q)=denseF P m∧Below w.heap.size w w'
theorem TellsFs.d {w w':World} {P:List (Int×Rat)} {m K:Nat} {e:Ending} (h:TellsFs w (denseF P m) K e w'):TellsDn w P m K e w':=by
 obtain⟨A,n,c,L,rfl,h1,h2,h3,h4⟩:=h;have h5:=congrArg List.length h3;unfold denseF at h5
 rw[List.length_map,List.length_map,List.length_range,h1.1] at h5;subst h5;exact⟨A,c,L,rfl,h1,h2,h3,h4⟩
theorem AllRn.ones {w:World} {K:Nat} {L:List Fr} (h:AllRn w K L) (hK:K≤800000):Ones w L:=fun x hx=>by
 have h1:=h x hx;have h2:=h1.1.len;exact⟨h1.1,zo,zo⟩
theorem short_le {cnt most:Nat} {v:Vc} (hs:shortVc (cnt:Int) (most:Int) v=true):v.n≤cnt∧∀t∈v.L,t.x.l≤most∧t.x.l'≤most:=by
 unfold shortVc at hs
 simp only[Bool.and_eq_true,decide_eq_true_eq,List.all_eq_true] at hs
 refine⟨zo,fun t ht=>?_⟩;have:=hs.2 t ht;unfold shortFr at this
 simp only[Bool.and_eq_true,decide_eq_true_eq] at this
 omega
theorem in_ok {w:World} {L:List Tm} {most m:Nat} (hi:∀t∈L,TmIn w t) (hs:∀t∈L,t.x.l≤most∧t.x.l'≤most) (hm:most≤m):∀t∈L,FrOk w m t.x:=fun t ht=>(hi t ht).1.2.2 m (zia (hs t ht)) (zia (hs t ht))
theorem in_vcd {w:World} {A:Option Addr} {n c most:Nat} {L:List Tm} (h:Sl Tm.cs 5 w A n c L) (hi:∀t∈L,TmIn w t) (hs:∀t∈L,t.x.l≤most∧t.x.l'≤most) (hm:most≤800000):∃D,VcD w A n c D:=vcd_of (m:=most) h hm fun t ht=>⟨in_ok hi hs (Nat.le_refl _) t ht,hs t ht⟩
open Go.RowKit Tw
theorem VgIn.mx {W:World} {v:Vc} (h:VgIn W v):v.n≤maxLen:=h.1
theorem VgIn.sl {W:World} {v:Vc} (h:VgIn W v):Sl Tm.cs 5 W v.A v.n v.c v.L:=h.2.1
theorem VgIn.tm {W:World} {v:Vc} (h:VgIn W v):∀t∈v.L,TmIn W t:=h.2.2.1
theorem VgIn.cap {W:World} {v:Vc} (h:VgIn W v):v.A=none→v.c=0:=h.2.2.2
def TellsCz (w:World) (T:List (List (Int×Rat))) (z:Int) (K:Nat) (e:Ending) (w':World):Prop:=∃A m c,e=.returned (.tuple #[.slice A m c,.int .i64 z])∧CM w' A m c T K∧Below w.heap.size w w'
theorem cm_none (w:World) (M:Nat):CM w none 0 0 [] M:=⟨[],Sl.nil _,(fun v hv=>by cases hv),rfl⟩
theorem CM.size {w:World} {A:Option Addr} {n c M:Nat} {T:List (List (Int×Rat))} (h:CM w A n c T M):T.length=n:=by
 obtain⟨CL,h1,_,rfl⟩:=h;rw[List.length_map,h1.1]
def TurnIs (C:List (List (Int×Rat))) (kn:Int) (T:List (List (Int×Rat))) (z:Int):Prop:=(∃m:Nat,kn=(m:Int)∧m≤40∧T=turnT C m∧z=0)∨((kn<0∨65536<kn)∧T=[]∧z=2)
theorem turnA {w:World} {A:Option Addr} {n c M:Nat} {C T:List (List (Int×Rat))} {kn z:Int} (h:CW w A n c C M) (hC:∀x∈C,x.length≤1000) (hM:M≤18000) (hn:n≤1000000) (hz:TurnIs C kn T z) (hT:Hid (Tab w)) :
  Calls Tryz.prog 50 #[.slice A n c,.int .i64 kn] w (TellsCz w T z M):=by
 rcases hz with⟨m,rfl,hm,rfl,rfl⟩ | ⟨hk,rfl,rfl⟩
 ·exact(turnC h hC hM hn zo _ rfl hT).mono fun e w' k=>by
   obtain⟨g,h1,h2,h3⟩:=k;exact⟨_,_,_,h1,h2,h3⟩
 ·exact(turn_err kn hk).mono fun e w' k=>⟨_,_,_,k.1,cm_none _ _,k.2⟩
theorem turnB {w:World} {A:Option Addr} {n c M:Nat} {CL:List Vc} {T:List (List (Int×Rat))} {kn z:Int} (h:Sl Vc.cs 1 w A n c CL) (hcl:Hid (∀v∈CL,GV w v.A v.n v.c (prs v.L) M∧v.n≤1000)) (hM:M≤880) (hn:n≤100000) (hz:TurnIs (CL.map fun v=>prs v.L) kn T z) (hT:Hid (Tab w)) :
  Calls Tryz.prog 51 #[.slice A n c,.int .i64 kn] w (TellsCz w T z (M+4)):=by
 rcases hz with⟨m,rfl,hm,rfl,rfl⟩ | ⟨hk,rfl,rfl⟩
 ·exact(turnR_q h hcl hM hn zo hT).mono fun e w' k=>by
   obtain⟨g,h1,h2,h3⟩:=k;exact⟨_,_,_,h1,h2,h3⟩
 ·exact(turn_no6 kn hk).mono fun e w' k=>⟨_,_,_,k.1,cm_none _ _,k.2⟩
theorem turn_is (C:List (List (Int×Rat))) {kn:Int} (h:¬((40:Int)<kn∧kn≤65536)):∃T z,TurnIs C kn T z:=by
 by_cases h1:kn<0∨65536<kn
 ·exact⟨_,_,.inr ⟨h1,rfl,rfl⟩⟩
 ·exact⟨_,_,.inl ⟨kn.toNat,zo,zo,rfl,rfl⟩⟩
theorem turn_is_len {C T:List (List (Int×Rat))} {kn z:Int} (h:TurnIs C kn T z) (hC:C.length≤1000):T.length≤40∧∀x∈T,x.length≤1000000:=by
 rcases h with⟨m,rfl,hm,rfl,rfl⟩ | ⟨hk,rfl,rfl⟩
 ·refine⟨by rw[turnT_len];exact hm,fun x hx=>?_⟩;unfold turnT at hx
  obtain⟨i,_,rfl⟩:=List.mem_map.1 hx;rw[←turnF_nrm];have h1:=nrm_len (idxP (C.map fun c=>pget c (i:Int)));unfold idxP at h1
  rw[List.length_mapIdx,List.length_map] at h1;unfold idxP
  omega
 ·exact⟨Nat.zero_le _,fun x hx=>by cases hx⟩
theorem inverseA {w:World} {A:Option Addr} {N c:Nat} {L I:List Int} {z:Int} (h:Sl ics 1 w A N c L) (hw:Hid (∀x∈L,I64 x)) (hN:N≤1000000) (hI:Hid (I=(if permL L=true then invL L else [])∧z=(if permL L=true then 0 else 2))) :
  Calls Tryz.prog 52 #[.slice A N c] w (TellsIz w I z):=by
 obtain⟨rfl,rfl⟩:=hI.out;refine(inverse_q h hw hN).mono fun e w' k=>?_;cases hp:permL L
 ·rw[hp,if_neg zd] at k;obtain⟨A',n',c',k1,k2,_,k3⟩:=k;exact⟨A',n',c',k1,k2,k3⟩
 ·rw[hp,if_pos rfl] at k;obtain⟨A',n',c',k1,k2,_,k3⟩:=k;exact⟨A',n',c',k1,k2,k3⟩
theorem moveA {w:World} {A X:Option Addr} {N c nx cx M:Nat} {L:List Int} {P V:List (Int×Rat)} {z:Int} (h:Sl ics 1 w A N c L) (hw:Hid (∀x∈L,I64 x)) (hN:N≤1000000) (hx:GV w X nx cx P M) (hM:M≤850) (hnx:nx≤100000)
  (hV:Hid (V=(if(permL L&&okM N (nrm P))=true then nrm (movF L (nrm P)) else [])∧z=(if(permL L&&okM N (nrm P))=true then 0 else 2))) (hT:Hid (Tab w)) :
  Calls Tryz.prog 54 #[.slice A N c,.slice X nx cx] w (TellsVz w V z (M+1)):=by
 obtain⟨rfl,rfl⟩:=hV.out;cases hp:permL L
 ·refine(move_no h hw hN hp).mono fun e w' k=>?_;exact⟨none,0,0,k.1,nv_none _ _,k.2⟩
 ·refine(move_yes h hw hN hp hx zo zo hT).mono fun e w' k=>?_;unfold TellsMv at k
  rw[Bool.true_and];cases ho:okM N (nrm P)
  ·rw[ho,if_neg zd] at k;exact⟨none,0,0,k.1,nv_none _ _,k.2⟩
  ·rw[ho,if_pos rfl] at k;exact k
theorem rightA {w:World} {A:Option Addr} {n c m:Nat} {CL:List Vc} {kn:Int} (h:Sl Vc.cs 1 w A n c CL) (hcl:Hid (∀v∈CL,Sl Tm.cs 5 w v.A v.n v.c v.L∧(∀t∈v.L,FrOk w m t.x)∧v.n≤1000000000)) (hm:m≤20000) (hn:n≤1000000000) (r:Bool) (hr:Hid (((CL.all fun v=>rightB v.L kn)&&decide (0≤kn))=r)) (hT:Hid (Tab w)) :
  Calls Tryz.prog 61 #[.slice A n c,.int .i64 kn] w fun e w'=>e=.returned (.bool r)∧Below w.heap.size w w':=by
 by_cases g1:kn<0
 ·obtain rfl:r=false:=by rw[←hr.out,decide_eq_false zo,Bool.and_false]
  exact(mright_no kn g1).mono fun e w' k=>⟨k.1,by rw[←k.2];exact Below.refl _ _⟩
 ·exact mright_q h hcl hm hn g1 r (zh (by rw[←hr.out,decide_eq_true zo,Bool.and_true])) hT
theorem tells6_0 {w:World} {A X PA:Option Addr} {n c nx cx np cp:Nat} {CL:List Vc} {LX:List Tm} {kn:Int} (hl:Sl Vc.cs 1 w A n c CL) (hli:Hid (∀v∈CL,VgIn w v)) (hln:n≤9223372036854775807) (_hx:Sl Tm.cs 5 w X nx cx LX) (_xi:Hid (∀t∈LX,TmIn w t)) (_hlx:nx≤9223372036854775807) (S0:Hid (shortVcs 8 8 2 n CL=false)) (hT:Hid (Tab w)) :
  Calls Tryz.prog 5 #[.slice A n c,.slice X nx cx,.slice PA np cp,.int .i64 kn] w (Yes w):=by
 have hB:=Below.refl w.heap.size w;have Bz:=Below.refl w.heap.size w;go_enter Tryz.func5,Tryz.ntmps5
 go_wp2_with fail
 with_reducible refine(shortVecs_q (hl.below (zAa hB (zAa (b:=w) Bz (by go_grown)))) (zh fun v hv=>⟨(hli.out v hv).sl.below (zAa hB (zAa (b:=w) Bz (by go_grown))),by have:=(hli.out v hv).mx;unfold maxLen at this;omega,fun x hx=>tm_lens ((hli.out v hv).tm x hx)⟩) hln 8 8 2 false S0).mono ?_
 rintro e w1 ⟨rfl,b1⟩;replace b1:=zAa (a:=w) (by go_grown) b1;replace Bz:=zAa Bz b1;clear b1;go_wp2_with fail
 with_reducible refine(awake6_q (zh (Tab.below hT.out (zAa hB (zAa (b:=w1) Bz (by go_grown)))))).mono ?_
 rintro e w2 ⟨rfl,b2⟩;replace b2:=zAa (a:=w1) (by go_grown) b2;replace Bz:=zAa Bz b2;clear b2;go_wp2_with fail
 go_ret
 have hF:=zAa (c:=w2) hB Bz;exact⟨rfl,zAa hF (by go_grown)⟩
theorem tells6_1 {w:World} {A X PA:Option Addr} {n c nx cx np cp:Nat} {CL:List Vc} {LX:List Tm} {kn:Int} (hl:Sl Vc.cs 1 w A n c CL) (hli:Hid (∀v∈CL,VgIn w v)) (hln:n≤9223372036854775807) (hx:Sl Tm.cs 5 w X nx cx LX) (xi:Hid (∀t∈LX,TmIn w t)) (hlx:nx≤9223372036854775807) (S0:Hid (shortVcs 8 8 2 n CL=true)) (S1:Hid (shortVc 8 2 ⟨X,nx,cx,LX⟩=false)) (hT:Hid (Tab w)) :
  Calls Tryz.prog 5 #[.slice A n c,.slice X nx cx,.slice PA np cp,.int .i64 kn] w (Yes w):=by
 have hB:=Below.refl w.heap.size w;have Bz:=Below.refl w.heap.size w;go_enter Tryz.func5,Tryz.ntmps5
 go_wp2_with fail
 with_reducible refine(shortVecs_q (hl.below (zAa hB (zAa (b:=w) Bz (by go_grown)))) (zh fun v hv=>⟨(hli.out v hv).sl.below (zAa hB (zAa (b:=w) Bz (by go_grown))),by have:=(hli.out v hv).mx;unfold maxLen at this;omega,fun x hx=>tm_lens ((hli.out v hv).tm x hx)⟩) hln 8 8 2 true S0).mono ?_
 rintro e w1 ⟨rfl,b1⟩;replace b1:=zAa (a:=w) (by go_grown) b1;replace Bz:=zAa Bz b1;clear b1;go_wp2_with fail
 with_reducible refine(shortVec_q (hx.below (zAa hB (zAa (b:=w1) Bz (by go_grown)))) (zh fun t ht=>tm_lens (xi.out t ht)) hlx 8 2 false S1).mono ?_
 rintro e w2 ⟨rfl,b2⟩;replace b2:=zAa (a:=w1) (by go_grown) b2;replace Bz:=zAa Bz b2;clear b2;go_wp2_with fail
 with_reducible refine(awake6_q (zh (Tab.below hT.out (zAa hB (zAa (b:=w2) Bz (by go_grown)))))).mono ?_
 rintro e w3 ⟨rfl,b3⟩;replace b3:=zAa (a:=w2) (by go_grown) b3;replace Bz:=zAa Bz b3;clear b3;go_wp2_with fail
 go_ret
 have hF:=zAa (c:=w3) hB Bz;exact⟨rfl,zAa hF (by go_grown)⟩
theorem tells6_2 {w:World} {A X PA:Option Addr} {n c nx cx np cp:Nat} {CL:List Vc} {LX:List Tm} {kn:Int} (hl:Sl Vc.cs 1 w A n c CL) (hli:Hid (∀v∈CL,VgIn w v)) (hln:n≤9223372036854775807) (hx:Sl Tm.cs 5 w X nx cx LX) (xi:Hid (∀t∈LX,TmIn w t)) (hlx:nx≤9223372036854775807) (S0:Hid (shortVcs 8 8 2 n CL=true)) (S1:Hid (shortVc 8 2 ⟨X,nx,cx,LX⟩=true)) (g1:(30:Int)<(np:Int)) (hT:Hid (Tab w)) :
  Calls Tryz.prog 5 #[.slice A n c,.slice X nx cx,.slice PA np cp,.int .i64 kn] w (Yes w):=by
 have hB:=Below.refl w.heap.size w;have Bz:=Below.refl w.heap.size w;go_enter Tryz.func5,Tryz.ntmps5
 go_wp2_with fail
 with_reducible refine(shortVecs_q (hl.below (zAa hB (zAa (b:=w) Bz (by go_grown)))) (zh fun v hv=>⟨(hli.out v hv).sl.below (zAa hB (zAa (b:=w) Bz (by go_grown))),by have:=(hli.out v hv).mx;unfold maxLen at this;omega,fun x hx=>tm_lens ((hli.out v hv).tm x hx)⟩) hln 8 8 2 true S0).mono ?_
 rintro e w1 ⟨rfl,b1⟩;replace b1:=zAa (a:=w) (by go_grown) b1;replace Bz:=zAa Bz b1;clear b1;go_wp2_with fail
 with_reducible refine(shortVec_q (hx.below (zAa hB (zAa (b:=w1) Bz (by go_grown)))) (zh fun t ht=>tm_lens (xi.out t ht)) hlx 8 2 true S1).mono ?_
 rintro e w2 ⟨rfl,b2⟩;replace b2:=zAa (a:=w1) (by go_grown) b2;replace Bz:=zAa Bz b2;clear b2;go_wp2_with fail
 with_reducible refine(awake6_q (zh (Tab.below hT.out (zAa hB (zAa (b:=w2) Bz (by go_grown)))))).mono ?_
 rintro e w3 ⟨rfl,b3⟩;replace b3:=zAa (a:=w2) (by go_grown) b3;replace Bz:=zAa Bz b3;clear b3;go_wp2_with fail
 go_ret
 have hF:=zAa (c:=w3) hB Bz;exact⟨rfl,zAa hF (by go_grown)⟩
theorem tells6_3 {w:World} {A X PA:Option Addr} {n c nx cx np cp:Nat} {CL:List Vc} {LX:List Tm} {kn:Int} (hl:Sl Vc.cs 1 w A n c CL) (hli:Hid (∀v∈CL,VgIn w v)) (hln:n≤9223372036854775807) (hx:Sl Tm.cs 5 w X nx cx LX) (xi:Hid (∀t∈LX,TmIn w t)) (hlx:nx≤9223372036854775807) (S0:Hid (shortVcs 8 8 2 n CL=true)) (S1:Hid (shortVc 8 2 ⟨X,nx,cx,LX⟩=true)) (g1:¬(30:Int)<(np:Int)) (g2:(40:Int)<kn) (g3:kn≤65536) (hT:Hid (Tab w)) :
  Calls Tryz.prog 5 #[.slice A n c,.slice X nx cx,.slice PA np cp,.int .i64 kn] w (Yes w):=by
 have hB:=Below.refl w.heap.size w;have Bz:=Below.refl w.heap.size w;go_enter Tryz.func5,Tryz.ntmps5
 go_wp2_with fail
 with_reducible refine(shortVecs_q (hl.below (zAa hB (zAa (b:=w) Bz (by go_grown)))) (zh fun v hv=>⟨(hli.out v hv).sl.below (zAa hB (zAa (b:=w) Bz (by go_grown))),by have:=(hli.out v hv).mx;unfold maxLen at this;omega,fun x hx=>tm_lens ((hli.out v hv).tm x hx)⟩) hln 8 8 2 true S0).mono ?_
 rintro e w1 ⟨rfl,b1⟩;replace b1:=zAa (a:=w) (by go_grown) b1;replace Bz:=zAa Bz b1;clear b1;go_wp2_with fail
 with_reducible refine(shortVec_q (hx.below (zAa hB (zAa (b:=w1) Bz (by go_grown)))) (zh fun t ht=>tm_lens (xi.out t ht)) hlx 8 2 true S1).mono ?_
 rintro e w2 ⟨rfl,b2⟩;replace b2:=zAa (a:=w1) (by go_grown) b2;replace Bz:=zAa Bz b2;clear b2;go_wp2_with fail
 with_reducible refine(awake6_q (zh (Tab.below hT.out (zAa hB (zAa (b:=w2) Bz (by go_grown)))))).mono ?_
 rintro e w3 ⟨rfl,b3⟩;replace b3:=zAa (a:=w2) (by go_grown) b3;replace Bz:=zAa Bz b3;clear b3;go_wp2_with fail
 go_ret
 have hF:=zAa (c:=w3) hB Bz;exact⟨rfl,zAa hF (by go_grown)⟩
theorem TellsW.tv {w w':World} {P:List (Int×Rat)} {K N:Nat} {e:Ending} (h:TellsW w P K N e w'):TellsV w P K e w':=by
 obtain⟨A,n,c,h1,h2,_,h3⟩:=h;exact⟨A,n,c,h1,h2,h3⟩
theorem tells6_ok {w:World} {A X PA:Option Addr} {n c nx cx np cp:Nat} {CL:List Vc} {LX:List Tm} {PL:List Int} {kn:Int} (hl:Sl Vc.cs 1 w A n c CL) (hli:Hid (∀v∈CL,VgIn w v)) (hln:n≤9223372036854775807) (hx:Sl Tm.cs 5 w X nx cx LX) (xi:Hid (∀t∈LX,TmIn w t)) (hlx:nx≤9223372036854775807) (hp:Sl ics 1 w PA np cp PL) (hpi:Hid (∀x∈PL,I64 x)) (S0:Hid (shortVcs 8 8 2 n CL=true)) (S1:Hid (shortVc 8 2 ⟨X,nx,cx,LX⟩=true)) (xc:X=none→cx=0) (g1:¬(30:Int)<(np:Int)) (g2:¬((40:Int)<kn∧kn≤65536)) (hT:Hid (Tab w)) :
  Calls Tryz.prog 5 #[.slice A n c,.slice X nx cx,.slice PA np cp,.int .i64 kn] w (Yes w):=by
 obtain⟨gx0,hnx⟩:=gv_small (cnt:=8) (most:=2) hx xi.out xc S1.out;have hs0:=S0.out;unfold shortVcs at hs0
 simp only[Bool.and_eq_true,decide_eq_true_eq,List.all_eq_true] at hs0
 have hnc:n≤8:=zo;have hvs:=hs0.2;have HGX:=zh gx0;have HGV:Hid (∀v∈CL,GV w v.A v.n v.c (prs v.L) 32∧v.n≤8):=zh fun v hv=>gv_small (cnt:=8) (most:=2) (hli.out v hv).sl (hli.out v hv).tm (hli.out v hv).cap (hvs v hv);have HF2:Hid (∀v∈CL,∀t∈v.L,FrOk w 2 t.x):=zh fun v hv=>in_ok (hli.out v hv).tm (short_le (cnt:=8) (most:=2) (hvs v hv)).2 (Nat.le_refl _);have HF8:Hid (∀v∈CL,∀t∈v.L,FrOk w 800000 t.x):=zh fun v hv=>in_ok (hli.out v hv).tm (short_le (cnt:=8) (most:=2) (hvs v hv)).2 zd;have hlen:∀v∈CL,(prs v.L).length≤8:=fun v hv=>by have h1:=(HGV.out v hv).1.len;have h2:=(HGV.out v hv).2;omega
 have hwv:∀v∈CL,wtot (prs v.L)≤32:=fun v hv=>Nat.le_trans (wtot_le (m:=4) (sz_small (cnt:=8) (most:=2) (hli.out v hv).tm (hvs v hv))) (zia (hlen v hv));have hwx:wtot (prs LX)≤32:=Nat.le_trans (wtot_le (m:=4) (sz_small (cnt:=8) (most:=2) xi.out S1.out)) (zia gx0.len);have hsd:∀v∈CL,sz (pdot (prs LX) (prs v.L))≤529:=fun v hv=>by
  have h1:=dot_sz (M:=32) (K:=33) (gv_sz (HGV.out v hv).1) gx0.szs;have h2:(prs LX).length*(32+33+1)≤8*66:=Nat.mul_le_mul (zia gx0.len) (Nat.le_refl _);omega
 have HLV:Hid (∀v∈CL,wtot (prs v.L)≤32∧sz (pdot (prs LX) (prs v.L))≤529):=zh fun v hv=>⟨hwv v hv,hsd v hv⟩;have HC1:Hid (∀x∈(CL.map fun v=>prs v.L),x.length≤1000):=zh fun x hx=>by obtain⟨v,hv,rfl⟩:=List.mem_map.1 hx;have:=hlen v hv;omega
 have HC2:Hid (∀x∈(CL.map fun v=>prs v.L),x.length≤8∧wtot x≤32):=zh fun x hx=>by obtain⟨v,hv,rfl⟩:=List.mem_map.1 hx;exact⟨hlen v hv,hwv v hv⟩
 have HKK:Hid (∀x∈(CL.map fun v=>prs v.L),sz (pdot (nrm (prs LX)) x)≤529):=zh fun x hx=>by obtain⟨v,hv,rfl⟩:=List.mem_map.1 hx;rw[pdot_nrm];exact hsd v hv
 have HCW:Hid (CW w A n c (CL.map fun v=>prs v.L) 32):=zh ⟨CL,hl,fun v hv=>(HGV.out v hv).1,rfl⟩;obtain⟨DX,dx⟩:=in_vcd hx xi.out (short_le (cnt:=8) (most:=2) S1.out).2 zd;have HVD:=zh dx;obtain⟨E,hE⟩:=All2.of (R:=fun(v:Vc) D=>VcD w v.A v.n v.c D) (L:=CL) fun v hv=>in_vcd (hli.out v hv).sl (hli.out v hv).tm (short_le (cnt:=8) (most:=2) (hvs v hv)).2 zd;have HRD:Hid (RowsD w A n c E):=zh ⟨⟨CL,hl,hE⟩,fun D hD=>by
  obtain⟨i,hi⟩:=List.getElem?_of_mem hD;have hi2:i<CL.length:=by rw[hE.1];exact(List.getElem?_eq_some_iff.1 hi).1
  have h1:=VcD.len (hE.2 i _ D (List.getElem?_eq_getElem hi2) hi);have h2:=(HGV.out _ (List.getElem_mem hi2)).2;omega⟩
 obtain⟨T,zt,hti⟩:=turn_is (CL.map fun v=>prs v.L) g2;have HTI:=zh hti;have HTL:=zh (turn_is_len hti (by rw[List.length_map,hl.1];omega));obtain⟨I,zi,HII⟩:∃I z,Hid (I=(if permL PL=true then invL PL else [])∧z=(if permL PL=true then(0:Int) else 2)):=⟨_,_,zh ⟨rfl,rfl⟩⟩;have hil:I.length≤30:=by
  rw[HII.out.1];split
  ·rw[invL_len,hp.1];omega
  ·exact Nat.zero_le _
 obtain⟨V,zm,HMI⟩:∃V z,Hid (V=(if(permL PL&&okM np (nrm (prs LX)))=true then nrm (movF PL (nrm (prs LX))) else [])∧z=(if(permL PL&&okM np (nrm (prs LX)))=true then(0:Int) else 2)):=⟨_,_,zh ⟨rfl,rfl⟩⟩;have hvl:V.length≤1000:=by
  rw[HMI.out.1];split
  ·refine Nat.le_trans (nrm_len _) ?_;unfold movF
   rw[List.length_map];have h1:=nrm_len (prs LX);have h2:=gx0.len;omega
  ·exact Nat.zero_le _
 have htl:(nrm (timesP (CL.map fun v=>prs v.L) (nrm (prs LX)))).length≤1000:=by
  have h1:=nrm_len (timesP (CL.map fun v=>prs v.L) (nrm (prs LX)));have h2:=timesP_len (k:=8) (fun c hc=>(HC2.out c hc).1) (nrm (prs LX));have h3:=nrm_len (prs LX);have h4:=gx0.len;omega
 have HLE:Hid (nrm (idxP ((CL.map fun v=>prs v.L).map fun x=>pdot (prs LX) x))=nrm (idxP (CL.map fun v=>pdot (prs LX) (prs v.L)))):=zh (by rw[List.map_map];rfl);have hll:(nrm (idxP (CL.map fun v=>pdot (prs LX) (prs v.L)))).length≤1000:=by
  have h1:=nrm_len (idxP (CL.map fun v=>pdot (prs LX) (prs v.L)));have h2:(idxP (CL.map fun v=>pdot (prs LX) (prs v.L))).length=n:=by unfold idxP;rw[List.length_mapIdx,List.length_map,hl.1]
  omega
 have hll2:=hll;rw[←HLE.out] at hll2;obtain⟨r,HR⟩:∃r,Hid (((CL.all fun v=>rightB v.L kn)&&decide (0≤kn))=r):=⟨_,zh rfl⟩;obtain⟨r2,HR2⟩:∃r,Hid (permL PL=r):=⟨_,zh rfl⟩;have grr:(r==r)=true:=by simp
 have grr2:(r2==r2)=true:=by simp
 have gz1:(zt==zt)=true:=by simp
 have gz2:(zi==zi)=true:=by simp
 have gz3:(zm==zm)=true:=by simp
 clear hs0 gx0 dx hE hlen hwv hsd hvs hti;go_enter Tryz.func5,Tryz.ntmps5
 go_upto_region 1 with(fail)
 go_cut [47] (fun v wx=>v=.bool false∧Below w.heap.size w wx)
 case first =>
  have hB:=Below.refl w.heap.size w;by_cases h40:(40:Int)<kn
  ·have h41:¬kn≤65536:=fun h=>g2 ⟨h40,h⟩;have Bz:=Below.refl w.heap.size w;go_wp2_with fail
   with_reducible refine(shortVecs_q (hl.below (zAa hB (zAa (b:=w) Bz (by go_grown)))) (zh fun v hv=>⟨(hli.out v hv).sl.below (zAa hB (zAa (b:=w) Bz (by go_grown))),by have:=(hli.out v hv).mx;unfold maxLen at this;omega,fun x hx=>tm_lens ((hli.out v hv).tm x hx)⟩) hln 8 8 2 true S0).mono ?_
   rintro e w1 ⟨rfl,b1⟩;replace b1:=zAa (a:=w) (by go_grown) b1;replace Bz:=zAa Bz b1;clear b1;go_wp2_with fail
   with_reducible refine(shortVec_q (hx.below (zAa hB (zAa (b:=w1) Bz (by go_grown)))) (zh fun t ht=>tm_lens (xi.out t ht)) hlx 8 2 true S1).mono ?_
   rintro e w2 ⟨rfl,b2⟩;replace b2:=zAa (a:=w1) (by go_grown) b2;replace Bz:=zAa Bz b2;clear b2;go_wp2_with fail
   go_meet
   case rel=>exact⟨by rw[decide_eq_false (p:=(30:Int)<(np:Int)) zo,decide_eq_false (p:=kn≤65536) zo];rfl,zAa hB Bz⟩
  ·have hB2:=hB;have Bz:=Below.refl w.heap.size w;go_wp2_with fail
   with_reducible refine(shortVecs_q (hl.below (zAa hB (zAa (b:=w) Bz (by go_grown)))) (zh fun v hv=>⟨(hli.out v hv).sl.below (zAa hB (zAa (b:=w) Bz (by go_grown))),by have:=(hli.out v hv).mx;unfold maxLen at this;omega,fun x hx=>tm_lens ((hli.out v hv).tm x hx)⟩) hln 8 8 2 true S0).mono ?_
   rintro e w1 ⟨rfl,b1⟩;replace b1:=zAa (a:=w) (by go_grown) b1;replace Bz:=zAa Bz b1;clear b1;go_wp2_with fail
   with_reducible refine(shortVec_q (hx.below (zAa hB (zAa (b:=w1) Bz (by go_grown)))) (zh fun t ht=>tm_lens (xi.out t ht)) hlx 8 2 true S1).mono ?_
   rintro e w2 ⟨rfl,b2⟩;replace b2:=zAa (a:=w1) (by go_grown) b2;replace Bz:=zAa Bz b2;clear b2;go_wp2_with fail
   go_meet
   case rel=>exact⟨by rw[decide_eq_false (p:=(30:Int)<(np:Int)) zo],zAa hB Bz⟩
 case rest =>
  obtain⟨rfl,hB0⟩:=hcut;obtain⟨wx,rfl,hB⟩:∃wx,wx=_∧Below w.heap.size w wx:=⟨_,rfl,hB0⟩;clear hB0;have Bz:=Below.refl wx.heap.size wx;go_wp2_with fail
  with_reducible refine(copyVecs_q (HRD.out.below (zAa hB (zAa (b:=wx) Bz (by go_grown)))) zo).mono ?_
  rintro e w11 ⟨A11,c11,rfl,h11,b11⟩;replace b11:=zAa (a:=wx) (by go_grown) b11;replace Bz:=zAa Bz b11;clear b11;go_wp2_with fail
  with_reducible refine(copyVec_q (HVD.out.below (zAa hB (zAa (b:=w11) Bz (by go_grown)))) zo).mono ?_
  rintro e w12 ⟨A12,c12,rfl,h12,b12⟩;replace b12:=zAa (a:=w11) (by go_grown) b12;replace h11:=h11.below b12;replace Bz:=zAa Bz b12;clear b12;go_wp2_with fail
  with_reducible refine(copyInts_q (hp.below (zAa hB (zAa (b:=w12) Bz (by go_grown)))) zo).mono ?_
  rintro e w13 ⟨A13,c13,rfl,h13,b13⟩;replace b13:=zAa (a:=w12) (by go_grown) b13;replace h11:=h11.below b13;replace h12:=h12.below b13;replace Bz:=zAa Bz b13;clear b13;go_wp2_with fail
  with_reducible refine(turnA (HCW.out.below (zAa hB (zAa (b:=w13) Bz (by go_grown)))) HC1.out zd zo HTI.out (zh (Tab.below hT.out (zAa hB (zAa (b:=w13) Bz (by go_grown)))))).mono ?_
  rintro e w14 ⟨A14,n14,c14,rfl,h14,b14⟩;replace b14:=zAa (a:=w13) (by go_grown) b14;replace h11:=h11.below b14;replace h13:=h13.below b14;replace h12:=h12.below b14;replace Bz:=zAa Bz b14;clear b14;go_wp2_with fail
  with_reducible refine(turnB (hl.below (zAa hB (zAa (b:=w14) Bz (by go_grown)))) (zh fun v hv=>⟨(HGV.out v hv).1.below (zAa hB (zAa (b:=w14) Bz (by go_grown))),by have:=(HGV.out v hv).2;omega⟩) zd zo HTI.out (zh (Tab.below hT.out (zAa hB (zAa (b:=w14) Bz (by go_grown)))))).mono ?_
  rintro e w15 ⟨A15,n15,c15,rfl,h15,b15⟩;replace b15:=zAa (a:=w14) (by go_grown) b15;replace h14:=h14.below b15;replace h11:=h11.below b15;replace h13:=h13.below b15;replace h12:=h12.below b15;replace Bz:=zAa Bz b15;clear b15;go_wp2_with fail
  with_reducible refine(inverseA (hp.below (zAa hB (zAa (b:=w15) Bz (by go_grown)))) hpi zo HII).mono ?_
  rintro e w16 ⟨A16,n16,c16,rfl,h16,b16⟩;replace b16:=zAa (a:=w15) (by go_grown) b16;replace h14:=h14.below b16;replace h15:=h15.below b16;replace h11:=h11.below b16;replace h13:=h13.below b16;replace h12:=h12.below b16;replace Bz:=zAa Bz b16;clear b16;go_wp2_with fail
  with_reducible refine(inverseR_q (hp.below (zAa hB (zAa (b:=w16) Bz (by go_grown)))) zo HII).mono ?_
  rintro e w17 ⟨A17,n17,c17,rfl,h17,b17⟩;replace b17:=zAa (a:=w16) (by go_grown) b17;replace h16:=h16.below b17;replace h14:=h14.below b17;replace h15:=h15.below b17;replace h11:=h11.below b17;replace h13:=h13.below b17;replace h12:=h12.below b17;replace Bz:=zAa Bz b17;clear b17;go_wp2_with fail
  with_reducible refine(moveA (hp.below (zAa hB (zAa (b:=w17) Bz (by go_grown)))) hpi zo (HGX.out.below (zAa hB (zAa (b:=w17) Bz (by go_grown)))) zd zo HMI (zh (Tab.below hT.out (zAa hB (zAa (b:=w17) Bz (by go_grown)))))).mono ?_
  rintro e w18 ⟨A18,n18,c18,rfl,h18,b18⟩;replace b18:=zAa (a:=w17) (by go_grown) b18;replace h16:=h16.below b18;replace h17:=h17.below b18;replace h14:=h14.below b18;replace h15:=h15.below b18;replace h11:=h11.below b18;replace h13:=h13.below b18;replace h12:=h12.below b18;replace Bz:=zAa Bz b18;clear b18;go_wp2_with fail
  with_reducible refine(moveR_q (hp.below (zAa hB (zAa (b:=w18) Bz (by go_grown)))) zo (HGX.out.below (zAa hB (zAa (b:=w18) Bz (by go_grown)))) zd zo HMI (zh (Tab.below hT.out (zAa hB (zAa (b:=w18) Bz (by go_grown)))))).mono ?_
  rintro e w19 ⟨A19,n19,c19,rfl,h19,b19⟩;replace b19:=zAa (a:=w18) (by go_grown) b19;replace h16:=h16.below b19;replace h17:=h17.below b19;replace h14:=h14.below b19;replace h15:=h15.below b19;replace h11:=h11.below b19;replace h13:=h13.below b19;replace h12:=h12.below b19;replace h18:=h18.below b19;replace Bz:=zAa Bz b19;clear b19;go_wp2_with fail
  with_reducible refine(sameVecs_q (CM.below h14 (by go_grown)) (CM.below h15 (by go_grown)) HTL.out.2 HTL.out.2 zd zd (by have h1:=CM.size h14;have h2:=HTL.out.1;omega) (by have h1:=CM.size h15;have h2:=HTL.out.1;omega) true (zh (decide_eq_true rfl))).mono ?_
  rintro e w20 ⟨rfl,b20⟩;replace b20:=zAa (a:=w19) (by go_grown) b20;replace h16:=h16.below b20;replace h17:=h17.below b20;replace h11:=h11.below b20;replace h13:=h13.below b20;replace h12:=h12.below b20;replace h18:=h18.below b20;replace h19:=h19.below b20;replace Bz:=zAa Bz b20;clear b20;go_wp2_with fail
  with_reducible refine(sameInts_q (Sl.below h16 (by go_grown)) (Sl.below h17 (by go_grown)) (by have h1:=Sl.len h16;have h2:=hil;omega) (by have h1:=Sl.len h17;have h2:=hil;omega) true (zh (decide_eq_true rfl))).mono ?_
  rintro e w21 ⟨rfl,b21⟩;replace b21:=zAa (a:=w20) (by go_grown) b21;replace h11:=h11.below b21;replace h13:=h13.below b21;replace h12:=h12.below b21;replace h18:=h18.below b21;replace h19:=h19.below b21;replace Bz:=zAa Bz b21;clear b21;go_wp2_with fail
  with_reducible refine(sameVec_q (NV.below h18 (by go_grown)) (NV.below h19 (by go_grown)) zd zd (by have h1:=NV.len h18;have h2:=hvl;omega) (by have h1:=NV.len h19;have h2:=hvl;omega) true (zh (decide_eq_true rfl))).mono ?_
  rintro e w22 ⟨rfl,b22⟩;replace b22:=zAa (a:=w21) (by go_grown) b22;replace h11:=h11.below b22;replace h13:=h13.below b22;replace h12:=h12.below b22;replace Bz:=zAa Bz b22;clear b22;go_wp2_with fail
  with_reducible refine((timesW 32 32 8 32 8 32 512 64 (HCW.out.below (zAa hB (zAa (b:=w22) Bz (by go_grown)))) (HGX.out.below (zAa hB (zAa (b:=w22) Bz (by go_grown)))) HC2.out hnx hwx zd zd zd zd zo zd zd zd (zh (Tab.below hT.out (zAa hB (zAa (b:=w22) Bz (by go_grown)))))).mono (fun _ _ k=>k.tv)).mono ?_
  rintro e w23 ⟨A23,n23,c23,rfl,h23,b23⟩;replace b23:=zAa (a:=w22) (by go_grown) b23;replace h11:=h11.below b23;replace h13:=h13.below b23;replace h12:=h12.below b23;replace Bz:=zAa Bz b23;clear b23;go_wp2_with fail
  with_reducible refine(timesR_q 32 32 70 568 (hl.below (zAa hB (zAa (b:=w23) Bz (by go_grown)))) (zh fun v hv=>⟨(HGV.out v hv).1.below (zAa hB (zAa (b:=w23) Bz (by go_grown))),by have:=(HGV.out v hv).2;omega⟩) (HGX.out.below (zAa hB (zAa (b:=w23) Bz (by go_grown)))) zo zd zd zo zd (zh (Tab.below hT.out (zAa hB (zAa (b:=w23) Bz (by go_grown)))))).mono ?_
  rintro e w24 ⟨A24,n24,c24,rfl,h24,b24⟩;replace b24:=zAa (a:=w23) (by go_grown) b24;replace h11:=h11.below b24;replace h13:=h13.below b24;replace h12:=h12.below b24;replace h23:=h23.below b24;replace Bz:=zAa Bz b24;clear b24;go_wp2_with fail
  with_reducible refine(sameVec_q (NV.below h23 (by go_grown)) (NV.below h24 (by go_grown)) zd zd (by have h1:=NV.len h23;have h2:=htl;omega) (by have h1:=NV.len h24;have h2:=htl;omega) true (zh (decide_eq_true rfl))).mono ?_
  rintro e w25 ⟨rfl,b25⟩;replace b25:=zAa (a:=w24) (by go_grown) b25;replace h11:=h11.below b25;replace h13:=h13.below b25;replace h12:=h12.below b25;replace Bz:=zAa Bz b25;clear b25;go_wp2_with fail
  with_reducible refine((leftC 32 32 8 529 8 (HGX.out.below (zAa hB (zAa (b:=w25) Bz (by go_grown)))) (HCW.out.below (zAa hB (zAa (b:=w25) Bz (by go_grown)))) hnx HC1.out hnc zd HKK.out zd zd zd zd zd zd (zh (Tab.below hT.out (zAa hB (zAa (b:=w25) Bz (by go_grown)))))).mono (fun _ _ k=>k.tv)).mono ?_
  rintro e w26 ⟨A26,n26,c26,rfl,h26,b26⟩;replace b26:=zAa (a:=w25) (by go_grown) b26;replace h11:=h11.below b26;replace h13:=h13.below b26;replace h12:=h12.below b26;replace Bz:=zAa Bz b26;clear b26;go_wp2_with fail
  with_reducible refine(leftR_q 32 32 529 32 32 (HGX.out.below (zAa hB (zAa (b:=w26) Bz (by go_grown)))) (hl.below (zAa hB (zAa (b:=w26) Bz (by go_grown)))) (zh fun v hv=>⟨(HGV.out v hv).1.below (zAa hB (zAa (b:=w26) Bz (by go_grown))),by have:=(HGV.out v hv).2;omega,HLV.out v hv⟩) zd hwx zo zd zo (zh (Tab.below hT.out (zAa hB (zAa (b:=w26) Bz (by go_grown)))))).mono ?_
  rintro e w27 ⟨A27,n27,c27,rfl,h27,b27⟩;replace b27:=zAa (a:=w26) (by go_grown) b27;replace h11:=h11.below b27;replace h13:=h13.below b27;replace h12:=h12.below b27;replace h26:=h26.below b27;replace Bz:=zAa Bz b27;clear b27;go_wp2_with fail
  with_reducible refine(sameVec_q (NV.below h26 (by go_grown)) (NV.below h27 (by go_grown)) zd zd (by have h1:=NV.len h26;have h2:=hll;omega) (by have h1:=NV.len h27;have h2:=hll;omega) true (zh (decide_eq_true HLE.out))).mono ?_
  rintro e w28 ⟨rfl,b28⟩;replace b28:=zAa (a:=w27) (by go_grown) b28;replace h11:=h11.below b28;replace h13:=h13.below b28;replace h12:=h12.below b28;replace Bz:=zAa Bz b28;clear b28;go_wp2_with fail
  with_reducible refine(rightA (m:=2) (hl.below (zAa hB (zAa (b:=w28) Bz (by go_grown)))) (zh fun v hv=>⟨(hli.out v hv).sl.below (zAa hB (zAa (b:=w28) Bz (by go_grown))),fun t ht=>(HF2.out v hv t ht).below (zAa hB (zAa (b:=w28) Bz (by go_grown))),by have:=(HGV.out v hv).2;omega⟩) zd zo r HR (zh (Tab.below hT.out (zAa hB (zAa (b:=w28) Bz (by go_grown)))))).mono ?_
  rintro e w29 ⟨rfl,b29⟩;replace b29:=zAa (a:=w28) (by go_grown) b29;replace h11:=h11.below b29;replace h13:=h13.below b29;replace h12:=h12.below b29;replace Bz:=zAa Bz b29;clear b29;go_wp2_with fail
  with_reducible refine(rightR6_q (M:=32) (hl.below (zAa hB (zAa (b:=w29) Bz (by go_grown)))) (zh fun v hv=>⟨(HGV.out v hv).1.below (zAa hB (zAa (b:=w29) Bz (by go_grown))),(hli.out v hv).sl.below (zAa hB (zAa (b:=w29) Bz (by go_grown))),fun t ht=>(HF8.out v hv t ht).below (zAa hB (zAa (b:=w29) Bz (by go_grown))),by have:=(HGV.out v hv).2;omega⟩) zd zo r HR (zh (Tab.below hT.out (zAa hB (zAa (b:=w29) Bz (by go_grown)))))).mono ?_
  rintro e w30 ⟨rfl,b30⟩;replace b30:=zAa (a:=w29) (by go_grown) b30;replace h11:=h11.below b30;replace h13:=h13.below b30;replace h12:=h12.below b30;replace Bz:=zAa Bz b30;clear b30;go_wp2_with fail
  with_reducible refine(perm_q (hp.below (zAa hB (zAa (b:=w30) Bz (by go_grown)))) hpi zo r2 HR2).mono ?_
  rintro e w31 ⟨rfl,b31⟩;replace b31:=zAa (a:=w30) (by go_grown) b31;replace h11:=h11.below b31;replace h13:=h13.below b31;replace h12:=h12.below b31;replace Bz:=zAa Bz b31;clear b31;go_wp2_with fail
  with_reducible refine(permR_q (hp.below (zAa hB (zAa (b:=w31) Bz (by go_grown)))) zo r2 HR2).mono ?_
  rintro e w32 ⟨rfl,b32⟩;replace b32:=zAa (a:=w31) (by go_grown) b32;replace h11:=h11.below b32;replace h13:=h13.below b32;replace h12:=h12.below b32;replace Bz:=zAa Bz b32;clear b32;go_wp2_with fail
  with_reducible refine(sameVecs_d (RowsD.below h11 (by go_grown)) (HRD.out.below (zAa hB (zAa (b:=w32) Bz (by go_grown)))) zo).mono ?_
  rintro e w33 ⟨rfl,b33⟩;replace b33:=zAa (a:=w32) (by go_grown) b33;replace h13:=h13.below b33;replace h12:=h12.below b33;replace Bz:=zAa Bz b33;clear b33;go_wp2_with fail
  with_reducible refine(sameVec_d (VcD.below h12 (by go_grown)) (HVD.out.below (zAa hB (zAa (b:=w33) Bz (by go_grown)))) zo).mono ?_
  rintro e w34 ⟨rfl,b34⟩;replace b34:=zAa (a:=w33) (by go_grown) b34;replace h13:=h13.below b34;replace Bz:=zAa Bz b34;clear b34;go_wp2_with fail
  with_reducible refine(sameInts_q (Sl.below h13 (by go_grown)) (hp.below (zAa hB (zAa (b:=w34) Bz (by go_grown)))) zo zo true (zh (decide_eq_true rfl))).mono ?_
  rintro e w35 ⟨rfl,b35⟩;replace b35:=zAa (a:=w34) (by go_grown) b35;replace Bz:=zAa Bz b35;clear b35;go_wp2_with fail
  with_reducible refine(awake6_q (zh (Tab.below hT.out (zAa hB (zAa (b:=w35) Bz (by go_grown)))))).mono ?_
  rintro e w36 ⟨rfl,b36⟩;replace b36:=zAa (a:=w35) (by go_grown) b36;replace Bz:=zAa Bz b36;clear b36;go_wp2_with fail
  go_ret
  have hF:=zAa (c:=w36) hB Bz;exact⟨rfl,zAa hF (by go_grown)⟩
theorem tells6_q {w:World} {A X PA:Option Addr} {n c nx cx np cp:Nat} {CL:List Vc} {LX:List Tm} {PL:List Int} {kn:Int} (hl:Sl Vc.cs 1 w A n c CL) (hli:Hid (∀v∈CL,VgIn w v)) (hln:n≤9223372036854775807) (hx:Sl Tm.cs 5 w X nx cx LX) (xi:Hid (∀t∈LX,TmIn w t)) (hlx:nx≤9223372036854775807) (hp:Sl ics 1 w PA np cp PL) (hpi:Hid (∀x∈PL,I64 x)) (xc:X=none→cx=0) (hT:Hid (Tab w)) :
  Calls Tryz.prog 5 #[.slice A n c,.slice X nx cx,.slice PA np cp,.int .i64 kn] w (Yes w):=by
 cases s0:shortVcs 8 8 2 n CL
 ·exact tells6_0 hl hli hln hx xi hlx (zh s0) hT
 ·cases s1:shortVc 8 2 ⟨X,nx,cx,LX⟩
  ·exact tells6_1 hl hli hln hx xi hlx (zh s0) (zh s1) hT
  ·by_cases g1:(30:Int)<(np:Int)
   ·exact tells6_2 hl hli hln hx xi hlx (zh s0) (zh s1) g1 hT
   ·by_cases g2:(40:Int)<kn∧kn≤65536
    ·exact tells6_3 hl hli hln hx xi hlx (zh s0) (zh s1) g1 g2.1 g2.2 hT
    ·exact tells6_ok hl hli hln hx xi hlx hp hpi (zh s0) (zh s1) xc g1 g2 hT
theorem tells6_any {w:World} {l x p:Value} {kn:Int} (hl:CsIn w l) (hx:TsIn w x) (hp:IsIn w p) (_:-9223372036854775808≤kn∧kn≤9223372036854775807) (hT:Tab w) :
  Calls Tryz.prog 5 #[l,x,p,.int .i64 kn] w (Yes w):=by
 obtain⟨A,n,c,CL,rfl,l1,l2,l3⟩:=hl;obtain⟨X,nx,cx,LX,rfl,x1,x2,x3,x4⟩:=hx;obtain⟨PA,np,cp,PL,rfl,p1,p2,p3⟩:=hp;exact tells6_q l1 (zh l2) l3 x1 (zh x2) x3 p1 (zh p2) x4 (zh hT)
open Go.RowKit Tw
namespace matrixTells
open Go.ChangeShapes Go.WideShapes Go.ChangeAt Go.RowKit Tw
theorem contract (H:Type) (enc:TypeId×Value→H) (W:World) (base:Nat) (args:Array Value) (ds gs:List (DataW H)) (before:List MemPlace)
  (hval:∀(j:Nat) t v,Tryz.f5.params[j]?=some t→args[j]?=some v→Value.okWide Tryz.prog W .any base t v)
  (hW:DataW.Whole enc Tryz.prog Tryz.f5.params.toList Rows.matrixTellsSpec.vars false W args.toList ds gs before) (hL:laidMetH Tryz.prog Rows.matrixTellsRow.laid W) :
  Calls Tryz.prog 5 args W fun e W'=>∃v,e=.returned v∧Rows.matrixTellsSpec.post enc Tryz.prog Tryz.f5 false true false false W args v W':=by
 have hW':=hW;obtain⟨p,q,hA0,hV,rfl,hfz,hnd⟩:=hW;have hA:DataW.TrodAll enc Tryz.prog W 0 (fun _=>true) true Tryz.f5.params.toList args.toList ds p:=hA0;rw[Tryz.params5] at hA hval;obtain⟨v0,vs0,d0,ds0,p0,q0,hargs,rfl,rfl,h0,r0⟩:=trodAll_cons hA;obtain⟨v1,vs1,d1,ds1,p1,q1,rfl,rfl,rfl,h1,r1⟩:=trodAll_cons r0;obtain⟨v2,vs2,d2,ds2,p2,q2,rfl,rfl,rfl,h2,r2⟩:=trodAll_cons r1;obtain⟨v3,vs3,d3,ds3,p3,q3,rfl,rfl,rfl,h3,r3⟩:=trodAll_cons r2;obtain⟨rfl,rfl,rfl⟩:=trodAll_nil r3;obtain rfl:args=#[v0,v1,v2,v3]:=by cases args;simp_all
 obtain⟨rfl,rfl⟩:=trodVars_none hV;have lt0:∀x∈p0,x.block<W.heap.size:=by obtain⟨m,hm⟩:=h0;exact DataW.trod_lt m _ _ _ hm
 obtain⟨A0,l0,c0,rfl⟩:=okWide_slice Tryz.underlying77 (hval 0 77 v0 rfl rfl);have n0:=cs_of h0 ⟨_,_,_,rfl⟩;have lt1:∀x∈p1,x.block<W.heap.size:=by obtain⟨m,hm⟩:=h1;exact DataW.trod_lt m _ _ _ hm
 obtain⟨A1,l1,c1,rfl⟩:=okWide_slice Tryz.underlying45 (hval 1 45 v1 rfl rfl);have n1:=ts_of h1 ⟨_,_,_,rfl⟩;have lt2:∀x∈p2,x.block<W.heap.size:=by obtain⟨m,hm⟩:=h2;exact DataW.trod_lt m _ _ _ hm
 obtain⟨A2,l2,c2,rfl⟩:=okWide_slice Tryz.underlying34 (hval 2 34 v2 rfl rfl);have n2:=isv_of h2 ⟨_,_,_,rfl⟩;obtain⟨a3,rfl,rfl,rfl,w3⟩:=open_int Tryz.underlying3 (hval 3 3 v3 rfl rfl) h3;refine(tells6_any n0 n1 n2 (bounds_i64 w3) (tab_of hL)).mono fun e W' ⟨he,bel⟩=>?_;subst he;exact⟨_,rfl,_,_,_,[],_,[],hW',trodAll_mk1 (shut_bool Tryz.underlying4 _),(trodAll_cons_mk (Below.trod laidOut (by kernel_rfl) (of_decide_eq_true (by kernel_rfl)) h0 bel lt0) (trodAll_cons_mk (Below.trod laidOut (by kernel_rfl) (of_decide_eq_true (by kernel_rfl)) h1 bel lt1) (trodAll_cons_mk (Below.trod laidOut (by kernel_rfl) (of_decide_eq_true (by kernel_rfl)) h2 bel lt2) (trodAll_cons_mk (shut_int Tryz.underlying3 w3) trodAll_mk0)))),rfl,bel.frame _,fun h=>by cases h⟩
theorem laid_met (os:Os):laidMet Tryz.prog Rows.matrixTellsRow.laid ((laidWorld os).forCall (fun _ _=>0) ⟨#[],#[.slice none 0 0,.slice none 0 0,.slice none 0 0,.int .i64 0],[]⟩).memory :=
 laidMet_of_run' 8 (by kernel_rfl) (by kernel_rfl)
theorem reads (os:Os) {H:Type} (enc:TypeId×Value→H):∃places,DataW.whole enc Tryz.prog ((laidWorld os).forCall (fun _ _=>0) ⟨#[],#[.slice none 0 0,.slice none 0 0,.slice none 0 0,.int .i64 0],[]⟩).memory Tryz.f5.params.toList Rows.matrixTellsSpec.vars false (#[.slice none 0 0,.slice none 0 0,.slice none 0 0,.int .i64 0]:Array Value).toList 8=some ([.nil,.nil,.nil,.lit (.int .i64 0)],[],places) :=
 ⟨[],by kernel_rfl⟩
theorem lifted (os:Os) (started:os.Started) (H:Type) (enc:TypeId×Value→H) (F:Stop.Interp) :
  ReturnsInHanded {} Tryz.checked os 5 .any ((OpenSpec.ofChange Rows.matrixTellsSpec).preRow enc Tryz.prog Tryz.f5 Rows.matrixTellsRow.domain false Rows.matrixTellsRow.laid) (((OpenSpec.ofChange Rows.matrixTellsSpec).at F).post enc Tryz.prog Tryz.f5 false true false false):=by
 obtain⟨places,hx⟩:=reads os enc;refine returnsInHanded_of_row (C:=Tryz.checked) (s:=OpenSpec.ofChange Rows.matrixTellsSpec) own started (by kernel_rfl) Tryz.func5
  (witness_row_at (enc:=enc) (C:=Tryz.checked) false (laidWorld os) #[.slice none 0 0,.slice none 0 0,.slice none 0 0,.int .i64 0] rfl (by kernel_rfl) (by kernel_rfl) (by kernel_rfl)
   (OpenSpec.preRow_of_cond 8 hx (by kernel_rfl) (fun k hk=>by cases hk) (by kernel_rfl) (laid_met os))) ?_
 intro W base args ds gs before hval hW _ _ _ hL _ _;exact contract H enc W base args ds gs before hval hW hL
theorem joined:joinedFacts Tryz.pinned.checked.prog 5 Tryz.f5 (OpenSpec.ofChange Rows.matrixTellsSpec).bare Rows.matrixTellsRow=true:=by
 unfold joinedFacts
 repeat' with_reducible refine Bool.and_eq_true_iff.mpr ⟨?_,?_⟩
 all_goals decide +kernel
theorem said:Rows.MatrixTellsSaid :=
 OpenClaim.holds_of_cond 5 Tryz.f5 rfl rfl rfl rfl rfl rfl rfl ⟨rfl,rfl,rfl,rfl,rfl⟩ rfl rfl rfl rfl rfl (by kernel_rfl) Tryz.func5 joined
  (of_decide_eq_true (by kernel_rfl)) (by unfold Func.isWrapper;first | (rw[if_pos (by decide +kernel)];kernel_rfl) | (rw[if_neg (by decide +kernel)];exact⟨rfl,rfl⟩))
  (fun os started H enc _ F=>by rw[OpenClaim.pre_eq_preRow];exact lifted os started H enc F)
theorem plain (f : FuncId) (fn : Func) (hf : Tryz.pinned.checked.prog.funcNamed "tripwire/tripwirelaw06.MatrixTells" = some f) (hfn : Tryz.pinned.checked.prog.funcs[f]? = some fn) :
  false=Tryz.pinned.checked.prog.looks []∧∀(j:Nat) t,fn.params[j]?=some t→Tryz.pinned.checked.prog.wantsStandIn t=false:=by
 obtain rfl : f = 5 := Option.some.inj ((show Tryz.prog.funcNamed "tripwire/tripwirelaw06.MatrixTells" = some 5 by kernel_rfl).symm.trans hf) |>.symm;obtain rfl:fn=Tryz.f5:=(Option.some.inj (Tryz.func5.symm.trans hfn)).symm;refine⟨by kernel_rfl,fun j t ht=>?_⟩;rw[Tryz.params5] at ht;have hm:=Array.mem_of_getElem? ht;simp only[List.mem_toArray,List.mem_cons,List.not_mem_nil,or_false] at hm
 rcases hm with rfl | rfl | rfl | rfl
 ·exact(show Tryz.prog.wantsStandIn 77=false by kernel_rfl)
 ·exact(show Tryz.prog.wantsStandIn 45=false by kernel_rfl)
 ·exact(show Tryz.prog.wantsStandIn 34=false by kernel_rfl)
 ·exact(show Tryz.prog.wantsStandIn 3=false by kernel_rfl)
theorem card:Rows.MatrixTellsCardSaid :=
 Claim7.holds_tied_plain_at .later [] _ _ _ _ said (fun _ h=>by cases h) (by kernel_rfl) (fun _ h=>by cases h) matrixTells_row_tie rfl ⟨rfl,rfl⟩ (by kernel_rfl) rfl plain (by kernel_rfl)
end matrixTells
end Go.Proofs.YtljjgfmeaejnfaaGreatDoor
